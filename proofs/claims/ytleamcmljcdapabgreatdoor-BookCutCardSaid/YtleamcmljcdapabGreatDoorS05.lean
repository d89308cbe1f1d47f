/- Layer 14, plain: far too much of something; the document's examples. -/
import Derived.Test.YtleamcmljcdapabGreatDoorS04
import Derived.Test.YtleamcmljcdapabGreatDoorRows
import Derived.Lib.LaidTab
import Derived.Stop.LaidErr
import Derived.MakeChecks
import Derived.Shelf.Vars
import Derived.Handed
import Derived.HandedShaped
import Derived.Lay
import Derived.Lib.LastIndexLaws
import Derived.Shelf.Strings.Builder1
import Derived.Shelf.Strings.Builder2
import Derived.Shelf.Strings.OnBuilder
import Derived.Shelf.Small.Strs
import Derived.Shelf.Strings.BuilderF
import Derived.Shelf.Strings.BuilderK
import Derived.Shelf.Utf8.RuneCount
import Derived.Shelf.Strconv.Atoi
import Derived.Shelf.Strconv.Itoa0
import Derived.Shelf.Strconv.Itoa1
import Derived.Shelf.LaysM
import Derived.Shelf.Strconv.Itoa2
import Derived.Shelf.Strconv.Itoa3
import Derived.Shelf.Strconv.AtoiErrFast
import Derived.Shelf.Strconv.ParseIntEmpty
import Derived.Shelf.Strconv.AtoiFail
import Derived.Shelf.Strconv.Clone
import Derived.Shelf.Strconv.SyntaxError
import Derived.Shelf.LaysC
import Derived.Shelf.Strconv.ToError
import Derived.Shelf.Strconv.AtoiErr
import Derived.Shelf.Strconv.ErrVar
import Derived.Shelf.Strconv.Lower
import Derived.Shelf.Strconv.ParseUint10
import Derived.Shelf.Strconv.ParseUint10Empty
import Derived.Shelf.Strconv.ParseUint10Any
import Derived.Shelf.Strconv.ParseInt10
import Derived.Shelf.Strconv.AtoiLong
import Derived.Shelf.Strconv.AtoiInnerAll
import Derived.Shelf.Strconv.RangeError
import Derived.Shelf.Strconv.ToErrorRange
import Derived.Shelf.Strconv.AtoiAll
import Derived.Shelf.Strconv.ErrVarAll
import Derived.Shelf.Strings.Search1
import Derived.Shelf.Strings.Search2
import Derived.Shelf.Strings.Search3
import Derived.Shelf.Strings.Cut
import Derived.Shelf.Strings.Count
import Derived.Shelf.Strings.Shaped
import Derived.Shelf.Strings.LastIndex
import Derived.Shelf.Strings.LastIndexAll
import Derived.Shelf.Strings.Prefix
import Derived.Shelf.Strings.Split
import Derived.Shelf.Strings.SplitShaped
import Derived.Shelf.Unicode.Decode
import Derived.Shelf.Strings.RuneCount
import Derived.Shelf.Strings.Explode
import Derived.Shelf.Unicode.DecodeSlow
import Derived.Shelf.Unicode.DecodeAny
import Derived.Shelf.Slices.Turned
import Derived.Test.YtleamcmljcdapabGreatDoorProg
set_option linter.unusedSimpArgs false
set_option linter.unusedVariables false
namespace Go.Bk
open Go Go.Eng Go.RowKit
def len0 (t : Tr) (c : Cb) (p : Ps) : Int := [(t.ways.length : Int), (t.stay.length : Int), (t.light.length : Int), (c.homes.length : Int), (c.loans.length : Int), (p.cards.length : Int)].foldl Max.max (t.fr.length : Int)
def len1 (t : Tr) (c : Cb) (r : Ry) (p : Ps) : Int := [(r.terms.length : Int), (r.paid.length : Int), (r.prices.length : Int), (r.shares.length : Int), (r.reports.length : Int)].foldl Max.max (len0 t c p)
def len2 {α : Type} (n : Int) (l : List (List α)) : Int := l.foldl (fun n x => Max.max n (x.length : Int)) n
theorem len2_s {α : Type} {n : Int} {l : List (List α)} {k : Nat} (hk : k < l.length) {x : List α} (hx : l[k] = x) : len2 n (l.take (k + 1)) = Max.max (len2 n (l.take k)) (x.length : Int) := by
  unfold len2
  rw [List.take_succ_eq_append_getElem hk, List.foldl_append, hx]
  rfl
theorem len2_le {α : Type} : ∀ (l : List (List α)) (n : Int), n ≤ len2 n l ∧ ∀ x ∈ l, (x.length : Int) ≤ len2 n l
  | [], n => ⟨Int.le_refl _, fun x h => by cases h⟩
  | y :: l, n => by
    obtain ⟨h1, h2⟩ := len2_le l (Max.max n (y.length : Int))
    have e : len2 n (y :: l) = len2 (Max.max n (y.length : Int)) l := rfl
    rw [e]
    refine ⟨by omega, fun x hx => ?_⟩
    rcases List.mem_cons.1 hx with rfl | hx
    · omega
    · exact h2 x hx
def lenX (t : Tr) (c : Cb) (r : Ry) (p : Ps) : Int := len2 (len2 (len1 t c r p) t.ways) r.shares
def greatX (t : Tr) (c : Cb) (r : Ry) (p : Ps) : Bool := decide (40 < lenX t c r p)
structure Few (t : Tr) (c : Cb) (r : Ry) (p : Ps) : Prop where
  fr : t.fr.length ≤ 40
  ways : t.ways.length ≤ 40
  rows : ∀ x ∈ t.ways, x.length ≤ 40
  stay : t.stay.length ≤ 40
  light : t.light.length ≤ 40
  homes : c.homes.length ≤ 40
  loans : c.loans.length ≤ 40
  cards : p.cards.length ≤ 40
  terms : r.terms.length ≤ 40
  paid : r.paid.length ≤ 40
  prices : r.prices.length ≤ 40
  shares : r.shares.length ≤ 40
  srows : ∀ x ∈ r.shares, x.length ≤ 40
  reports : r.reports.length ≤ 40
theorem few_of {t : Tr} {c : Cb} {r : Ry} {p : Ps} (h : greatX t c r p = false) : Few t c r p := by
  have h0 : lenX t c r p ≤ 40 := by have := of_decide_eq_false h; omega
  have h3 := len2_le r.shares (len2 (len1 t c r p) t.ways)
  have h2 := len2_le t.ways (len1 t c r p)
  have h1 := fold_max [(r.terms.length : Int), (r.paid.length : Int), (r.prices.length : Int), (r.shares.length : Int), (r.reports.length : Int)] (len0 t c p)
  have h4 := fold_max [(t.ways.length : Int), (t.stay.length : Int), (t.light.length : Int), (c.homes.length : Int), (c.loans.length : Int), (p.cards.length : Int)] (t.fr.length : Int)
  change _ ≤ lenX t c r p ∧ ∀ x ∈ r.shares, _ ≤ lenX t c r p at h3
  change _ ≤ len1 t c r p ∧ ∀ q ∈ _, q ≤ len1 t c r p at h1
  change _ ≤ len0 t c p ∧ ∀ q ∈ _, q ≤ len0 t c p at h4
  have m1 := h1.2
  have m4 := h4.2
  simp only [List.mem_cons, List.not_mem_nil, or_false, forall_eq_or_imp, forall_eq] at m1 m4
  refine ⟨?_, ?_, fun x hx => ?_, ?_, ?_, ?_, ?_, ?_, ?_, ?_, ?_, ?_, fun x hx => ?_, ?_⟩
  case refine_3 => have := h2.2 x hx; omega
  case refine_13 => have := h3.2 x hx; omega
  all_goals omega
/-! ### The examples -/
def exT : Tr := ⟨360, [⟨30, 40⟩, ⟨20, 20⟩, ⟨60, 70⟩], [[⟨0, 0⟩, ⟨15, 20⟩, ⟨45, 50⟩], [⟨15, 20⟩, ⟨0, 0⟩, ⟨30, 35⟩], [⟨45, 50⟩, ⟨30, 35⟩, ⟨0, 0⟩]], [⟨10, 15⟩, ⟨20, 20⟩, ⟨5, 10⟩], [⟨420, 480⟩, ⟨380, 600⟩, ⟨500, 540⟩]⟩
def exC : Cb := ⟨4, [0, 1, 2], 1, [⟨0, 0, 0, 0⟩, ⟨0, 1, 1, 0⟩, ⟨1, 0, 0, 0⟩, ⟨1, 1, 1, 0⟩, ⟨2, 0, 0, 1⟩]⟩
def exR : Ry := ⟨[⟨20, 3, 30⟩, ⟨25, 12, 25⟩], [99], [[334, 333, 333]], [⟨0, 0, 0, 5⟩, ⟨1, 0, 4, 7⟩], [0, 0]⟩
def exP : Ps := ⟨[⟨⟨100, 101⟩, ⟨500, 505⟩, 0⟩], ⟨3, 5⟩, ⟨10, 20⟩⟩
theorem exT_ok : tourX exT = true := by decide
theorem exC_ok : cabX exC = true := by decide
theorem exR_ok : royalX exR = true := by decide
theorem exP_ok : printsX exP = true := by decide
def dig (u : Nat) : Str := if u < 10 then [UInt8.ofNat (48 + u)] else if u < 100 then [UInt8.ofNat (48 + u / 10), UInt8.ofNat (48 + u % 10)] else [UInt8.ofNat (48 + u / 100), UInt8.ofNat (48 + u / 10 % 10), UInt8.ofNat (48 + u % 10)]
theorem dig_dec {u : Nat} (h : u < 1000) : Lib.decDigits u = dig u := by
  unfold dig
  split
  · rw [Lib.decDigits, dif_pos (by assumption)]
  · rename_i h1
    rw [Lib.decDigits, dif_neg h1]
    split
    · rw [Lib.decDigits, dif_pos (by omega)]
      rfl
    · rw [Lib.decDigits, dif_neg (by omega), Lib.decDigits, dif_pos (by omega)]
      have e : u / 10 / 10 = u / 100 := by omega
      rw [e]
      rfl
theorem itoa_dig {n : Int} (h : 0 ≤ n) (h2 : n < 1000) : Lib.itoa n = dig n.toNat := by
  unfold Lib.itoa
  rw [if_neg (by omega), dig_dec (by omega)]
def exTS : Str := [116, 111, 117, 114, 32, 51, 54, 48, 10, 102, 114, 111, 109, 32, 51, 48, 46, 46, 52, 48, 32, 50, 48, 46, 46, 50, 48, 32, 54, 48, 46, 46, 55, 48, 10, 119, 97, 121, 115, 32, 48, 46, 46, 48, 32, 49, 53, 46, 46, 50, 48, 32, 52, 53, 46, 46, 53, 48, 10, 119, 97, 121, 115, 32, 49, 53, 46, 46, 50, 48, 32, 48, 46, 46, 48, 32, 51, 48, 46, 46, 51, 53, 10, 119, 97, 121, 115, 32, 52, 53, 46, 46, 53, 48, 32, 51, 48, 46, 46, 51, 53, 32, 48, 46, 46, 48, 10, 115, 116, 97, 121, 32, 49, 48, 46, 46, 49, 53, 32, 50, 48, 46, 46, 50, 48, 32, 53, 46, 46, 49, 48, 10, 108, 105, 103, 104, 116, 32, 52, 50, 48, 46, 46, 52, 56, 48, 32, 51, 56, 48, 46, 46, 54, 48, 48, 32, 53, 48, 48, 46, 46, 53, 52, 48, 10]
def exCS : Str := [99, 97, 98, 105, 110, 101, 116, 32, 52, 32, 49, 10, 104, 111, 109, 101, 115, 32, 48, 32, 49, 32, 50, 10, 116, 97, 107, 101, 32, 48, 32, 48, 10, 116, 97, 107, 101, 32, 49, 32, 49, 10, 98, 97, 99, 107, 32, 48, 32, 48, 10, 98, 97, 99, 107, 32, 49, 32, 49, 10, 108, 111, 111, 107, 32, 49, 32, 48, 10]
def exRS : Str := [114, 111, 121, 97, 108, 10, 97, 103, 101, 110, 116, 32, 50, 48, 32, 51, 32, 51, 48, 32, 48, 10, 97, 103, 101, 110, 116, 32, 50, 53, 32, 49, 50, 32, 50, 53, 32, 48, 10, 107, 105, 110, 100, 32, 57, 57, 32, 51, 51, 52, 32, 51, 51, 51, 32, 51, 51, 51, 10, 114, 101, 112, 111, 114, 116, 32, 48, 32, 48, 32, 48, 32, 53, 10, 114, 101, 112, 111, 114, 116, 32, 49, 32, 48, 32, 52, 32, 55, 10]
def exPS : Str := [80, 1, 0, 100, 0, 1, 1, 244, 0, 5, 0, 0, 0, 3, 0, 2, 0, 10, 0, 10, 29, 39]
set_option maxRecDepth 10000 in
theorem exT_text : tourS exT = exTS := by
  simp (config := { decide := true }) only [tourS, exT, rowS, lineS, spS, List.map_cons, List.map_nil, itoa_dig]
  try rfl
theorem exC_text : cabS exC = exCS := by
  simp (config := { decide := true }) only [cabS, exC, loanS, lineS, List.map_cons, List.map_nil, itoa_dig, if_true, if_false]
theorem exR_text : royalS exR = exRS := by
  simp (config := { decide := true }) only [royalS, exR, agentS, kindS, reportS, lineS, List.map_cons, List.map_nil, List.zip_cons_cons, List.zip_nil_right, itoa_dig]
theorem exP_bytes : psS exP = exPS := by decide
theorem ndec {p : Prop} [Decidable p] (h : p) : (!decide p) = false := by simp [h]
set_option maxRecDepth 10000 in
theorem exT_len : exTS.length = 165 := rfl
set_option maxRecDepth 10000 in
theorem exC_len : exCS.length = 69 := rfl
set_option maxRecDepth 10000 in
theorem exR_len : exRS.length = 89 := rfl
theorem exT_read : readX tourStep zeroT tourX tourS exTS = .ok exT := readX_ok parse_tour exT_ok exT_text (by rw [exT_len]; decide)
theorem exC_read : readX cabStep zeroC cabX cabS exCS = .ok exC := readX_ok parse_cab exC_ok exC_text (by rw [exC_len]; decide)
theorem exR_read : readX royStep zeroR royalX royalS exRS = .ok exR := readX_ok parse_roy exR_ok exR_text (by rw [exR_len]; decide)
theorem exP_read : readPs exPS = .ok exP := by rw [← exP_bytes]; exact readPs_ok exP_ok
end Go.Bk
namespace Go.Proofs.YtleamcmljcdapabGreatDoor
open Go Go.Eng Go.Bk Go.RowKit

theorem rsameBytes_calls (s u : SA UInt8) (W : World) (hS : s.ok byC 1 W) (hU : u.ok byC 1 W) : Calls Tryz.prog 20 #[s.v, u.v] W (Pure (.bool (decide (s.l = u.l))) W) := by
  refine calls_start Tryz.func20 rfl rfl ?_
  refine st ?_
  refine lv (Val.bytesStr rfl sls_22 und_5 und_9 (fun w hm => hS.mono0 (by decide) hm)) ?_
  refine lv (Val.bytesStr rfl sls_22 und_5 und_9 (fun w hm => hU.mono0 (by decide) hm)) ?_
  refine lv (Val.eqlStr rfl rfl) ?_
  refine RunC.ret ?_
  exact RunE.retP (.r1 rfl (.tmp rfl)) (by first | rfl | simp)
theorem great_calls (t : TrA) (c : CbA) (r : RyA) (p : PsA) (W : World) (hT : TrOk W t) (hR : RyOk W r) (hn1 : t.ways.l.length ≤ 9223372036854775807) (hn2 : r.shares.l.length ≤ 9223372036854775807) : Calls Tryz.prog 22 #[t.v, c.v, r.v, p.v] W (Pure (.bool (greatX t.pl c.pl r.pl p.pl)) W) := by
  have e1 : t.pl.ways.length = t.ways.l.length := by simp [TrA.pl]
  have e2 : r.pl.shares.length = r.shares.l.length := by simp [RyA.pl]
  have f0 : len0 t.pl c.pl p.pl = [(t.ways.l.length : Int), (t.stay.l.length : Int), (t.light.l.length : Int), (c.homes.l.length : Int), (c.loans.l.length : Int), (p.cards.l.length : Int)].foldl Max.max (t.fr.l.length : Int) := by unfold len0; rw [e1]; rfl
  have f1 : len1 t.pl c.pl r.pl p.pl = [(r.terms.l.length : Int), (r.paid.l.length : Int), (r.prices.l.length : Int), (r.shares.l.length : Int), (r.reports.l.length : Int)].foldl Max.max (len0 t.pl c.pl p.pl) := by unfold len1; rw [e2]; rfl
  refine calls_start Tryz.func22 rfl rfl ?_
  refine st ?_
  refine RunL.new (New.box rfl) rfl rfl rfl (fun b4 => ?_)
  refine RunL.new (New.box rfl) rfl rfl rfl (fun b5 => ?_)
  refine RunL.new (New.box rfl) rfl rfl rfl (fun b6 => ?_)
  refine RunL.new (New.box rfl) rfl rfl rfl (fun b7 => ?_)
  refine st ?_
  refine lv (Val.fieldAddr rfl fld_27_1) ?_
  refine lv (Val.load_one rfl (.tail _ (.tail _ (.tail _ (.head _)))) ty_24 rfl) ?_
  refine lv (Val.len_sl rfl sl_24) ?_
  refine lv (Val.fieldAddr rfl fld_27_2) ?_
  refine lv (Val.load_one rfl (.tail _ (.tail _ (.tail _ (.head _)))) ty_25 rfl) ?_
  refine lv (Val.len_sl rfl sl_25) ?_
  refine lv (Val.fieldAddr rfl fld_27_3) ?_
  refine lv (Val.load_one rfl (.tail _ (.tail _ (.tail _ (.head _)))) ty_24 rfl) ?_
  refine lv (Val.len_sl rfl sl_24) ?_
  refine lv (Val.fieldAddr rfl fld_27_4) ?_
  refine lv (Val.load_one rfl (.tail _ (.tail _ (.tail _ (.head _)))) ty_24 rfl) ?_
  refine lv (Val.len_sl rfl sl_24) ?_
  refine lv (Val.fieldAddr rfl fld_34_1) ?_
  refine lv (Val.load_one rfl (.tail _ (.tail _ (.head _))) ty_31 rfl) ?_
  refine lv (Val.len_sl rfl sl_31) ?_
  refine lv (Val.fieldAddr rfl fld_34_3) ?_
  refine lv (Val.load_one rfl (.tail _ (.tail _ (.head _))) ty_32 rfl) ?_
  refine lv (Val.len_sl rfl sl_32) ?_
  refine lv (Val.fieldAddr rfl fld_48_0) ?_
  refine lv (Val.load_one rfl (.head _) ty_44 rfl) ?_
  refine lv (Val.len_sl rfl sl_44) ?_
  refine RunL.val (Val.maxN (qs := [(t.ways.l.length : Int), (t.stay.l.length : Int), (t.light.l.length : Int), (c.homes.l.length : Int), (c.loans.l.length : Int), (p.cards.l.length : Int)]) rfl rfl) rfl rfl rfl ?_
  refine vp rfl rfl rfl rfl ?_
  refine nsr ?_
  rw [← f0]
  refine st ?_
  refine lv (Val.fieldAddr rfl fld_41_0) ?_
  refine lv (Val.load_one rfl (.tail _ (.head _)) ty_37 rfl) ?_
  refine lv (Val.len_sl rfl sl_37) ?_
  refine lv (Val.fieldAddr rfl fld_41_4) ?_
  refine lv (Val.load_one rfl (.tail _ (.head _)) ty_31 rfl) ?_
  refine lv (Val.len_sl rfl sl_31) ?_
  refine lv (Val.fieldAddr rfl fld_41_1) ?_
  refine lv (Val.load_one rfl (.tail _ (.head _)) ty_31 rfl) ?_
  refine lv (Val.len_sl rfl sl_31) ?_
  refine lv (Val.fieldAddr rfl fld_41_2) ?_
  refine lv (Val.load_one rfl (.tail _ (.head _)) ty_38 rfl) ?_
  refine lv (Val.len_sl rfl sl_38) ?_
  refine lv (Val.fieldAddr rfl fld_41_3) ?_
  refine lv (Val.load_one rfl (.tail _ (.head _)) ty_39 rfl) ?_
  refine lv (Val.len_sl rfl sl_39) ?_
  refine RunL.val (Val.maxN (qs := [(r.terms.l.length : Int), (r.paid.l.length : Int), (r.prices.l.length : Int), (r.shares.l.length : Int), (r.reports.l.length : Int)]) rfl rfl) rfl rfl rfl ?_
  refine vp rfl rfl rfl rfl ?_
  refine nnx ?_
  refine RunC.seq ?_
  refine csr ?_
  rw [← f1]
  refine lv (Val.fieldAddr rfl fld_27_2) ?_
  refine lv (Val.load_one rfl (.tail _ (.tail _ (.tail _ (.head _)))) ty_25 rfl) ?_
  refine lv (Val.len_sl rfl sl_25) ?_
  refine RunC.loopK (t.ways.l.length) (fun k q => (56, .int .i64 (k : Int)) :: (9, .int .i64 (len2 (len1 t.pl c.pl r.pl p.pl) (t.pl.ways.take k))) :: q) (fun _ => _) (fun _ => []) (fun _ => True) trivial rfl (Sub.consE (t := 56) rfl rfl (Sub.consE (t := 9) rfl (by rfl) (Sub.cons (t := 4) rfl (Sub.cons (t := 5) rfl (Sub.cons (t := 6) rfl (Sub.cons (t := 7) rfl (Sub.cons (t := 54) rfl (Sub.cons (t := 55) rfl (Sub.nil _))))))))) (.cons .here rfl (.cons .here rfl (.cons .here rfl (.cons .here rfl .nil)))) ?_
  intro k kN kI
  clear kI
  refine st ?_
  refine cn rfl ?_ ?_
  ·intro c0'
   have hk : k < t.ways.l.length := by omega
   obtain ⟨x, hx⟩ : ∃ x, t.ways.l[k] = x := ⟨_, rfl⟩
   refine st ?_
   refine lv (Val.indexAddr_slp rfl rfl sl_25 (by omega) (by omega) (Sl.ptrM hT.ways hk)) ?_
   refine lv (Val.load_gen rfl (fun w hm => Sl.loadM1 hT.ways (by decide) hm (by simp) ty_24 hk (v := x.v) (by simp [SA.cell, hx]))) ?_
   refine lv (Val.len_sl rfl sl_24) ?_
   refine lv (Val.max rfl rfl) ?_
   refine lv (Val.add rfl rfl (IntWalk.i64_in _ ⟨by omega, by omega⟩)) ?_
   exact RunE.round (by omega) trivial rfl (Sub.consE (t := 56) rfl rfl (Sub.consE (t := 9) rfl (by rw [len2_s (x := x.l) (by rw [e1]; exact hk) (by simp [TrA.pl, hx])]) (Sub.cons (t := 4) rfl (Sub.cons (t := 5) rfl (Sub.cons (t := 6) rfl (Sub.cons (t := 7) rfl (Sub.cons (t := 54) rfl (Sub.cons (t := 55) rfl (Sub.nil _))))))))) (.cons .here rfl (.cons .here rfl (.cons .here rfl (.cons .here rfl .nil))))
  intro c0'
  obtain rfl : k = t.ways.l.length := by omega
  have g1 : len2 (len1 t.pl c.pl r.pl p.pl) (t.pl.ways.take t.ways.l.length) = len2 (len1 t.pl c.pl r.pl p.pl) t.pl.ways := by rw [← e1, List.take_length]
  rw [g1]
  refine RunC.exit ?_
  refine RunE.pass_exit ?_
  refine RunE.pass_exit ?_
  refine RunE.block_here ?_
  refine st ?_
  refine lv (Val.fieldAddr rfl fld_41_2) ?_
  refine lv (Val.load_one rfl (.tail _ (.head _)) ty_38 rfl) ?_
  refine lv (Val.len_sl rfl sl_38) ?_
  refine RunC.loopK (r.shares.l.length) (fun k q => (68, .int .i64 (k : Int)) :: (9, .int .i64 (len2 (len2 (len1 t.pl c.pl r.pl p.pl) t.pl.ways) (r.pl.shares.take k))) :: q) (fun _ => _) (fun _ => []) (fun _ => True) trivial rfl (Sub.consE (t := 68) rfl rfl (Sub.consE (t := 9) rfl (by rfl) (Sub.cons (t := 4) rfl (Sub.cons (t := 5) rfl (Sub.cons (t := 6) rfl (Sub.cons (t := 7) rfl (Sub.cons (t := 66) rfl (Sub.cons (t := 67) rfl (Sub.nil _))))))))) (.cons .here rfl (.cons .here rfl (.cons .here rfl (.cons .here rfl .nil)))) ?_
  intro k kN kI
  clear kI
  refine st ?_
  refine cn rfl ?_ ?_
  ·intro c1'
   have hk : k < r.shares.l.length := by omega
   obtain ⟨x, hx⟩ : ∃ x, r.shares.l[k] = x := ⟨_, rfl⟩
   refine st ?_
   refine lv (Val.indexAddr_slp rfl rfl sl_38 (by omega) (by omega) (Sl.ptrM hR.shares hk)) ?_
   refine lv (Val.load_gen rfl (fun w hm => Sl.loadM1 hR.shares (by decide) hm (by simp) ty_31 hk (v := x.v) (by simp [SA.cell, hx]))) ?_
   refine lv (Val.len_sl rfl sl_31) ?_
   refine lv (Val.max rfl rfl) ?_
   refine lv (Val.add rfl rfl (IntWalk.i64_in _ ⟨by omega, by omega⟩)) ?_
   exact RunE.round (by omega) trivial rfl (Sub.consE (t := 68) rfl rfl (Sub.consE (t := 9) rfl (by rw [len2_s (x := x.l) (by rw [e2]; exact hk) (by simp [RyA.pl, hx])]) (Sub.cons (t := 4) rfl (Sub.cons (t := 5) rfl (Sub.cons (t := 6) rfl (Sub.cons (t := 7) rfl (Sub.cons (t := 66) rfl (Sub.cons (t := 67) rfl (Sub.nil _))))))))) (.cons .here rfl (.cons .here rfl (.cons .here rfl (.cons .here rfl .nil))))
  intro c1'
  obtain rfl : k = r.shares.l.length := by omega
  refine RunC.exit ?_
  refine RunE.pass_exit ?_
  refine RunE.pass_exit ?_
  refine RunE.block_here ?_
  refine st ?_
  refine RunC.ret ?_
  exact RunE.retP (.r1 rfl (.tmp rfl)) (by unfold greatX lenX; rw [show List.take r.shares.l.length r.pl.shares = r.pl.shares by rw [← e2, List.take_length]])
theorem lspan_calls (a b : Int) (W : World) : Calls Tryz.prog 24 #[.int .i64 a, .int .i64 b] W (Pure (.agg #[.int .i64 a, .int .i64 b]) W) := by
  refine calls_start Tryz.func24 rfl rfl ?_
  refine st ?_
  refine RunL.new (New.alloc zero_46) rfl rfl rfl (fun b4 => ?_)
  refine st ?_
  refine lv (Val.build (parts := [(0, .tmp 5), (1, .tmp 6)]) rfl zero_46 places_46 rfl) ?_
  refine RunL.sto (Sto.store rfl rfl .here ty_46 rfl rfl) rfl rfl ?_
  refine st ?_
  refine RunC.ret ?_
  exact RunE.retP (.r1 rfl (.agg rfl (.head _) ty_46 rfl)) (by first | rfl | simp)
end Go.Proofs.YtleamcmljcdapabGreatDoor
namespace Go.Proofs.YtleamcmljcdapabGreatDoor
open Go Go.Eng
theorem ent_24 : Enters Tryz.prog 24 := enters_of Tryz.func24 (by kernel_rfl) rfl
theorem places_27 : placesB Tryz.prog 27 = some [(0, 1), (1, 1), (2, 1), (3, 1), (4, 1)] := by kernel_rfl
theorem places_34 : placesB Tryz.prog 34 = some [(0, 1), (1, 1), (2, 1), (3, 1)] := by kernel_rfl
theorem places_41 : placesB Tryz.prog 41 = some [(0, 1), (1, 1), (2, 1), (3, 1), (4, 1)] := by kernel_rfl
end Go.Proofs.YtleamcmljcdapabGreatDoor
namespace Go.Proofs.YtleamcmljcdapabGreatDoor
open Go Go.Eng Go.Bk Go.RowKit

abbrev cO (cs : List Value) (T : TypeId) : Obj := .cells cs.toArray T (0, 0)
theorem cO_ok {α : Type} {w : World} {b c : Nat} {T : TypeId} {f : α → List Value} {sz : Nat} (l : List α) (h : w.heap[b]? = some (cO (l.map f).flatten T)) (hf : ∀ x, (f x).length = sz) : (⟨l, some ⟨b, 0, none⟩, b, 0, c⟩ : SA α).ok f sz w :=
  Sl.rowsR (xs := l.map f) (t := []) (by rw [List.append_nil]; exact h) (fun x hx => by obtain ⟨y, _, rfl⟩ := List.mem_map.1 hx; exact hf y)
/-- A slice that is just a block. -/
abbrev atB {α : Type} (l : List α) (b : Nat) : SA α := ⟨l, some ⟨b, 0, none⟩, b, 0, l.length⟩
structure ExT where
  a : Nat
  b : Nat
  c : Nat
  d : Nat
  e : Nat
  f : Nat
  g : Nat
def exTR (z : ExT) : List (SA Sp) := [atB [⟨0, 0⟩, ⟨15, 20⟩, ⟨45, 50⟩] z.b, atB [⟨15, 20⟩, ⟨0, 0⟩, ⟨30, 35⟩] z.c, atB [⟨45, 50⟩, ⟨30, 35⟩, ⟨0, 0⟩] z.d]
def exTA (z : ExT) : TrA := ⟨360, atB exT.fr z.a, atB (exTR z) z.e, atB exT.stay z.f, atB exT.light z.g⟩
theorem exTA_pl (z : ExT) : (exTA z).pl = exT := rfl
def exTB (z : ExT) : Blks := [(z.a, cO (exT.fr.map Sp.cells).flatten 46), (z.b, cO (([⟨0, 0⟩, ⟨15, 20⟩, ⟨45, 50⟩] : List Sp).map Sp.cells).flatten 46), (z.c, cO (([⟨15, 20⟩, ⟨0, 0⟩, ⟨30, 35⟩] : List Sp).map Sp.cells).flatten 46), (z.d, cO (([⟨45, 50⟩, ⟨30, 35⟩, ⟨0, 0⟩] : List Sp).map Sp.cells).flatten 46), (z.e, cO ((exTR z).map SA.cell).flatten 24), (z.f, cO (exT.stay.map Sp.cells).flatten 46), (z.g, cO (exT.light.map Sp.cells).flatten 46)]
theorem exTA_ok {z : ExT} {w W : World} {tl : Blks} (hm : Mem W [] (exTB z ++ tl) w) : TrOk w (exTA z) := by
  have h : ∀ b o, (b, o) ∈ exTB z → w.heap[b]? = some o := fun b o hb => hm.at (List.mem_append_right _ (List.mem_append_left _ hb))
  refine ⟨cO_ok _ (h _ _ (.head _)) (fun _ => rfl), cO_ok _ (h _ _ (.tail _ (.tail _ (.tail _ (.tail _ (.head _)))))) (fun _ => rfl), fun x hx => ?_, cO_ok _ (h _ _ (.tail _ (.tail _ (.tail _ (.tail _ (.tail _ (.head _))))))) (fun _ => rfl), cO_ok _ (h _ _ (.tail _ (.tail _ (.tail _ (.tail _ (.tail _ (.tail _ (.head _)))))))) (fun _ => rfl), fun e => by cases e⟩
  simp only [exTA, exTR, List.mem_cons, List.not_mem_nil, or_false] at hx
  rcases hx with rfl | rfl | rfl
  · exact cO_ok _ (h _ _ (.tail _ (.head _))) (fun _ => rfl)
  · exact cO_ok _ (h _ _ (.tail _ (.tail _ (.head _)))) (fun _ => rfl)
  · exact cO_ok _ (h _ _ (.tail _ (.tail _ (.tail _ (.head _))))) (fun _ => rfl)
theorem exTA_sm (z : ExT) : TrSm (exTA z) := ⟨by show (3 : Nat) ≤ _; decide, by show (3 : Nat) ≤ _; decide, fun x hx => by
  simp only [exTA, exTR, List.mem_cons, List.not_mem_nil, or_false] at hx
  rcases hx with rfl | rfl | rfl <;> (show (3 : Nat) ≤ _; decide), by show (3 : Nat) ≤ _; decide, by show (3 : Nat) ≤ _; decide⟩
theorem tour_calls (W : World) : Calls Tryz.prog 28 #[] W (News (fun z : ExT => (exTA z).v) exTB W) := by
  refine calls_start Tryz.func28 rfl rfl ?_
  refine st ?_
  refine RunL.new (New.alloc zero_27) rfl rfl rfl (fun b0 => ?_)
  refine st ?_
  iterate 4 refine RunL.callP (isCall_func rfl ent_24) rfl rfl rfl (fun w hm => lspan_calls _ _ w) ?_
  refine RunL.new (New.alloc zero_46) rfl rfl rfl (fun b1 => ?_)
  refine RunL.new (New.alloc zero_46) rfl rfl rfl (fun b2 => ?_)
  refine RunL.new (New.alloc zero_46) rfl rfl rfl (fun b3 => ?_)
  refine RunL.new (New.alloc zero_46) rfl rfl rfl (fun b4 => ?_)
  refine RunL.sto (Sto.store rfl rfl (.there (.there (.there .here))) ty_46 rfl rfl) rfl rfl ?_
  refine RunL.sto (Sto.store rfl rfl (.there (.there .here)) ty_46 rfl rfl) rfl rfl ?_
  refine RunL.sto (Sto.store rfl rfl (.there .here) ty_46 rfl rfl) rfl rfl ?_
  refine RunL.sto (Sto.store rfl rfl .here ty_46 rfl rfl) rfl rfl ?_
  refine st ?_
  refine RunC.freeN (O := Nat) [⟨9, [], [], fun _ => .agg #[.int .i64 30, .int .i64 40], fun _ => []⟩, ⟨10, [0], [], fun _ => .agg #[.int .i64 20, .int .i64 20], fun _ => []⟩, ⟨11, [0, 1], [], fun _ => .agg #[.int .i64 60, .int .i64 70], fun _ => []⟩, ⟨12, [0, 1, 2], [3], fun l => match l with | [b12] => .slice (some ⟨b12, 0, none⟩) 3 3 | _ => undef, fun l => match l with | [b12] => [(b12, .cells [.int .i64 30, .int .i64 40, .int .i64 20, .int .i64 20, .int .i64 60, .int .i64 70].toArray 46 (0, 0))] | _ => []⟩, ⟨13, [], [], fun _ => .agg #[.int .i64 0, .int .i64 0], fun _ => []⟩, ⟨14, [], [], fun _ => .agg #[.int .i64 15, .int .i64 20], fun _ => []⟩, ⟨15, [], [], fun _ => .agg #[.int .i64 45, .int .i64 50], fun _ => []⟩, ⟨16, [4, 5, 6], [7], fun l => match l with | [b16] => .slice (some ⟨b16, 0, none⟩) 3 3 | _ => undef, fun l => match l with | [b16] => [(b16, .cells [.int .i64 0, .int .i64 0, .int .i64 15, .int .i64 20, .int .i64 45, .int .i64 50].toArray 46 (0, 0))] | _ => []⟩, ⟨17, [], [], fun _ => .agg #[.int .i64 15, .int .i64 20], fun _ => []⟩, ⟨18, [], [], fun _ => .agg #[.int .i64 0, .int .i64 0], fun _ => []⟩, ⟨19, [], [], fun _ => .agg #[.int .i64 30, .int .i64 35], fun _ => []⟩, ⟨20, [8, 9, 10], [11], fun l => match l with | [b20] => .slice (some ⟨b20, 0, none⟩) 3 3 | _ => undef, fun l => match l with | [b20] => [(b20, .cells [.int .i64 15, .int .i64 20, .int .i64 0, .int .i64 0, .int .i64 30, .int .i64 35].toArray 46 (0, 0))] | _ => []⟩, ⟨21, [], [], fun _ => .agg #[.int .i64 45, .int .i64 50], fun _ => []⟩, ⟨22, [], [], fun _ => .agg #[.int .i64 30, .int .i64 35], fun _ => []⟩, ⟨23, [], [], fun _ => .agg #[.int .i64 0, .int .i64 0], fun _ => []⟩, ⟨24, [12, 13, 14], [15], fun l => match l with | [b24] => .slice (some ⟨b24, 0, none⟩) 3 3 | _ => undef, fun l => match l with | [b24] => [(b24, .cells [.int .i64 45, .int .i64 50, .int .i64 30, .int .i64 35, .int .i64 0, .int .i64 0].toArray 46 (0, 0))] | _ => []⟩, ⟨25, [4, 5, 6, 7, 8, 9, 10, 11, 12, 13, 14, 15], [7, 11, 15, 16], fun l => match l with | [b16, b20, b24, b25] => .slice (some ⟨b25, 0, none⟩) 3 3 | _ => undef, fun l => match l with | [b16, b20, b24, b25] => [(b25, .cells [.slice (some ⟨b16, 0, none⟩) 3 3, .slice (some ⟨b20, 0, none⟩) 3 3, .slice (some ⟨b24, 0, none⟩) 3 3].toArray 24 (0, 0))] | _ => []⟩, ⟨26, [0, 1, 2], [], fun _ => .agg #[.int .i64 10, .int .i64 15], fun _ => []⟩, ⟨27, [0, 1, 2, 17], [], fun _ => .agg #[.int .i64 20, .int .i64 20], fun _ => []⟩, ⟨28, [0, 1, 2, 17, 18], [], fun _ => .agg #[.int .i64 5, .int .i64 10], fun _ => []⟩, ⟨29, [0, 1, 2, 17, 18, 19], [20], fun l => match l with | [b29] => .slice (some ⟨b29, 0, none⟩) 3 3 | _ => undef, fun l => match l with | [b29] => [(b29, .cells [.int .i64 10, .int .i64 15, .int .i64 20, .int .i64 20, .int .i64 5, .int .i64 10].toArray 46 (0, 0))] | _ => []⟩, ⟨30, [0, 1, 2, 17, 18, 19], [], fun _ => .agg #[.int .i64 420, .int .i64 480], fun _ => []⟩, ⟨31, [0, 1, 2, 17, 18, 19, 21], [], fun _ => .agg #[.int .i64 380, .int .i64 600], fun _ => []⟩, ⟨32, [0, 1, 2, 17, 18, 19, 21, 22], [], fun _ => .agg #[.int .i64 500, .int .i64 540], fun _ => []⟩, ⟨33, [0, 1, 2, 17, 18, 19, 21, 22, 23], [24], fun l => match l with | [b33] => .slice (some ⟨b33, 0, none⟩) 3 3 | _ => undef, fun l => match l with | [b33] => [(b33, .cells [.int .i64 420, .int .i64 480, .int .i64 380, .int .i64 600, .int .i64 500, .int .i64 540].toArray 46 (0, 0))] | _ => []⟩] 27 25 2 fol_ (by kernel_rfl) (by rfl) rfl rfl rfl ?_ ?_
  ·refine AllOk.cons (fun x => ?_) ?_
   ·show OpOk _ _ _ _ _ (_) (_) 0 9 (fun _ => .agg #[.int .i64 30, .int .i64 40]) (fun _ => [])
    exact OpOk.callP rfl (isCall_func rfl ent_24) rfl rfl (fun w hm => lspan_calls _ _ w)
   refine AllOk.cons (fun x => ?_) ?_
   ·show OpOk _ _ _ _ _ ((9, .agg #[.int .i64 30, .int .i64 40]) :: _) (_) 1 10 (fun _ => .agg #[.int .i64 20, .int .i64 20]) (fun _ => [])
    exact OpOk.callP rfl (isCall_func rfl ent_24) rfl rfl (fun w hm => lspan_calls _ _ w)
   refine AllOk.cons (fun x => ?_) ?_
   ·show OpOk _ _ _ _ _ ((9, .agg #[.int .i64 30, .int .i64 40]) :: (10, .agg #[.int .i64 20, .int .i64 20]) :: _) (_) 2 11 (fun _ => .agg #[.int .i64 60, .int .i64 70]) (fun _ => [])
    exact OpOk.callP rfl (isCall_func rfl ent_24) rfl rfl (fun w hm => lspan_calls _ _ w)
   refine AllOk.cons (fun x => ?_) ?_
   ·show OpOk _ _ _ _ _ ((9, .agg #[.int .i64 30, .int .i64 40]) :: (10, .agg #[.int .i64 20, .int .i64 20]) :: (11, .agg #[.int .i64 60, .int .i64 70]) :: _) (_) 3 12 (fun b12 => .slice (some ⟨b12, 0, none⟩) 3 3) (fun b12 => [(b12, .cells [.int .i64 30, .int .i64 40, .int .i64 20, .int .i64 20, .int .i64 60, .int .i64 70].toArray 46 (0, 0))])
    exact OpOk.new rfl (New.buildSlice (parts := [(0, .tmp 9), (1, .tmp 10), (2, .tmp 11)]) rfl sl_24 zero_46 rfl rfl rfl rfl) rfl rfl
   refine AllOk.cons (fun x => ?_) ?_
   ·show OpOk _ _ _ _ _ (_) (_) 4 13 (fun _ => .agg #[.int .i64 0, .int .i64 0]) (fun _ => [])
    exact OpOk.val rfl (Val.load_agg rfl (.head _) ty_46 rfl) rfl rfl
   refine AllOk.cons (fun x => ?_) ?_
   ·show OpOk _ _ _ _ _ (_) (_) 5 14 (fun _ => .agg #[.int .i64 15, .int .i64 20]) (fun _ => [])
    exact OpOk.val rfl (Val.load_agg rfl (.tail _ (.tail _ (.tail _ (.head _)))) ty_46 rfl) rfl rfl
   refine AllOk.cons (fun x => ?_) ?_
   ·show OpOk _ _ _ _ _ (_) (_) 6 15 (fun _ => .agg #[.int .i64 45, .int .i64 50]) (fun _ => [])
    exact OpOk.val rfl (Val.load_agg rfl (.tail _ (.tail _ (.head _))) ty_46 rfl) rfl rfl
   refine AllOk.cons (fun x => ?_) ?_
   ·show OpOk _ _ _ _ _ ((13, .agg #[.int .i64 0, .int .i64 0]) :: (14, .agg #[.int .i64 15, .int .i64 20]) :: (15, .agg #[.int .i64 45, .int .i64 50]) :: _) (_) 7 16 (fun b16 => .slice (some ⟨b16, 0, none⟩) 3 3) (fun b16 => [(b16, .cells [.int .i64 0, .int .i64 0, .int .i64 15, .int .i64 20, .int .i64 45, .int .i64 50].toArray 46 (0, 0))])
    exact OpOk.new rfl (New.buildSlice (parts := [(0, .tmp 13), (1, .tmp 14), (2, .tmp 15)]) rfl sl_24 zero_46 rfl rfl rfl rfl) rfl rfl
   refine AllOk.cons (fun x => ?_) ?_
   ·show OpOk _ _ _ _ _ (_) (_) 8 17 (fun _ => .agg #[.int .i64 15, .int .i64 20]) (fun _ => [])
    exact OpOk.val rfl (Val.load_agg rfl (.tail _ (.tail _ (.tail _ (.head _)))) ty_46 rfl) rfl rfl
   refine AllOk.cons (fun x => ?_) ?_
   ·show OpOk _ _ _ _ _ (_) (_) 9 18 (fun _ => .agg #[.int .i64 0, .int .i64 0]) (fun _ => [])
    exact OpOk.val rfl (Val.load_agg rfl (.head _) ty_46 rfl) rfl rfl
   refine AllOk.cons (fun x => ?_) ?_
   ·show OpOk _ _ _ _ _ (_) (_) 10 19 (fun _ => .agg #[.int .i64 30, .int .i64 35]) (fun _ => [])
    exact OpOk.val rfl (Val.load_agg rfl (.tail _ (.head _)) ty_46 rfl) rfl rfl
   refine AllOk.cons (fun x => ?_) ?_
   ·show OpOk _ _ _ _ _ ((17, .agg #[.int .i64 15, .int .i64 20]) :: (18, .agg #[.int .i64 0, .int .i64 0]) :: (19, .agg #[.int .i64 30, .int .i64 35]) :: _) (_) 11 20 (fun b20 => .slice (some ⟨b20, 0, none⟩) 3 3) (fun b20 => [(b20, .cells [.int .i64 15, .int .i64 20, .int .i64 0, .int .i64 0, .int .i64 30, .int .i64 35].toArray 46 (0, 0))])
    exact OpOk.new rfl (New.buildSlice (parts := [(0, .tmp 17), (1, .tmp 18), (2, .tmp 19)]) rfl sl_24 zero_46 rfl rfl rfl rfl) rfl rfl
   refine AllOk.cons (fun x => ?_) ?_
   ·show OpOk _ _ _ _ _ (_) (_) 12 21 (fun _ => .agg #[.int .i64 45, .int .i64 50]) (fun _ => [])
    exact OpOk.val rfl (Val.load_agg rfl (.tail _ (.tail _ (.head _))) ty_46 rfl) rfl rfl
   refine AllOk.cons (fun x => ?_) ?_
   ·show OpOk _ _ _ _ _ (_) (_) 13 22 (fun _ => .agg #[.int .i64 30, .int .i64 35]) (fun _ => [])
    exact OpOk.val rfl (Val.load_agg rfl (.tail _ (.head _)) ty_46 rfl) rfl rfl
   refine AllOk.cons (fun x => ?_) ?_
   ·show OpOk _ _ _ _ _ (_) (_) 14 23 (fun _ => .agg #[.int .i64 0, .int .i64 0]) (fun _ => [])
    exact OpOk.val rfl (Val.load_agg rfl (.head _) ty_46 rfl) rfl rfl
   refine AllOk.cons (fun x => ?_) ?_
   ·show OpOk _ _ _ _ _ ((21, .agg #[.int .i64 45, .int .i64 50]) :: (22, .agg #[.int .i64 30, .int .i64 35]) :: (23, .agg #[.int .i64 0, .int .i64 0]) :: _) (_) 15 24 (fun b24 => .slice (some ⟨b24, 0, none⟩) 3 3) (fun b24 => [(b24, .cells [.int .i64 45, .int .i64 50, .int .i64 30, .int .i64 35, .int .i64 0, .int .i64 0].toArray 46 (0, 0))])
    exact OpOk.new rfl (New.buildSlice (parts := [(0, .tmp 21), (1, .tmp 22), (2, .tmp 23)]) rfl sl_24 zero_46 rfl rfl rfl rfl) rfl rfl
   refine AllOk.cons (fun x => ?_) ?_
   ·show OpOk _ _ _ _ _ ((13, .agg #[.int .i64 0, .int .i64 0]) :: (14, .agg #[.int .i64 15, .int .i64 20]) :: (15, .agg #[.int .i64 45, .int .i64 50]) :: (16, .slice (some ⟨(x 7), 0, none⟩) 3 3) :: (17, .agg #[.int .i64 15, .int .i64 20]) :: (18, .agg #[.int .i64 0, .int .i64 0]) :: (19, .agg #[.int .i64 30, .int .i64 35]) :: (20, .slice (some ⟨(x 11), 0, none⟩) 3 3) :: (21, .agg #[.int .i64 45, .int .i64 50]) :: (22, .agg #[.int .i64 30, .int .i64 35]) :: (23, .agg #[.int .i64 0, .int .i64 0]) :: (24, .slice (some ⟨(x 15), 0, none⟩) 3 3) :: _) (((x 7), .cells [.int .i64 0, .int .i64 0, .int .i64 15, .int .i64 20, .int .i64 45, .int .i64 50].toArray 46 (0, 0)) :: ((x 11), .cells [.int .i64 15, .int .i64 20, .int .i64 0, .int .i64 0, .int .i64 30, .int .i64 35].toArray 46 (0, 0)) :: ((x 15), .cells [.int .i64 45, .int .i64 50, .int .i64 30, .int .i64 35, .int .i64 0, .int .i64 0].toArray 46 (0, 0)) :: _) 16 25 (fun b25 => .slice (some ⟨b25, 0, none⟩) 3 3) (fun b25 => [(b25, .cells [.slice (some ⟨(x 7), 0, none⟩) 3 3, .slice (some ⟨(x 11), 0, none⟩) 3 3, .slice (some ⟨(x 15), 0, none⟩) 3 3].toArray 24 (0, 0))])
    generalize x 7 = b16
    generalize x 11 = b20
    generalize x 15 = b24
    exact OpOk.new rfl (New.buildSlice (parts := [(0, .tmp 16), (1, .tmp 20), (2, .tmp 24)]) rfl sl_25 zero_24 rfl rfl rfl rfl) rfl rfl
   refine AllOk.cons (fun x => ?_) ?_
   ·show OpOk _ _ _ _ _ ((9, .agg #[.int .i64 30, .int .i64 40]) :: (10, .agg #[.int .i64 20, .int .i64 20]) :: (11, .agg #[.int .i64 60, .int .i64 70]) :: _) (_) 17 26 (fun _ => .agg #[.int .i64 10, .int .i64 15]) (fun _ => [])
    exact OpOk.callP rfl (isCall_func rfl ent_24) rfl rfl (fun w hm => lspan_calls _ _ w)
   refine AllOk.cons (fun x => ?_) ?_
   ·show OpOk _ _ _ _ _ ((9, .agg #[.int .i64 30, .int .i64 40]) :: (10, .agg #[.int .i64 20, .int .i64 20]) :: (11, .agg #[.int .i64 60, .int .i64 70]) :: (26, .agg #[.int .i64 10, .int .i64 15]) :: _) (_) 18 27 (fun _ => .agg #[.int .i64 20, .int .i64 20]) (fun _ => [])
    exact OpOk.callP rfl (isCall_func rfl ent_24) rfl rfl (fun w hm => lspan_calls _ _ w)
   refine AllOk.cons (fun x => ?_) ?_
   ·show OpOk _ _ _ _ _ ((9, .agg #[.int .i64 30, .int .i64 40]) :: (10, .agg #[.int .i64 20, .int .i64 20]) :: (11, .agg #[.int .i64 60, .int .i64 70]) :: (26, .agg #[.int .i64 10, .int .i64 15]) :: (27, .agg #[.int .i64 20, .int .i64 20]) :: _) (_) 19 28 (fun _ => .agg #[.int .i64 5, .int .i64 10]) (fun _ => [])
    exact OpOk.callP rfl (isCall_func rfl ent_24) rfl rfl (fun w hm => lspan_calls _ _ w)
   refine AllOk.cons (fun x => ?_) ?_
   ·show OpOk _ _ _ _ _ ((9, .agg #[.int .i64 30, .int .i64 40]) :: (10, .agg #[.int .i64 20, .int .i64 20]) :: (11, .agg #[.int .i64 60, .int .i64 70]) :: (26, .agg #[.int .i64 10, .int .i64 15]) :: (27, .agg #[.int .i64 20, .int .i64 20]) :: (28, .agg #[.int .i64 5, .int .i64 10]) :: _) (_) 20 29 (fun b29 => .slice (some ⟨b29, 0, none⟩) 3 3) (fun b29 => [(b29, .cells [.int .i64 10, .int .i64 15, .int .i64 20, .int .i64 20, .int .i64 5, .int .i64 10].toArray 46 (0, 0))])
    exact OpOk.new rfl (New.buildSlice (parts := [(0, .tmp 26), (1, .tmp 27), (2, .tmp 28)]) rfl sl_24 zero_46 rfl rfl rfl rfl) rfl rfl
   refine AllOk.cons (fun x => ?_) ?_
   ·show OpOk _ _ _ _ _ ((9, .agg #[.int .i64 30, .int .i64 40]) :: (10, .agg #[.int .i64 20, .int .i64 20]) :: (11, .agg #[.int .i64 60, .int .i64 70]) :: (26, .agg #[.int .i64 10, .int .i64 15]) :: (27, .agg #[.int .i64 20, .int .i64 20]) :: (28, .agg #[.int .i64 5, .int .i64 10]) :: _) (_) 21 30 (fun _ => .agg #[.int .i64 420, .int .i64 480]) (fun _ => [])
    exact OpOk.callP rfl (isCall_func rfl ent_24) rfl rfl (fun w hm => lspan_calls _ _ w)
   refine AllOk.cons (fun x => ?_) ?_
   ·show OpOk _ _ _ _ _ ((9, .agg #[.int .i64 30, .int .i64 40]) :: (10, .agg #[.int .i64 20, .int .i64 20]) :: (11, .agg #[.int .i64 60, .int .i64 70]) :: (26, .agg #[.int .i64 10, .int .i64 15]) :: (27, .agg #[.int .i64 20, .int .i64 20]) :: (28, .agg #[.int .i64 5, .int .i64 10]) :: (30, .agg #[.int .i64 420, .int .i64 480]) :: _) (_) 22 31 (fun _ => .agg #[.int .i64 380, .int .i64 600]) (fun _ => [])
    exact OpOk.callP rfl (isCall_func rfl ent_24) rfl rfl (fun w hm => lspan_calls _ _ w)
   refine AllOk.cons (fun x => ?_) ?_
   ·show OpOk _ _ _ _ _ ((9, .agg #[.int .i64 30, .int .i64 40]) :: (10, .agg #[.int .i64 20, .int .i64 20]) :: (11, .agg #[.int .i64 60, .int .i64 70]) :: (26, .agg #[.int .i64 10, .int .i64 15]) :: (27, .agg #[.int .i64 20, .int .i64 20]) :: (28, .agg #[.int .i64 5, .int .i64 10]) :: (30, .agg #[.int .i64 420, .int .i64 480]) :: (31, .agg #[.int .i64 380, .int .i64 600]) :: _) (_) 23 32 (fun _ => .agg #[.int .i64 500, .int .i64 540]) (fun _ => [])
    exact OpOk.callP rfl (isCall_func rfl ent_24) rfl rfl (fun w hm => lspan_calls _ _ w)
   refine AllOk.cons (fun x => ?_) ?_
   ·show OpOk _ _ _ _ _ ((9, .agg #[.int .i64 30, .int .i64 40]) :: (10, .agg #[.int .i64 20, .int .i64 20]) :: (11, .agg #[.int .i64 60, .int .i64 70]) :: (26, .agg #[.int .i64 10, .int .i64 15]) :: (27, .agg #[.int .i64 20, .int .i64 20]) :: (28, .agg #[.int .i64 5, .int .i64 10]) :: (30, .agg #[.int .i64 420, .int .i64 480]) :: (31, .agg #[.int .i64 380, .int .i64 600]) :: (32, .agg #[.int .i64 500, .int .i64 540]) :: _) (_) 24 33 (fun b33 => .slice (some ⟨b33, 0, none⟩) 3 3) (fun b33 => [(b33, .cells [.int .i64 420, .int .i64 480, .int .i64 380, .int .i64 600, .int .i64 500, .int .i64 540].toArray 46 (0, 0))])
    exact OpOk.new rfl (New.buildSlice (parts := [(0, .tmp 30), (1, .tmp 31), (2, .tmp 32)]) rfl sl_24 zero_46 rfl rfl rfl rfl) rfl rfl
   exact AllOk.nil
  intro x
  show RunB _ _ _ _ 2 (listedK 25 27) ((9, .agg #[.int .i64 30, .int .i64 40]) :: (10, .agg #[.int .i64 20, .int .i64 20]) :: (11, .agg #[.int .i64 60, .int .i64 70]) :: (12, .slice (some ⟨(x 3), 0, none⟩) 3 3) :: (13, .agg #[.int .i64 0, .int .i64 0]) :: (14, .agg #[.int .i64 15, .int .i64 20]) :: (15, .agg #[.int .i64 45, .int .i64 50]) :: (16, .slice (some ⟨(x 7), 0, none⟩) 3 3) :: (17, .agg #[.int .i64 15, .int .i64 20]) :: (18, .agg #[.int .i64 0, .int .i64 0]) :: (19, .agg #[.int .i64 30, .int .i64 35]) :: (20, .slice (some ⟨(x 11), 0, none⟩) 3 3) :: (21, .agg #[.int .i64 45, .int .i64 50]) :: (22, .agg #[.int .i64 30, .int .i64 35]) :: (23, .agg #[.int .i64 0, .int .i64 0]) :: (24, .slice (some ⟨(x 15), 0, none⟩) 3 3) :: (25, .slice (some ⟨(x 16), 0, none⟩) 3 3) :: (26, .agg #[.int .i64 10, .int .i64 15]) :: (27, .agg #[.int .i64 20, .int .i64 20]) :: (28, .agg #[.int .i64 5, .int .i64 10]) :: (29, .slice (some ⟨(x 20), 0, none⟩) 3 3) :: (30, .agg #[.int .i64 420, .int .i64 480]) :: (31, .agg #[.int .i64 380, .int .i64 600]) :: (32, .agg #[.int .i64 500, .int .i64 540]) :: (33, .slice (some ⟨(x 24), 0, none⟩) 3 3) :: _) _ _ _ (((x 3), .cells [.int .i64 30, .int .i64 40, .int .i64 20, .int .i64 20, .int .i64 60, .int .i64 70].toArray 46 (0, 0)) :: ((x 7), .cells [.int .i64 0, .int .i64 0, .int .i64 15, .int .i64 20, .int .i64 45, .int .i64 50].toArray 46 (0, 0)) :: ((x 11), .cells [.int .i64 15, .int .i64 20, .int .i64 0, .int .i64 0, .int .i64 30, .int .i64 35].toArray 46 (0, 0)) :: ((x 15), .cells [.int .i64 45, .int .i64 50, .int .i64 30, .int .i64 35, .int .i64 0, .int .i64 0].toArray 46 (0, 0)) :: ((x 16), .cells [.slice (some ⟨(x 7), 0, none⟩) 3 3, .slice (some ⟨(x 11), 0, none⟩) 3 3, .slice (some ⟨(x 15), 0, none⟩) 3 3].toArray 24 (0, 0)) :: ((x 20), .cells [.int .i64 10, .int .i64 15, .int .i64 20, .int .i64 20, .int .i64 5, .int .i64 10].toArray 46 (0, 0)) :: ((x 24), .cells [.int .i64 420, .int .i64 480, .int .i64 380, .int .i64 600, .int .i64 500, .int .i64 540].toArray 46 (0, 0)) :: (b4, _) :: (b3, _) :: (b2, _) :: (b1, _) :: (b0, _) :: _)
  generalize x 3 = b12
  generalize x 7 = b16
  generalize x 11 = b20
  generalize x 15 = b24
  generalize x 16 = b25
  generalize x 20 = b29
  generalize x 24 = b33
  refine RunB.one (i := 25) (by kernel_rfl) ?_
  refine RunI.val rfl (Val.build (parts := [(0, .const (.int .i64 360)), (1, .tmp 12), (2, .tmp 25), (3, .tmp 29), (4, .tmp 33)]) rfl zero_27 places_27 rfl) rfl rfl rfl (RunK.toB ?_)
  refine RunB.one (i := 26) (by kernel_rfl) ?_
  refine RunI.sto rfl (Sto.store rfl rfl (.there (.there (.there (.there (.there (.there (.there (.there (.there (.there (.there .here))))))))))) ty_27 rfl rfl) rfl rfl (RunK.toB ?_)
  refine RunB.done (by kernel_rfl) ?_
  refine st ?_
  refine RunC.ret ?_
  exact RunE.ret (chg := []) (.r1 rfl (.agg rfl (.tail _ (.tail _ (.tail _ (.tail _ (.tail _ (.tail _ (.tail _ (.tail _ (.tail _ (.tail _ (.tail _ (.head _)))))))))))) ty_27 rfl)) (fun _ hm => ⟨⟨b12, b16, b20, b24, b25, b29, b33⟩, rfl, hm.pick (.cons .here rfl (.cons .here rfl (.cons .here rfl (.cons .here rfl (.cons .here rfl (.cons .here rfl (.cons .here rfl .nil)))))))⟩)
structure ExC where
  a : Nat
  b : Nat
def exCA (z : ExC) : CbA := ⟨4, atB exC.homes z.a, 1, atB exC.loans z.b⟩
def exCB (z : ExC) : Blks := [(z.a, cO (exC.homes.map intC).flatten 3), (z.b, cO (exC.loans.map Ln.cells).flatten 74)]
theorem exCA_pl (z : ExC) : (exCA z).pl = exC := rfl
theorem exCA_ok {z : ExC} {w W : World} {tl : Blks} (hm : Mem W [] (exCB z ++ tl) w) : CbOk w (exCA z) := by
  have h : ∀ b o, (b, o) ∈ exCB z → w.heap[b]? = some o := fun b o hb => hm.at (List.mem_append_right _ (List.mem_append_left _ hb))
  exact ⟨cO_ok _ (h _ _ (.head _)) (fun _ => rfl), cO_ok _ (h _ _ (.tail _ (.head _))) (fun _ => rfl)⟩
theorem exCA_s (z : ExC) : CbS (exCA z) := ⟨by show (3 : Nat) ≤ _; decide, by show (5 : Nat) ≤ _; decide⟩
theorem cabinet_calls (W : World) : Calls Tryz.prog 29 #[] W (News (fun z : ExC => (exCA z).v) exCB W) := by
  refine calls_start Tryz.func29 rfl rfl ?_
  refine st ?_
  refine RunL.new (New.alloc zero_34) rfl rfl rfl (fun b0 => ?_)
  refine st ?_
  refine RunL.new (New.buildSlice (parts := [(0, .const (.int .i64 0)), (1, .const (.int .i64 1)), (2, .const (.int .i64 2))]) rfl sl_31 zero_3 rfl rfl rfl rfl) rfl rfl rfl (fun b1 => ?_)
  refine lv (Val.build (parts := [(1, .const (.int .i64 0)), (2, .const (.int .i64 0))]) rfl zero_74 places_74 rfl) ?_
  refine lv (Val.build (parts := [(1, .const (.int .i64 1)), (2, .const (.int .i64 1))]) rfl zero_74 places_74 rfl) ?_
  refine lv (Val.build (parts := [(0, .const (.int .i64 1)), (1, .const (.int .i64 0)), (2, .const (.int .i64 0))]) rfl zero_74 places_74 rfl) ?_
  refine lv (Val.build (parts := [(0, .const (.int .i64 1)), (1, .const (.int .i64 1)), (2, .const (.int .i64 1))]) rfl zero_74 places_74 rfl) ?_
  refine lv (Val.build (parts := [(0, .const (.int .i64 2)), (1, .const (.int .i64 0)), (3, .const (.int .i64 1))]) rfl zero_74 places_74 rfl) ?_
  refine RunL.new (New.buildSlice (parts := [(0, .tmp 2), (1, .tmp 3), (2, .tmp 4), (3, .tmp 5), (4, .tmp 6)]) rfl sl_32 zero_74 rfl rfl rfl rfl) rfl rfl rfl (fun b7 => ?_)
  refine lv (Val.build (parts := [(0, .const (.int .i64 4)), (1, .tmp 1), (2, .const (.int .i64 1)), (3, .tmp 7)]) rfl zero_34 places_34 rfl) ?_
  refine RunL.sto (Sto.store rfl rfl (.there (.there .here)) ty_34 rfl rfl) rfl rfl ?_
  refine st ?_
  refine RunC.ret ?_
  exact RunE.ret (chg := []) (.r1 rfl (.agg rfl (.tail _ (.tail _ (.head _))) ty_34 rfl)) (fun _ hm => ⟨⟨b1, b7⟩, rfl, hm.pick (.cons (.there .here) rfl (.cons .here rfl .nil))⟩)
structure ExR where
  a : Nat
  b : Nat
  c : Nat
  d : Nat
  e : Nat
  f : Nat
def exRA (z : ExR) : RyA := ⟨atB exR.terms z.a, atB exR.prices z.b, atB [atB [334, 333, 333] z.c] z.d, atB exR.reports z.e, atB exR.paid z.f⟩
def exRB (z : ExR) : Blks := [(z.a, cO (exR.terms.map Tm.cells).flatten 124), (z.b, cO (exR.prices.map intC).flatten 3), (z.c, cO (([334, 333, 333] : List Int).map intC).flatten 3), (z.d, cO (([atB [334, 333, 333] z.c] : List (SA Int)).map SA.cell).flatten 31), (z.e, cO (exR.reports.map Rp.cells).flatten 76), (z.f, cO (exR.paid.map intC).flatten 3)]
theorem exRA_pl (z : ExR) : (exRA z).pl = exR := rfl
theorem exRA_ok {z : ExR} {w W : World} {tl : Blks} (hm : Mem W [] (exRB z ++ tl) w) : RyOk w (exRA z) := by
  have h : ∀ b o, (b, o) ∈ exRB z → w.heap[b]? = some o := fun b o hb => hm.at (List.mem_append_right _ (List.mem_append_left _ hb))
  refine ⟨cO_ok _ (h _ _ (.head _)) (fun _ => rfl), cO_ok _ (h _ _ (.tail _ (.head _))) (fun _ => rfl), cO_ok _ (h _ _ (.tail _ (.tail _ (.tail _ (.head _))))) (fun _ => rfl), fun x hx => ?_, cO_ok _ (h _ _ (.tail _ (.tail _ (.tail _ (.tail _ (.head _)))))) (fun _ => rfl), cO_ok _ (h _ _ (.tail _ (.tail _ (.tail _ (.tail _ (.tail _ (.head _))))))) (fun _ => rfl)⟩
  simp only [exRA, List.mem_cons, List.not_mem_nil, or_false] at hx
  subst hx
  exact cO_ok _ (h _ _ (.tail _ (.tail _ (.head _)))) (fun _ => rfl)
theorem exRA_sm (z : ExR) : RySm (exRA z) := ⟨by show (2 : Nat) ≤ _; decide, by show (1 : Nat) ≤ _; decide, by show (1 : Nat) ≤ _; decide, fun x hx => by
  simp only [exRA, List.mem_cons, List.not_mem_nil, or_false] at hx
  subst hx
  show (3 : Nat) ≤ _; decide, by show (2 : Nat) ≤ _; decide, by show (2 : Nat) ≤ _; decide⟩
theorem royal_calls (W : World) : Calls Tryz.prog 30 #[] W (News (fun z : ExR => (exRA z).v) exRB W) := by
  refine calls_start Tryz.func30 rfl rfl ?_
  refine st ?_
  refine RunL.new (New.alloc zero_41) rfl rfl rfl (fun b0 => ?_)
  refine st ?_
  refine lv (Val.build (parts := [(0, .const (.int .i64 20)), (1, .const (.int .i64 3)), (2, .const (.int .i64 30))]) rfl zero_124 places_124 rfl) ?_
  refine lv (Val.build (parts := [(0, .const (.int .i64 25)), (1, .const (.int .i64 12)), (2, .const (.int .i64 25))]) rfl zero_124 places_124 rfl) ?_
  refine RunL.new (New.buildSlice (parts := [(0, .tmp 1), (1, .tmp 2)]) rfl sl_37 zero_124 rfl rfl rfl rfl) rfl rfl rfl (fun b3 => ?_)
  refine RunL.new (New.buildSlice (parts := [(0, .const (.int .i64 99))]) rfl sl_31 zero_3 rfl rfl rfl rfl) rfl rfl rfl (fun b4 => ?_)
  refine RunL.new (New.buildSlice (parts := [(0, .const (.int .i64 334)), (1, .const (.int .i64 333)), (2, .const (.int .i64 333))]) rfl sl_31 zero_3 rfl rfl rfl rfl) rfl rfl rfl (fun b5 => ?_)
  refine RunL.new (New.buildSlice (parts := [(0, .tmp 5)]) rfl sl_38 zero_31 rfl rfl rfl rfl) rfl rfl rfl (fun b6 => ?_)
  refine lv (Val.build (parts := [(0, .const (.int .i64 0)), (2, .const (.int .i64 0)), (3, .const (.int .i64 5))]) rfl zero_76 places_76 rfl) ?_
  refine lv (Val.build (parts := [(0, .const (.int .i64 1)), (2, .const (.int .i64 4)), (3, .const (.int .i64 7))]) rfl zero_76 places_76 rfl) ?_
  refine RunL.new (New.buildSlice (parts := [(0, .tmp 7), (1, .tmp 8)]) rfl sl_39 zero_76 rfl rfl rfl rfl) rfl rfl rfl (fun b9 => ?_)
  refine RunL.new (New.buildSlice (parts := [(0, .const (.int .i64 0)), (1, .const (.int .i64 0))]) rfl sl_31 zero_3 rfl rfl rfl rfl) rfl rfl rfl (fun b10 => ?_)
  refine lv (Val.build (parts := [(0, .tmp 3), (1, .tmp 4), (2, .tmp 6), (3, .tmp 9), (4, .tmp 10)]) rfl zero_41 places_41 rfl) ?_
  refine RunL.sto (Sto.store rfl rfl (.there (.there (.there (.there (.there (.there .here)))))) ty_41 rfl rfl) rfl rfl ?_
  refine st ?_
  refine RunC.ret ?_
  exact RunE.ret (chg := []) (.r1 rfl (.agg rfl (.tail _ (.tail _ (.tail _ (.tail _ (.tail _ (.tail _ (.head _))))))) ty_41 rfl)) (fun _ hm => ⟨⟨b3, b4, b5, b6, b9, b10⟩, rfl, hm.pick (.cons (.there (.there (.there (.there (.there .here))))) rfl (.cons (.there (.there (.there (.there .here)))) rfl (.cons (.there (.there (.there .here))) rfl (.cons (.there (.there .here)) rfl (.cons (.there .here) rfl (.cons .here rfl .nil))))))⟩)
def exPA (z : Nat) : PsA := ⟨atB exP.cards z, exP.less, exP.loss⟩
def exPB (z : Nat) : Blks := [(z, cO (exP.cards.map Pt.cells).flatten 69)]
theorem exPA_pl (z : Nat) : (exPA z).pl = exP := rfl
theorem exPA_ok {z : Nat} {w W : World} {tl : Blks} (hm : Mem W [] (exPB z ++ tl) w) : (exPA z).cards.ok Pt.cells 5 w := by
  have h : ∀ b o, (b, o) ∈ exPB z → w.heap[b]? = some o := fun b o hb => hm.at (List.mem_append_right _ (List.mem_append_left _ hb))
  exact cO_ok _ (h _ _ (.head _)) (fun _ => rfl)
theorem prints_calls (W : World) : Calls Tryz.prog 31 #[] W (News (fun z : Nat => (exPA z).v) exPB W) := by
  refine calls_start Tryz.func31 rfl rfl ?_
  refine st ?_
  refine RunL.new (New.alloc zero_48) rfl rfl rfl (fun b0 => ?_)
  refine st ?_
  refine RunL.callP (isCall_func rfl ent_24) rfl rfl rfl (fun w hm => lspan_calls _ _ w) ?_
  refine RunL.callP (isCall_func rfl ent_24) rfl rfl rfl (fun w hm => lspan_calls _ _ w) ?_
  refine lv (Val.build (parts := [(0, .tmp 1), (1, .tmp 2)]) rfl zero_69 places_69 rfl) ?_
  refine RunL.new (New.buildSlice (parts := [(0, .tmp 3)]) rfl sl_44 zero_69 rfl rfl rfl rfl) rfl rfl rfl (fun b4 => ?_)
  refine RunL.callP (isCall_func rfl ent_24) rfl rfl rfl (fun w hm => lspan_calls _ _ w) ?_
  refine RunL.callP (isCall_func rfl ent_24) rfl rfl rfl (fun w hm => lspan_calls _ _ w) ?_
  refine lv (Val.build (parts := [(0, .tmp 4), (1, .tmp 5), (2, .tmp 6)]) rfl zero_48 places_48 rfl) ?_
  refine RunL.sto (Sto.store rfl rfl (.there .here) ty_48 rfl rfl) rfl rfl ?_
  refine st ?_
  refine RunC.ret ?_
  exact RunE.ret (chg := []) (.r1 rfl (.agg rfl (.tail _ (.head _)) ty_48 rfl)) (fun _ hm => ⟨b4, rfl, hm.pick (.cons .here rfl .nil)⟩)
end Go.Proofs.YtleamcmljcdapabGreatDoor
namespace Go.Proofs.YtleamcmljcdapabGreatDoor
open Go Go.Eng
theorem ent_10 : Enters Tryz.prog 10 := enters_of Tryz.func10 (by kernel_rfl) rfl
theorem ent_11 : Enters Tryz.prog 11 := enters_of Tryz.func11 (by kernel_rfl) rfl
theorem ent_12 : Enters Tryz.prog 12 := enters_of Tryz.func12 (by kernel_rfl) rfl
theorem ent_13 : Enters Tryz.prog 13 := enters_of Tryz.func13 (by kernel_rfl) rfl
theorem ent_14 : Enters Tryz.prog 14 := enters_of Tryz.func14 (by kernel_rfl) rfl
theorem ent_15 : Enters Tryz.prog 15 := enters_of Tryz.func15 (by kernel_rfl) rfl
theorem ent_16 : Enters Tryz.prog 16 := enters_of Tryz.func16 (by kernel_rfl) rfl
theorem ent_17 : Enters Tryz.prog 17 := enters_of Tryz.func17 (by kernel_rfl) rfl
theorem ent_18 : Enters Tryz.prog 18 := enters_of Tryz.func18 (by kernel_rfl) rfl
theorem ent_19 : Enters Tryz.prog 19 := enters_of Tryz.func19 (by kernel_rfl) rfl
theorem ent_20 : Enters Tryz.prog 20 := enters_of Tryz.func20 (by kernel_rfl) rfl
theorem ent_21 : Enters Tryz.prog 21 := enters_of Tryz.func21 (by kernel_rfl) rfl
theorem ent_28 : Enters Tryz.prog 28 := enters_of Tryz.func28 (by kernel_rfl) rfl
theorem ent_29 : Enters Tryz.prog 29 := enters_of Tryz.func29 (by kernel_rfl) rfl
theorem ent_30 : Enters Tryz.prog 30 := enters_of Tryz.func30 (by kernel_rfl) rfl
theorem ent_31 : Enters Tryz.prog 31 := enters_of Tryz.func31 (by kernel_rfl) rfl
theorem ent_9 : Enters Tryz.prog 9 := enters_of Tryz.func9 (by kernel_rfl) rfl
end Go.Proofs.YtleamcmljcdapabGreatDoor
namespace Go.Bk
open Go Go.Eng Go.RowKit
theorem grow_news {β : Type} {P : Program} {f : FuncId} {args : Array Value} {w : World} {v : β → Value} {nw : β → Blks} {I : β → Prop} (h : Calls P f args w (Grow w [] v nw I)) : Calls P f args w (News (fun z : { b // I b } => v z.1) (fun z => nw z.1) w) :=
  calls_mono h (by rintro e w' ⟨b, h1, h2, h3⟩; exact ⟨⟨b, h1⟩, h2, h3⟩)
theorem rd_ok {α β : Type} {x : Except Int α} {pl : β → α} {ok : β → Prop} {z0 z : β} {e : Int} {t : α} (h : RdX x pl ok z0 (z, e)) (hx : x = .ok t) : pl z = t ∧ e = 0 ∧ ok z := by
  rcases h with ⟨t', h1, h2, h3, h4⟩ | ⟨k, h1, _⟩
  · rw [hx] at h1; cases h1; exact ⟨h2, h3, h4⟩
  · rw [hx] at h1; cases h1
theorem rd_er {α β : Type} {x : Except Int α} {pl : β → α} {ok : β → Prop} {z0 z : β} {e k : Int} (h : RdX x pl ok z0 (z, e)) (hx : x = .error k) : z = z0 ∧ e = k := by
  rcases h with ⟨t', h1, _⟩ | ⟨k', h1, h2⟩
  · rw [hx] at h1; cases h1
  · rw [hx] at h1; cases h1; cases h2; exact ⟨rfl, rfl⟩
end Go.Bk
namespace Go.Proofs.YtleamcmljcdapabGreatDoor
open Go Go.Eng Go.Bk Go.RowKit

theorem wT (z : ExT) : writeV (tourX (exTA z).pl) (tourS (exTA z).pl) = .tuple #[.string (bs exTS), .int .i64 0] := by rw [exTA_pl, ← exT_text]; rfl
theorem wC (z : ExC) : writeV (cabX (exCA z).pl) (cabS (exCA z).pl) = .tuple #[.string (bs exCS), .int .i64 0] := by rw [exCA_pl, ← exC_text]; rfl
theorem wR (z : ExR) : writeV (royalX (exRA z).pl) (royalS (exRA z).pl) = .tuple #[.string (bs exRS), .int .i64 0] := by rw [exRA_pl, ← exR_text]; rfl
/-- What is read is compared with something. -/
theorem sameTX_calls (x : TrX) (h : TrXOk 10000 x) (u : TrA) (hs : TrSm u) (tl : Blks) (W0 w : World) (hm : Mem W0 [] (trB x ++ tl) w) (hU : TrOk w u) : Calls Tryz.prog 14 #[.agg x.cells.toArray, u.v] w (Pure (.bool (decide (x.pl = u.pl))) w) := by
  have h1 := rsameTour_calls x.toA u (h.sm (Nat.le_refl _)) hs w (trX_ok h hm) hU
  rw [TrX.toA_pl] at h1
  have e : x.toA.v = .agg x.cells.toArray := by unfold TrA.v; rw [h.cells]
  rw [e] at h1
  exact h1
theorem sameCX_calls (x : CbX) (h : CbXOk 10000 x) (u : CbA) (hs : CbS u) (tl : Blks) (W0 w : World) (hm : Mem W0 [] (cbB x ++ tl) w) (hU : CbOk w u) : Calls Tryz.prog 16 #[.agg x.cells.toArray, u.v] w (Pure (.bool (decide (x.pl = u.pl))) w) := by
  have h1 := rsameCabinet_calls x.toA u (h.sm (Nat.le_refl _)) hs w (cbX_ok h hm) hU
  rw [CbX.toA_pl] at h1
  have e : x.toA.v = .agg x.cells.toArray := by unfold CbA.v; rw [h.cells]
  rw [e] at h1
  exact h1
theorem sameRX_calls (x : RyX) (h : RyXOk 10000 x) (u : RyA) (hs : RySm u) (tl : Blks) (W0 w : World) (hm : Mem W0 [] (ryB x ++ tl) w) (hU : RyOk w u) : Calls Tryz.prog 18 #[.agg x.cells.toArray, u.v] w (Pure (.bool (decide (x.pl = u.pl))) w) := by
  have h1 := rsameRoyal_calls x.toA u (h.sm (Nat.le_refl _)) hs w (ryX_ok h hm) hU
  rw [RyX.toA_pl] at h1
  have e : x.toA.v = .agg x.cells.toArray := by unfold RyA.v; rw [h.cells]
  rw [e] at h1
  exact h1
theorem samePX_calls (x : PsX) (h : PsXOk x) (hl : x.cards.2.length ≤ 1000000) (u : PsA) (hs : u.cards.l.length ≤ 1000000) (tl : Blks) (W0 w : World) (hm : Mem W0 [] (ptB x.cards ++ tl) w) (hU : u.cards.ok Pt.cells 5 w) : Calls Tryz.prog 21 #[.agg x.cells.toArray, u.v] w (Pure (.bool (decide (x.pl = u.pl))) w) := by
  have h1 := rsamePrints_calls x.toA u w (own_sl (f := Pt.cells) (e := 69) (fun _ => rfl) (by decide) h (fun b o hb => (hm.newd b o (List.mem_append_left _ hb)).2)) hU hl hs
  have e : x.toA.v = .agg x.cells.toArray := by
    show Value.agg [(OL.sa x.cards).v, _, _, _, _].toArray = _
    rw [OL.sa_v h]
    rfl
  rw [e] at h1
  exact h1
theorem one_psX (x : PsX) : ∀ v ∈ x.cells, isOne v = true := fun v hv => by
  simp only [PsX.cells, List.mem_cons, List.not_mem_nil, or_false] at hv
  rcases hv with rfl | rfl | rfl | rfl | rfl <;> first | rfl | exact own_one _ _
theorem pure_true {P : Program} {f : FuncId} {args : Array Value} {w : World} {p : Prop} [Decidable p] (h : Calls P f args w (Pure (.bool (decide p)) w)) (hp : p) : Calls P f args w (Pure (.bool true) w) := by rw [decide_eq_true hp] at h; exact h
set_option maxHeartbeats 1000000 in
theorem alive_calls (W : World) (hL : Lw Tryz.prog W) : Calls Tryz.prog 8 #[] W (Pure (.bool true) W) := by
  refine calls_start Tryz.func8 rfl rfl ?_
  refine csr ?_
  refine vp rfl rfl rfl rfl ?_
  refine nsr ?_
  refine RunL.callN (isCall_func rfl ent_28) rfl rfl rfl (fun w hm => tour_calls w) (fun b18 => ?_)
  refine RunL.callP (isCall_func rfl ent_13) rfl rfl rfl (fun w hm => (by have h9 := WriteTour_calls (exTA b18) (exTA_sm b18) w (hL.mono hm) (exTA_ok hm); rw [wT] at h9; exact h9)) ?_
  iterate 5 refine vp rfl rfl rfl rfl ?_
  refine nnx ?_
  refine RunC.seq ?_
  refine RunC.keep (Sub.cons (t := 0) rfl (Sub.cons (t := 1) rfl (Sub.cons (t := 2) rfl (Sub.nil _)))) .nil ?_
  refine RunC.region ?_
  refine RunL.callN (isCall_func rfl ent_29) rfl rfl rfl (fun w hm => cabinet_calls w) (fun b23 => ?_)
  refine RunL.callP (isCall_func rfl ent_15) rfl rfl rfl (fun w hm => (by have h9 := WriteCabinet_calls (exCA b23) (exCA_s b23) w (hL.mono hm) (exCA_ok hm); rw [wC] at h9; exact h9)) ?_
  iterate 5 refine vp rfl rfl rfl rfl ?_
  refine nnx ?_
  refine RunC.seq ?_
  refine RunC.keep (Sub.cons (t := 0) rfl (Sub.cons (t := 1) rfl (Sub.cons (t := 2) rfl (Sub.cons (t := 3) rfl (Sub.cons (t := 4) rfl (Sub.nil _)))))) .nil ?_
  refine RunC.region ?_
  refine RunL.callN (isCall_func rfl ent_30) rfl rfl rfl (fun w hm => royal_calls w) (fun b28 => ?_)
  refine RunL.callP (isCall_func rfl ent_17) rfl rfl rfl (fun w hm => (by have h9 := WriteRoyal_calls (exRA b28) (exRA_sm b28) w (hL.mono hm) (exRA_ok hm); rw [wR] at h9; exact h9)) ?_
  iterate 5 refine vp rfl rfl rfl rfl ?_
  refine nnx ?_
  refine RunC.seq ?_
  refine RunC.keep (Sub.cons (t := 0) rfl (Sub.cons (t := 1) rfl (Sub.cons (t := 2) rfl (Sub.cons (t := 3) rfl (Sub.cons (t := 4) rfl (Sub.cons (t := 5) rfl (Sub.cons (t := 6) rfl (Sub.nil _)))))))) .nil ?_
  refine RunC.region ?_
  refine RunL.callN (isCall_func rfl ent_31) rfl rfl rfl (fun w hm => prints_calls w) (fun b33 => ?_)
  refine RunL.callNT (isCall_func rfl ent_19) rfl rfl rfl (fun w hm => (by have h9 := writePrints_ok (exPA b33) w (exPA_ok hm) exP_ok; simp only [exPA_pl, exP_bytes] at h9; exact grow_news h9)) (fun z34 => ?_)
  obtain ⟨y34, hy34⟩ := z34
  dsimp only
  iterate 5 refine vp rfl rfl rfl rfl ?_
  refine nnx ?_
  refine RunC.seq ?_
  refine RunC.seq ?_
  refine RunC.keep (Sub.cons (t := 0) rfl (Sub.cons (t := 1) rfl (Sub.cons (t := 2) rfl (Sub.cons (t := 3) rfl (Sub.cons (t := 4) rfl (Sub.cons (t := 5) rfl (Sub.cons (t := 6) rfl (Sub.cons (t := 7) rfl (Sub.cons (t := 8) rfl (Sub.nil _)))))))))) (Pick.skip (Pick.refl _)) ?_
  refine RunC.region ?_
  refine vp rfl rfl rfl rfl ?_
  refine RunL.val (Val.neqStr rfl rfl) rfl rfl rfl ?_
  refine vp rfl rfl rfl rfl ?_
  refine RunL.sure (dj := 39) false rfl (ndec rfl) ?_
  iterate 4 refine vp rfl rfl rfl rfl ?_
  refine RunL.sure (dj := 43) false rfl (by decide) ?_
  refine vp rfl rfl rfl rfl ?_
  refine RunL.val (Val.neqStr rfl rfl) rfl rfl rfl ?_
  refine vp rfl rfl rfl rfl ?_
  refine vp rfl rfl rfl rfl ?_
  refine RunL.sure (dj := 47) false rfl (ndec rfl) ?_
  iterate 4 refine vp rfl rfl rfl rfl ?_
  refine RunL.sure (dj := 51) false rfl (by decide) ?_
  refine vp rfl rfl rfl rfl ?_
  refine RunL.val (Val.neqStr rfl rfl) rfl rfl rfl ?_
  refine vp rfl rfl rfl rfl ?_
  refine vp rfl rfl rfl rfl ?_
  refine RunL.sure (dj := 55) false rfl (ndec rfl) ?_
  iterate 4 refine vp rfl rfl rfl rfl ?_
  refine RunL.sure (dj := 59) false rfl (by decide) ?_
  refine vp rfl rfl rfl rfl ?_
  refine RunL.new (New.buildSlice (parts := [(0, .const (.int .u8 80)), (1, .const (.int .u8 1)), (2, .const (.int .u8 0)), (3, .const (.int .u8 100)), (4, .const (.int .u8 0)), (5, .const (.int .u8 1)), (6, .const (.int .u8 1)), (7, .const (.int .u8 244)), (8, .const (.int .u8 0)), (9, .const (.int .u8 5)), (10, .const (.int .u8 0)), (11, .const (.int .u8 0)), (12, .const (.int .u8 0)), (13, .const (.int .u8 3)), (14, .const (.int .u8 0)), (15, .const (.int .u8 2)), (16, .const (.int .u8 0)), (17, .const (.int .u8 10)), (18, .const (.int .u8 0)), (19, .const (.int .u8 10)), (20, .const (.int .u8 29)), (21, .const (.int .u8 39))]) rfl sl_22 zero_5 rfl rfl rfl rfl) rfl rfl rfl (fun b61 => ?_)
  refine RunL.callP (isCall_func rfl ent_20) rfl rfl rfl (fun w hm => (pure_true (by rw [ownV_slice hy34]; exact rsameBytes_calls ⟨exPS, ownQ y34, ownK y34, 0, ownC y34⟩ (atB exPS b61) w (own_bytes hy34 (fun b o h => hm.at (.tail _ ((by first | exact List.mem_append_left _ h | exact List.mem_append_right _ (List.mem_append_left _ h)))))) (cO_ok (f := byC) exPS (hm.at (.head _)) (fun _ => rfl))) rfl)) ?_
  iterate 3 refine vp rfl rfl rfl rfl ?_
  refine RunL.sure (dj := 65) false rfl rfl ?_
  iterate 3 refine vp rfl rfl rfl rfl ?_
  refine nnx ?_
  refine RunC.cond rfl (fun h => absurd h (by decide)) ?_
  intro c0
  clear c0
  refine RunC.skip ?_
  refine RunE.next ?_
  refine csr ?_
  refine vp rfl rfl rfl rfl ?_
  refine RunL.callNA [(b61, _)] _ rfl (isCall_func rfl ent_9) rfl rfl rfl (fun w hm => grow_news (ReadTour_calls exTS w (hL.mono hm) (by rw [exT_len]; decide))) (fun z71 => ?_)
  obtain ⟨⟨x71, e71⟩, h71⟩ := z71
  obtain ⟨p71, e171, o71⟩ := rd_ok h71 exT_read
  subst e171
  dsimp only
  iterate 3 refine vp rfl rfl rfl rfl ?_
  refine RunL.new (New.alloc zero_27) rfl rfl rfl (fun b9 => ?_)
  refine RunL.sto (Sto.store (cs := zsrdT) (cs' := x71.cells) rfl rfl .here ty_27 rfl (paste_over rfl (one_trX _))) rfl rfl ?_
  refine vp rfl rfl rfl rfl ?_
  refine nsr ?_
  refine vp rfl rfl rfl rfl ?_
  refine RunL.callNA [(b9, _), (b61, _)] _ rfl (isCall_func rfl ent_10) rfl rfl rfl (fun w hm => grow_news (ReadCabinet_calls exCS w (hL.mono hm) (by rw [exC_len]; decide))) (fun z76 => ?_)
  obtain ⟨⟨x76, e76⟩, h76⟩ := z76
  obtain ⟨p76, e176, o76⟩ := rd_ok h76 exC_read
  subst e176
  dsimp only
  iterate 3 refine vp rfl rfl rfl rfl ?_
  refine RunL.new (New.alloc zero_34) rfl rfl rfl (fun b11 => ?_)
  refine RunL.sto (Sto.store (cs := zsrdC) (cs' := x76.cells) rfl rfl .here ty_34 rfl (paste_over rfl (one_cbX _))) rfl rfl ?_
  refine vp rfl rfl rfl rfl ?_
  refine nsr ?_
  refine vp rfl rfl rfl rfl ?_
  refine RunL.callNA [(b11, _), (b9, _), (b61, _)] _ rfl (isCall_func rfl ent_11) rfl rfl rfl (fun w hm => grow_news (ReadRoyal_calls exRS w (hL.mono hm) (by rw [exR_len]; decide))) (fun z81 => ?_)
  obtain ⟨⟨x81, e81⟩, h81⟩ := z81
  obtain ⟨p81, e181, o81⟩ := rd_ok h81 exR_read
  subst e181
  dsimp only
  iterate 3 refine vp rfl rfl rfl rfl ?_
  refine RunL.new (New.alloc zero_41) rfl rfl rfl (fun b13 => ?_)
  refine RunL.sto (Sto.store (cs := zsrdR) (cs' := x81.cells) rfl rfl .here ty_41 rfl (paste_over rfl (one_ryX _))) rfl rfl ?_
  refine vp rfl rfl rfl rfl ?_
  refine nsr ?_
  refine vp rfl rfl rfl rfl ?_
  refine RunL.callNA [(b13, _), (b11, _), (b9, _), (b61, _)] _ rfl (isCall_func rfl ent_12) rfl rfl rfl (fun w hm => (by rw [ownV_slice hy34]; exact grow_news (ReadPrints_calls exPS (ownQ y34) (ownK y34) 0 (ownC y34) w (own_bytes hy34 (fun b o h => hm.at (.tail _ (.tail _ (.tail _ (.tail _ ((by first | exact List.mem_append_right _ (List.mem_append_right _ (List.mem_append_right _ (List.mem_append_left _ h))) | exact List.mem_append_right _ (List.mem_append_right _ (List.mem_append_right _ (List.mem_append_right _ (List.mem_append_left _ h)))))))))))) (by decide)))) (fun z86 => ?_)
  obtain ⟨⟨x86, e86⟩, h86⟩ := z86
  obtain ⟨p86, e186, o86⟩ := rd_ok h86 exP_read
  subst e186
  dsimp only
  iterate 3 refine vp rfl rfl rfl rfl ?_
  refine RunL.new (New.alloc zero_48) rfl rfl rfl (fun b15 => ?_)
  refine RunL.sto (Sto.store (cs := zeroPX.cells) (cs' := x86.cells) rfl rfl .here ty_48 rfl (paste_over rfl (one_psX _))) rfl rfl ?_
  refine vp rfl rfl rfl rfl ?_
  refine nnx ?_
  refine RunC.seq ?_
  refine RunC.draw 28 fol_ (.cons .here rfl (.cons .here rfl (.cons .here rfl (.cons .here rfl (.cons .here rfl .nil))))) ?_
  refine va 0 rfl (Val.load_agg rfl (.tail _ (.tail _ (.tail _ (.head _)))) ty_27 rfl) rfl rfl rfl (.cons .here rfl (.cons .here rfl (.cons .here rfl (.cons .here rfl (.cons .here rfl .nil))))) rfl ?_
  refine RunA.one (i := 1) (by kernel_rfl) (by kernel_rfl) ?_
  refine RunI.callN rfl (isCall_func rfl ent_28) rfl rfl rfl (fun w hm => tour_calls w) (fun b90 => (RunK.toA (.cons .here rfl (.cons .here rfl (.cons .here rfl (.cons .here rfl (.cons .here rfl (.cons .here rfl (.cons .here rfl (.cons .here rfl (.cons .here rfl (.cons .here rfl (.cons .here rfl (.cons .here rfl .nil)))))))))))) (.cons (.there (.there (.there (.there (.there (.there (.there .here))))))) rfl (.cons (.there (.there (.there (.there (.there (.there (.there .here))))))) rfl (.cons (.there (.there (.there (.there (.there (.there (.there .here))))))) rfl (.cons (.there (.there (.there (.there (.there (.there (.there .here))))))) rfl (.cons (.there (.there (.there (.there (.there (.there (.there .here))))))) rfl .nil))))) rfl ?_))
  refine RunA.one (i := 2) (by kernel_rfl) (by kernel_rfl) ?_
  refine RunI.callP rfl (isCall_func rfl ent_14) rfl rfl rfl (fun w hm => (pure_true (sameTX_calls x71 o71 (exTA b90) (exTA_sm b90) [] W w (hm.pick (news' := trB x71 ++ []) (Pick.cnt fun x => by simp only [nC]; omega)) (exTA_ok hm)) p71)) (RunK.toA (.cons .here rfl (.cons .here rfl (.cons .here rfl (.cons .here rfl (.cons .here rfl (.cons .here rfl (.cons .here rfl (.cons .here rfl (.cons .here rfl (.cons .here rfl (.cons .here rfl (.cons .here rfl .nil)))))))))))) (.cons .here rfl (.cons .here rfl (.cons .here rfl (.cons .here rfl (.cons .here rfl (.cons .here rfl (.cons .here rfl (.cons .here rfl (.cons .here rfl (.cons .here rfl (.cons .here rfl (.cons .here rfl .nil)))))))))))) rfl ?_)
  refine va 3 rfl (Val.pure rfl) rfl rfl rfl (.cons .here rfl (.cons .here rfl (.cons .here rfl (.cons .here rfl (.cons .here rfl (.cons .here rfl (.cons .here rfl (.cons .here rfl (.cons .here rfl (.cons .here rfl (.cons .here rfl (.cons .here rfl .nil)))))))))))) rfl ?_
  refine RunA.sure (dj := 92) true rfl (by rfl) ?_
  refine va 4 rfl (Val.pure rfl) rfl rfl rfl (.cons .here rfl (.cons .here rfl (.cons .here rfl (.cons .here rfl (.cons .here rfl (.cons .here rfl (.cons .here rfl (.cons .here rfl (.cons .here rfl (.cons .here rfl (.cons .here rfl (.cons .here rfl .nil)))))))))))) rfl ?_
  refine va 5 rfl (Val.pure rfl) rfl rfl rfl (.cons .here rfl (.cons .here rfl (.cons .here rfl (.cons .here rfl (.cons .here rfl (.cons .here rfl (.cons .here rfl (.cons .here rfl (.cons .here rfl (.cons .here rfl (.cons .here rfl (.cons .here rfl .nil)))))))))))) rfl ?_
  refine va 6 rfl (Val.pure rfl) rfl rfl rfl (.cons .here rfl (.cons .here rfl (.cons .here rfl (.cons .here rfl (.cons .here rfl (.cons .here rfl (.cons .here rfl (.cons .here rfl (.cons .here rfl (.cons .here rfl (.cons .here rfl (.cons .here rfl .nil)))))))))))) rfl ?_
  refine va 7 rfl (Val.pure rfl) rfl rfl rfl (.cons .here rfl (.cons .here rfl (.cons .here rfl (.cons .here rfl (.cons .here rfl (.cons .here rfl (.cons .here rfl (.cons .here rfl (.cons .here rfl (.cons .here rfl (.cons .here rfl (.cons .here rfl .nil)))))))))))) rfl ?_
  refine RunA.sure (dj := 96) true rfl (by rfl) ?_
  refine va 8 rfl (Val.load_agg rfl (.tail _ (.tail _ (.tail _ (.tail _ (.tail _ (.tail _ (.tail _ (.tail _ (.tail _ (.head _)))))))))) ty_34 rfl) rfl rfl rfl (.cons .here rfl (.cons .here rfl (.cons .here rfl (.cons .here rfl (.cons .here rfl (.cons .here rfl (.cons .here rfl (.cons .here rfl (.cons .here rfl (.cons .here rfl (.cons .here rfl (.cons .here rfl .nil)))))))))))) rfl ?_
  refine RunA.one (i := 9) (by kernel_rfl) (by kernel_rfl) ?_
  refine RunI.callN rfl (isCall_func rfl ent_29) rfl rfl rfl (fun w hm => cabinet_calls w) (fun b98 => (RunK.toA (.cons .here rfl (.cons .here rfl (.cons .here rfl (.cons .here rfl (.cons .here rfl (.cons .here rfl (.cons .here rfl (.cons .here rfl (.cons .here rfl (.cons .here rfl (.cons .here rfl (.cons .here rfl (.cons .here rfl (.cons .here rfl .nil)))))))))))))) (.cons (.there (.there .here)) rfl (.cons (.there (.there .here)) rfl (.cons (.there (.there .here)) rfl (.cons (.there (.there .here)) rfl (.cons (.there (.there .here)) rfl (.cons (.there (.there .here)) rfl (.cons (.there (.there .here)) rfl (.cons (.there (.there .here)) rfl (.cons (.there (.there .here)) rfl (.cons (.there (.there .here)) rfl (.cons (.there (.there .here)) rfl (.cons (.there (.there .here)) rfl .nil)))))))))))) rfl ?_))
  refine RunA.one (i := 10) (by kernel_rfl) (by kernel_rfl) ?_
  refine RunI.callP rfl (isCall_func rfl ent_16) rfl rfl rfl (fun w hm => (pure_true (sameCX_calls x76 o76 (exCA b98) (exCA_s b98) [] W w (hm.pick (news' := cbB x76 ++ []) (Pick.cnt fun x => by simp only [nC]; omega)) (exCA_ok hm)) p76)) (RunK.toA (.cons .here rfl (.cons .here rfl (.cons .here rfl (.cons .here rfl (.cons .here rfl (.cons .here rfl (.cons .here rfl (.cons .here rfl (.cons .here rfl (.cons .here rfl (.cons .here rfl (.cons .here rfl (.cons .here rfl (.cons .here rfl .nil)))))))))))))) (.cons .here rfl (.cons .here rfl (.cons .here rfl (.cons .here rfl (.cons .here rfl (.cons .here rfl (.cons .here rfl (.cons .here rfl (.cons .here rfl (.cons .here rfl (.cons .here rfl (.cons .here rfl (.cons .here rfl (.cons .here rfl .nil)))))))))))))) rfl ?_)
  refine va 11 rfl (Val.pure rfl) rfl rfl rfl (.cons .here rfl (.cons .here rfl (.cons .here rfl (.cons .here rfl (.cons .here rfl (.cons .here rfl (.cons .here rfl (.cons .here rfl (.cons .here rfl (.cons .here rfl (.cons .here rfl (.cons .here rfl (.cons .here rfl (.cons .here rfl .nil)))))))))))))) rfl ?_
  refine va 12 rfl (Val.pure rfl) rfl rfl rfl (.cons .here rfl (.cons .here rfl (.cons .here rfl (.cons .here rfl (.cons .here rfl (.cons .here rfl (.cons .here rfl (.cons .here rfl (.cons .here rfl (.cons .here rfl (.cons .here rfl (.cons .here rfl (.cons .here rfl (.cons .here rfl .nil)))))))))))))) rfl ?_
  refine RunA.sure (dj := 101) true rfl (by rfl) ?_
  refine va 13 rfl (Val.pure rfl) rfl rfl rfl (.cons .here rfl (.cons .here rfl (.cons .here rfl (.cons .here rfl (.cons .here rfl (.cons .here rfl (.cons .here rfl (.cons .here rfl (.cons .here rfl (.cons .here rfl (.cons .here rfl (.cons .here rfl (.cons .here rfl (.cons .here rfl .nil)))))))))))))) rfl ?_
  refine va 14 rfl (Val.pure rfl) rfl rfl rfl (.cons .here rfl (.cons .here rfl (.cons .here rfl (.cons .here rfl (.cons .here rfl (.cons .here rfl (.cons .here rfl (.cons .here rfl (.cons .here rfl (.cons .here rfl (.cons .here rfl (.cons .here rfl (.cons .here rfl (.cons .here rfl .nil)))))))))))))) rfl ?_
  refine va 15 rfl (Val.pure rfl) rfl rfl rfl (.cons .here rfl (.cons .here rfl (.cons .here rfl (.cons .here rfl (.cons .here rfl (.cons .here rfl (.cons .here rfl (.cons .here rfl (.cons .here rfl (.cons .here rfl (.cons .here rfl (.cons .here rfl (.cons .here rfl (.cons .here rfl .nil)))))))))))))) rfl ?_
  refine va 16 rfl (Val.pure rfl) rfl rfl rfl (.cons .here rfl (.cons .here rfl (.cons .here rfl (.cons .here rfl (.cons .here rfl (.cons .here rfl (.cons .here rfl (.cons .here rfl (.cons .here rfl (.cons .here rfl (.cons .here rfl (.cons .here rfl (.cons .here rfl (.cons .here rfl .nil)))))))))))))) rfl ?_
  refine RunA.sure (dj := 105) true rfl (by rfl) ?_
  refine va 17 rfl (Val.load_agg rfl (.tail _ (.tail _ (.tail _ (.tail _ (.tail _ (.tail _ (.tail _ (.tail _ (.tail _ (.tail _ (.head _))))))))))) ty_41 rfl) rfl rfl rfl (.cons .here rfl (.cons .here rfl (.cons .here rfl (.cons .here rfl (.cons .here rfl (.cons .here rfl (.cons .here rfl (.cons .here rfl (.cons .here rfl (.cons .here rfl (.cons .here rfl (.cons .here rfl (.cons .here rfl (.cons .here rfl .nil)))))))))))))) rfl ?_
  refine RunA.one (i := 18) (by kernel_rfl) (by kernel_rfl) ?_
  refine RunI.callN rfl (isCall_func rfl ent_30) rfl rfl rfl (fun w hm => royal_calls w) (fun b107 => (RunK.toA (.cons .here rfl (.cons .here rfl (.cons .here rfl (.cons .here rfl (.cons .here rfl (.cons .here rfl (.cons .here rfl (.cons .here rfl (.cons .here rfl (.cons .here rfl (.cons .here rfl (.cons .here rfl (.cons .here rfl (.cons .here rfl (.cons .here rfl (.cons .here rfl (.cons .here rfl (.cons .here rfl (.cons .here rfl (.cons .here rfl .nil)))))))))))))))))))) (.cons (.there (.there (.there (.there (.there (.there .here)))))) rfl (.cons (.there (.there (.there (.there (.there (.there .here)))))) rfl (.cons (.there (.there (.there (.there (.there (.there .here)))))) rfl (.cons (.there (.there (.there (.there (.there (.there .here)))))) rfl (.cons (.there (.there (.there (.there (.there (.there .here)))))) rfl (.cons (.there (.there (.there (.there (.there (.there .here)))))) rfl (.cons (.there (.there (.there (.there (.there (.there .here)))))) rfl (.cons (.there (.there (.there (.there (.there (.there .here)))))) rfl (.cons (.there (.there (.there (.there (.there (.there .here)))))) rfl (.cons (.there (.there (.there (.there (.there (.there .here)))))) rfl (.cons (.there (.there (.there (.there (.there (.there .here)))))) rfl (.cons (.there (.there (.there (.there (.there (.there .here)))))) rfl (.cons (.there (.there (.there (.there (.there (.there .here)))))) rfl (.cons (.there (.there (.there (.there (.there (.there .here)))))) rfl .nil)))))))))))))) rfl ?_))
  refine RunA.one (i := 19) (by kernel_rfl) (by kernel_rfl) ?_
  refine RunI.callP rfl (isCall_func rfl ent_18) rfl rfl rfl (fun w hm => (pure_true (sameRX_calls x81 o81 (exRA b107) (exRA_sm b107) [] W w (hm.pick (news' := ryB x81 ++ []) (Pick.cnt fun x => by simp only [nC]; omega)) (exRA_ok hm)) p81)) (RunK.toA (.cons .here rfl (.cons .here rfl (.cons .here rfl (.cons .here rfl (.cons .here rfl (.cons .here rfl (.cons .here rfl (.cons .here rfl (.cons .here rfl (.cons .here rfl (.cons .here rfl (.cons .here rfl (.cons .here rfl (.cons .here rfl (.cons .here rfl (.cons .here rfl (.cons .here rfl (.cons .here rfl (.cons .here rfl (.cons .here rfl .nil)))))))))))))))))))) (.cons .here rfl (.cons .here rfl (.cons .here rfl (.cons .here rfl (.cons .here rfl (.cons .here rfl (.cons .here rfl (.cons .here rfl (.cons .here rfl (.cons .here rfl (.cons .here rfl (.cons .here rfl (.cons .here rfl (.cons .here rfl (.cons .here rfl (.cons .here rfl (.cons .here rfl (.cons .here rfl (.cons .here rfl (.cons .here rfl .nil)))))))))))))))))))) rfl ?_)
  refine va 20 rfl (Val.pure rfl) rfl rfl rfl (.cons .here rfl (.cons .here rfl (.cons .here rfl (.cons .here rfl (.cons .here rfl (.cons .here rfl (.cons .here rfl (.cons .here rfl (.cons .here rfl (.cons .here rfl (.cons .here rfl (.cons .here rfl (.cons .here rfl (.cons .here rfl (.cons .here rfl (.cons .here rfl (.cons .here rfl (.cons .here rfl (.cons .here rfl (.cons .here rfl .nil)))))))))))))))))))) rfl ?_
  refine va 21 rfl (Val.pure rfl) rfl rfl rfl (.cons .here rfl (.cons .here rfl (.cons .here rfl (.cons .here rfl (.cons .here rfl (.cons .here rfl (.cons .here rfl (.cons .here rfl (.cons .here rfl (.cons .here rfl (.cons .here rfl (.cons .here rfl (.cons .here rfl (.cons .here rfl (.cons .here rfl (.cons .here rfl (.cons .here rfl (.cons .here rfl (.cons .here rfl (.cons .here rfl .nil)))))))))))))))))))) rfl ?_
  refine RunA.sure (dj := 110) true rfl (by rfl) ?_
  refine va 22 rfl (Val.pure rfl) rfl rfl rfl (.cons .here rfl (.cons .here rfl (.cons .here rfl (.cons .here rfl (.cons .here rfl (.cons .here rfl (.cons .here rfl (.cons .here rfl (.cons .here rfl (.cons .here rfl (.cons .here rfl (.cons .here rfl (.cons .here rfl (.cons .here rfl (.cons .here rfl (.cons .here rfl (.cons .here rfl (.cons .here rfl (.cons .here rfl (.cons .here rfl .nil)))))))))))))))))))) rfl ?_
  refine va 23 rfl (Val.pure rfl) rfl rfl rfl (.cons .here rfl (.cons .here rfl (.cons .here rfl (.cons .here rfl (.cons .here rfl (.cons .here rfl (.cons .here rfl (.cons .here rfl (.cons .here rfl (.cons .here rfl (.cons .here rfl (.cons .here rfl (.cons .here rfl (.cons .here rfl (.cons .here rfl (.cons .here rfl (.cons .here rfl (.cons .here rfl (.cons .here rfl (.cons .here rfl .nil)))))))))))))))))))) rfl ?_
  refine va 24 rfl (Val.pure rfl) rfl rfl rfl (.cons .here rfl (.cons .here rfl (.cons .here rfl (.cons .here rfl (.cons .here rfl (.cons .here rfl (.cons .here rfl (.cons .here rfl (.cons .here rfl (.cons .here rfl (.cons .here rfl (.cons .here rfl (.cons .here rfl (.cons .here rfl (.cons .here rfl (.cons .here rfl (.cons .here rfl (.cons .here rfl (.cons .here rfl (.cons .here rfl .nil)))))))))))))))))))) rfl ?_
  refine va 25 rfl (Val.pure rfl) rfl rfl rfl (.cons .here rfl (.cons .here rfl (.cons .here rfl (.cons .here rfl (.cons .here rfl (.cons .here rfl (.cons .here rfl (.cons .here rfl (.cons .here rfl (.cons .here rfl (.cons .here rfl (.cons .here rfl (.cons .here rfl (.cons .here rfl (.cons .here rfl (.cons .here rfl (.cons .here rfl (.cons .here rfl (.cons .here rfl (.cons .here rfl .nil)))))))))))))))))))) rfl ?_
  refine RunA.sure (dj := 114) true rfl (by rfl) ?_
  refine va 26 rfl (Val.load_agg rfl (.tail _ (.tail _ (.tail _ (.tail _ (.tail _ (.tail _ (.tail _ (.tail _ (.tail _ (.tail _ (.tail _ (.tail _ (.tail _ (.tail _ (.tail _ (.head _)))))))))))))))) ty_48 rfl) rfl rfl rfl (.cons .here rfl (.cons .here rfl (.cons .here rfl (.cons .here rfl (.cons .here rfl (.cons .here rfl (.cons .here rfl (.cons .here rfl (.cons .here rfl (.cons .here rfl (.cons .here rfl (.cons .here rfl (.cons .here rfl (.cons .here rfl (.cons .here rfl (.cons .here rfl (.cons .here rfl (.cons .here rfl (.cons .here rfl (.cons .here rfl .nil)))))))))))))))))))) rfl ?_
  refine RunA.one (i := 27) (by kernel_rfl) (by kernel_rfl) ?_
  refine RunI.callN rfl (isCall_func rfl ent_31) rfl rfl rfl (fun w hm => prints_calls w) (fun b116 => (RunK.toA (.cons .here rfl (.cons .here rfl (.cons .here rfl (.cons .here rfl (.cons .here rfl (.cons .here rfl (.cons .here rfl (.cons .here rfl (.cons .here rfl (.cons .here rfl (.cons .here rfl (.cons .here rfl (.cons .here rfl (.cons .here rfl (.cons .here rfl (.cons .here rfl (.cons .here rfl (.cons .here rfl (.cons .here rfl (.cons .here rfl (.cons .here rfl .nil))))))))))))))))))))) (.cons (.there .here) rfl (.cons (.there .here) rfl (.cons (.there .here) rfl (.cons (.there .here) rfl (.cons (.there .here) rfl (.cons (.there .here) rfl (.cons (.there .here) rfl (.cons (.there .here) rfl (.cons (.there .here) rfl (.cons (.there .here) rfl (.cons (.there .here) rfl (.cons (.there .here) rfl (.cons (.there .here) rfl (.cons (.there .here) rfl (.cons (.there .here) rfl (.cons (.there .here) rfl (.cons (.there .here) rfl (.cons (.there .here) rfl (.cons (.there .here) rfl (.cons (.there .here) rfl .nil)))))))))))))))))))) rfl ?_))
  refine RunA.toB (by kernel_rfl) ?_
  refine RunB.one (i := 28) (by kernel_rfl) ?_
  refine RunI.callP rfl (isCall_func rfl ent_21) rfl rfl rfl (fun w hm => (pure_true (samePX_calls x86 o86 (by have h9 := congrArg (fun q : Ps => q.cards.length) p86; have h8 : x86.cards.2.length = 1 := h9; omega) (exPA b116) (by show (1 : Nat) ≤ _; decide) [] W w (hm.pick (news' := ptB x86.cards ++ []) (Pick.cnt fun x => by simp only [nC]; omega)) (exPA_ok hm)) p86)) (RunK.toB ?_)
  refine RunB.one (i := 29) (by kernel_rfl) ?_
  refine RunI.val rfl (Val.pure rfl) rfl rfl rfl (RunK.toB ?_)
  refine RunB.one (i := 30) (by kernel_rfl) ?_
  refine RunI.val rfl (Val.pure rfl) rfl rfl rfl (RunK.toB ?_)
  refine RunB.sure (dj := 119) true rfl (by rfl) ?_
  refine RunB.one (i := 31) (by kernel_rfl) ?_
  refine RunI.val rfl (Val.pure rfl) rfl rfl rfl (RunK.toB ?_)
  refine RunB.one (i := 32) (by kernel_rfl) ?_
  refine RunI.val rfl (Val.pure rfl) rfl rfl rfl (RunK.toB ?_)
  refine RunB.one (i := 33) (by kernel_rfl) ?_
  refine RunI.val rfl (Val.pure rfl) rfl rfl rfl (RunK.toB ?_)
  refine RunB.one (i := 34) (by kernel_rfl) ?_
  refine RunI.val rfl (Val.pure rfl) rfl rfl rfl (RunK.toB ?_)
  refine RunB.done (by kernel_rfl) ?_
  refine RunE.next ?_
  refine RunC.ret ?_
  exact RunE.retP (.r1 rfl (.tmp rfl)) (by first | rfl | simp)
end Go.Proofs.YtleamcmljcdapabGreatDoor
namespace Go.Eng
open Go Go.RowKit Go.ChangeShapes Go.WideShapes Go.ChangeAt
/-- The plain wrap, with the world's shape and what is listed. -/
theorem handed_shaped_and {H : Type} {enc : TypeId × Value → H} {a : Assume} {C : Checked} {os : Os} {f : FuncId} {fn : Func} {s : ChangeSpec} {conds : List PathCond} {apart fresh handsOn again : Bool} {X : World → Array Value → Prop}
    (hX : ∀ (w w' : World) (args : Array Value), w.heap = w'.heap → X w args → X w' args)
    (own : ownKnob C.prog.godebug = none) (started : os.Started) (noInit : C.prog.inits.idxOf? f = none) (hfn : C.prog.funcs[f]? = some fn)
    (witness : ∃ (w : World) (tape : Tape) (i : Input), w.os = os ∧ (w.forCall tape i).Shaped C.prog ∧ i.vars = [] ∧ Input.okWide C.prog (w.forCall tape i) .any w.heap.size f i ∧
      ((s.pre enc C.prog fn conds apart (w.forCall tape i).memory i.args ∧ X (w.forCall tape i).memory i.args) ∧ sizedMet enc C.prog fn (OpenSpec.ofChange s) apart (w.forCall tape i).memory i.args) ∧ a.holds C.prog (lone (Frame.enter C.prog f i.args .normal) [] (w.forCall tape i)))
    (contract : ∀ (W : World) (base : Nat) (args : Array Value) (ds gs : List (DataW H)) (before : List MemPlace),
      (∀ (j : Nat) t v, fn.params[j]? = some t → args[j]? = some v → Value.okWide C.prog W .any base t v) →
      DataW.Whole enc C.prog fn.params.toList s.vars apart W args.toList ds gs before → W.ShapedOpen C.prog → X W args →
      Calls C.prog f args W fun e W' => ∃ v, e = .returned v ∧ s.post enc C.prog fn apart fresh handsOn again W args v W') :
    ReturnsInHanded a C os f .any (fun w args => (s.pre enc C.prog fn conds apart w args ∧ X w args) ∧ sizedMet enc C.prog fn (OpenSpec.ofChange s) apart w args) (s.post enc C.prog fn apart fresh handsOn again) := by
  refine returnsInHanded_of_calls own started noInit witness ?_
  intro w tape i _ hsh _ hok hpre hholds
  obtain ⟨_, _, _, fn', hfn', _, _, _, _, hval⟩ := hok
  have e : fn' = fn := Option.some.inj (hfn'.symm.trans hfn)
  subst e
  obtain ⟨⟨⟨ds, gs, before, hw, hc⟩, hx⟩, hz⟩ := hpre
  have hw' := DataW.Whole.of_heap (w' := w.forCall tape i) (by rfl) hw
  refine (contract (w.forCall tape i) w.heap.size i.args ds gs before hval hw' hsh (hX _ _ _ (by rfl) hx)).mono fun e W' ⟨v, he, hp⟩ => ?_
  subst he
  exact ChangeSpec.post_blind hp
/-- As law_contract, at one world. -/
theorem law_contractW {H : Type} {enc : TypeId × Value → H} {P : Program} {f : Func} {s : ChangeSpec} {n : Nat} {shs : List Sh} {tb : TypeId} {F : FuncId} (hl : laidOutB P = true) (hsh : f.params.toList.mapM (shapeB P n) = some shs)
    (hp : f.params.toList.all (fun t => P.readableRec t && decide (t < P.types.size)) = true) (hr : f.resultTypes = #[tb]) (hb : P.underlying tb = some .bool) (hvars : s.vars = [])
    (hfn : ∀ ds : List (DataW H), ds.length = f.params.toList.length → s.fn H (ds ++ []) = { results := [.lit (.bool true)], args := ds })
    {W : World} (walk : ∀ vs : List Value, RdAll W shs vs → Calls P F vs.toArray W (Pure (.bool true) W)) {base : Nat} {args : Array Value} {ds gs : List (DataW H)} {before : List MemPlace} (hval : ∀ (j : Nat) t v, f.params[j]? = some t → args[j]? = some v → Value.okWide P W .any base t v)
    (hW : DataW.Whole enc P f.params.toList s.vars false W args.toList ds gs before) :
    Calls P F args W fun e W' => ∃ v, e = .returned v ∧ s.post enc P f false true false false W args v W' := by
  have hW' := hW
  obtain ⟨p, q, hA, hV, rfl, hfz, hnd⟩ := hW
  rw [hvars] at hV
  obtain ⟨rfl, rfl⟩ := trodVars_none hV
  have hrd : RdAll W shs args.toList := rdAll_of hsh (fun j t v hj hv => hval j t v (by simpa using hj) (by simpa using hv)) hA
  have hlen : ds.length = f.params.toList.length := by
    clear hW' hval hrd hfn hp hsh hfz hnd hV
    generalize f.params.toList = ts at hA
    generalize args.toList = vs at hA
    induction ts generalizing vs ds p with
    | nil => obtain ⟨_, rfl, _⟩ := trodAll_nil hA; rfl
    | cons t ts ih =>
      obtain ⟨v, vs', d, ds', p, q, rfl, rfl, rfl, h0, hr⟩ := trodAll_cons hA
      simp [ih _ _ hr]
  refine (walk args.toList hrd).mono fun e W' ⟨he, hm⟩ => ?_
  subst he
  have bel := hm.below
  refine ⟨_, rfl, ds, [], p ++ [], [], p, [], hW', ?_, ?_, ?_, bel.frame _, fun h => by cases h⟩
  · rw [hfn ds hlen, hr]
    exact trodAll_mk1 (shut_bool hb _)
  · rw [hfn ds hlen]
    exact trodAll_below hl bel hp hA
  · rw [hvars, hfn ds hlen]
    rfl
/-- A listed error: the variable holds an interface value. -/
theorem laid_iface {P : Program} {n nm : String} {d : DataW Unit} {r : List (String × DataW Unit)} {W : World} {g : Nat} {ti : TypeId} {ms : Array (String × TypeId)}
    (h : laidMet P ((n, .iface nm d) :: r) W) (hg : P.globalNamed n = some g) (ht : (P.globals[g]?).map (·.type) = some ti) (hi : P.underlying ti = some (.interface ms)) : ∃ te pe, W.cell? ⟨g, 0, none⟩ = some (.iface te pe) := by
  obtain ⟨ps, ⟨g0, t0, cs0, f0, p0, q0, hg0, ht0, hv0, hd0, _, e0⟩, _, hrows⟩ := h
  obtain rfl := Option.some.inj (hg.symm.trans hg0)
  obtain rfl := Option.some.inj (ht.symm.trans ht0)
  obtain ⟨f', u, v, hcs, _, _⟩ := iface_of_trod hi hd0
  have h1 := World.var?_cell hg0 hv0 0
  have e : cs0 = #[.iface u v] := by
    obtain ⟨l⟩ := cs0
    simp only at hcs
    rw [hcs]
  rw [e] at h1
  exact ⟨u, v, by simpa using h1⟩
end Go.Eng
namespace Go.Proofs.YtleamcmljcdapabGreatDoor
open Go Go.Eng Go.Bk Go.RowKit

abbrev laidL : List (String × DataW Unit) := [("math/bits.deBruijn32tab", Rows.laid_math_bits_deBruijn32tab), ("math/bits.deBruijn64tab", Rows.laid_math_bits_deBruijn64tab), ("internal/strconv.uint64pow10", Rows.laid_internal_strconv_uint64pow10), ("unicode/utf8.acceptRanges", Rows.laid_unicode_utf8_acceptRanges), ("strconv.ErrRange", Rows.laid_strconv_ErrRange), ("strconv.ErrSyntax", Rows.laid_strconv_ErrSyntax), ("unicode/utf8.first", Rows.laid_unicode_utf8_first)]
theorem gMax : ((begin Tryz.prog (fun _ _ => 0) default).world.heap[0]?).bind Obj.row? = some (#[.int .i64 0], 3) := by kernel_rfl
theorem lw_of {W : World} (hsh : W.ShapedOpen Tryz.prog) (hL : laidMetH Tryz.prog laidL W) : Lw Tryz.prog W := by
  rw [MakeChecks.laidMetH_plain _ _ _ (by kernel_rfl)] at hL
  have h3 := hL.tail.tail
  have h5 := h3.tail.tail
  obtain ⟨te, pe, h1⟩ := laid_iface h5 (g := 3) (by kernel_rfl) (by kernel_rfl) Tryz.underlying141
  obtain ⟨te2, pe2, h2⟩ := laid_iface h5.tail (g := 2) (by kernel_rfl) (by kernel_rfl) Tryz.underlying141
  exact ⟨cell_of_shapedOpen_int hsh (by decide) gMax rfl (by kernel_rfl) (by kernel_rfl) Tryz.underlying3,
    Lib.tabIs_of_head (g := 1) (t := 235) (n := 20) (e := 221) (by kernel_rfl) (by kernel_rfl) (by kernel_rfl) (by kernel_rfl) (by kernel_rfl) (by kernel_rfl) h3,
    ⟨_, h2, .inr ⟨_, _, rfl⟩⟩, ⟨_, h1, .inr ⟨_, _, rfl⟩⟩⟩
theorem laid_fits (os : Os) : (World.holding Tryz.prog os ⟨#[], #[], []⟩).layFits Tryz.prog laidL [] = true := by kernel_rfl
theorem laid_ifaces (os : Os) : (World.holding Tryz.prog os ⟨#[], #[], []⟩).layIfaces Tryz.prog laidL (World.laidAll Tryz.prog os laidL) = true := by kernel_rfl
end Go.Proofs.YtleamcmljcdapabGreatDoor
namespace Go.Bk
open Go Go.Eng Go.RowKit
abbrev iSh : Sh := .int .i64
abbrev spSh : Sh := .st [iSh, iSh]
abbrev lnSh : Sh := .st [iSh, iSh, iSh, iSh]
abbrev tmSh : Sh := .st [iSh, iSh, iSh]
abbrev trSh : Sh := .st [iSh, .sl spSh, .sl (.sl spSh), .sl spSh, .sl spSh]
abbrev cbSh : Sh := .st [iSh, .sl iSh, iSh, .sl lnSh]
abbrev rySh : Sh := .st [.sl tmSh, .sl iSh, .sl (.sl iSh), .sl lnSh, .sl iSh]
theorem rd_cons {w : World} {s : Sh} {l : List Sh} {cs : List Value} (h : Rd w (.st (s :: l)) cs) : ∃ a b, cs = a ++ b ∧ Rd w s a ∧ Rd w (.st l) b := by
  cases h with
  | recS h1 h2 => exact ⟨_, _, rfl, h1, h2⟩
theorem rd_nil {w : World} {cs : List Value} (h : Rd w (.st []) cs) : cs = [] := by cases h; rfl
theorem rd_int {w : World} {cs : List Value} (h : Rd w iSh cs) : ∃ n : Int, cs = [.int .i64 n] ∧ True := by cases h; exact ⟨_, rfl, trivial⟩
theorem rd_sp {w : World} {cs : List Value} (h : Rd w spSh cs) : ∃ s : Sp, cs = s.cells ∧ True := by
  obtain ⟨a, b, rfl, h1, h⟩ := rd_cons h
  obtain ⟨c, d, rfl, h2, h⟩ := rd_cons h
  obtain rfl := rd_nil h
  obtain ⟨n, rfl, _⟩ := rd_int h1
  obtain ⟨m, rfl, _⟩ := rd_int h2
  exact ⟨⟨n, m⟩, rfl, trivial⟩
theorem rd_tm {w : World} {cs : List Value} (h : Rd w tmSh cs) : ∃ s : Tm, cs = s.cells ∧ True := by
  obtain ⟨a, b, rfl, h1, h⟩ := rd_cons h
  obtain ⟨c, d, rfl, h2, h⟩ := rd_cons h
  obtain ⟨e, f, rfl, h3, h⟩ := rd_cons h
  obtain rfl := rd_nil h
  obtain ⟨n, rfl, _⟩ := rd_int h1
  obtain ⟨m, rfl, _⟩ := rd_int h2
  obtain ⟨k, rfl, _⟩ := rd_int h3
  exact ⟨⟨n, m, k⟩, rfl, trivial⟩
theorem rd_four {w : World} {cs : List Value} (h : Rd w lnSh cs) : ∃ a b c d : Int, cs = [.int .i64 a, .int .i64 b, .int .i64 c, .int .i64 d] := by
  obtain ⟨a, b, rfl, h1, h⟩ := rd_cons h
  obtain ⟨c, d, rfl, h2, h⟩ := rd_cons h
  obtain ⟨e, f, rfl, h3, h⟩ := rd_cons h
  obtain ⟨i, j, rfl, h4, h⟩ := rd_cons h
  obtain rfl := rd_nil h
  obtain ⟨n, rfl, _⟩ := rd_int h1
  obtain ⟨m, rfl, _⟩ := rd_int h2
  obtain ⟨k, rfl, _⟩ := rd_int h3
  obtain ⟨l, rfl, _⟩ := rd_int h4
  exact ⟨n, m, k, l, rfl⟩
theorem rd_ln {w : World} {cs : List Value} (h : Rd w lnSh cs) : ∃ s : Ln, cs = s.cells ∧ True := by
  obtain ⟨a, b, c, d, rfl⟩ := rd_four h
  exact ⟨⟨a, b, c, d⟩, rfl, trivial⟩
theorem rd_rp {w : World} {cs : List Value} (h : Rd w lnSh cs) : ∃ s : Rp, cs = s.cells ∧ True := by
  obtain ⟨a, b, c, d, rfl⟩ := rd_four h
  exact ⟨⟨a, b, c, d⟩, rfl, trivial⟩
theorem rowsH_of {α : Type} {f : α → List Value} {p : α → Prop} : ∀ {xs : List (List Value)}, (∀ x ∈ xs, ∃ a, x = f a ∧ p a) → ∃ l : List α, xs = l.map f ∧ ∀ a ∈ l, p a
  | [], _ => ⟨[], rfl, fun a h => by cases h⟩
  | x :: xs, h => by
    obtain ⟨a, rfl, ha⟩ := h x (by simp)
    obtain ⟨l, rfl, hl⟩ := rowsH_of (xs := xs) (fun y hy => h y (List.mem_cons_of_mem _ hy))
    exact ⟨a :: l, rfl, fun b hb => by rcases List.mem_cons.1 hb with rfl | hb; exact ha; exact hl b hb⟩
/-- What is known of a slice that comes in. -/
structure SaIn {α : Type} (f : α → List Value) (sz : Nat) (p : α → Prop) (w : World) (s : SA α) : Prop where
  ok : s.ok f sz w
  each : ∀ a ∈ s.l, p a
  cap : s.l.length ≤ s.c
  few : s.c ≤ maxLen
  nq : s.q = none → s.l.length = 0 ∧ s.c = 0
theorem rd_sa {α : Type} {f : α → List Value} {p : α → Prop} {w : World} {e : Sh} (hx : ∀ {x}, Rd w e x → ∃ a, x = f a ∧ p a) {cs : List Value} (h : Rd w (.sl e) cs) : ∃ s : SA α, cs = [s.v] ∧ SaIn f e.size p w s := by
  cases h with
  | slNil => exact ⟨⟨[], none, 0, 0, 0⟩, rfl, ⟨Sl.emp, (fun a h => by cases h), Nat.le_refl _, Nat.zero_le _, fun _ => ⟨rfl, rfl⟩⟩⟩
  | sl hs hl hc h =>
    obtain ⟨l, rfl, hl2⟩ := rowsH_of (f := f) (p := p) (fun x hx' => hx (h x hx'))
    rw [List.length_map] at hl
    exact ⟨⟨l, some _, _, _, _⟩, by rw [List.length_map]; rfl, ⟨hs, hl2, hl, hc, fun h => by cases h⟩⟩
theorem rd_tr {w : World} {cs : List Value} (h : Rd w trSh cs) : ∃ t : TrA, cs = t.cells ∧ TrOk w t ∧ t.ways.l.length ≤ maxLen := by
  obtain ⟨_, _, rfl, h1, h⟩ := rd_cons h
  obtain ⟨_, _, rfl, h2, h⟩ := rd_cons h
  obtain ⟨_, _, rfl, h3, h⟩ := rd_cons h
  obtain ⟨_, _, rfl, h4, h⟩ := rd_cons h
  obtain ⟨_, _, rfl, h5, h⟩ := rd_cons h
  obtain rfl := rd_nil h
  obtain ⟨n, rfl, _⟩ := rd_int h1
  obtain ⟨a, rfl, ha⟩ := rd_sa rd_sp h2
  obtain ⟨b, rfl, hb⟩ := rd_sa (f := SA.cell) (p := fun s => SaIn Sp.cells 2 (fun _ => True) w s) (rd_sa rd_sp) h3
  obtain ⟨c, rfl, hc⟩ := rd_sa rd_sp h4
  obtain ⟨d, rfl, hd⟩ := rd_sa rd_sp h5
  exact ⟨⟨n, a, b, c, d⟩, rfl, ⟨ha.ok, hb.ok, fun x hx => (hb.each x hx).ok, hc.ok, hd.ok, hb.nq⟩, Nat.le_trans hb.cap hb.few⟩
def nilPA : PsA := ⟨⟨[], none, 0, 0, 0⟩, ⟨0, 0⟩, ⟨0, 0⟩⟩
theorem Few.sm {t : TrA} {c : CbA} {r : RyA} {p : PsA} (h : Few t.pl c.pl r.pl p.pl) : TrSm t ∧ CbS c ∧ RySm r ∧ p.cards.l.length ≤ 10000 := by
  obtain ⟨h1, h2, h3, h4, h5, h6, h7, h8, h9, h10, h11, h12, h13, h14⟩ := h
  have e1 : t.pl.ways.length = t.ways.l.length := by simp [TrA.pl]
  have e2 : r.pl.shares.length = r.shares.l.length := by simp [RyA.pl]
  rw [e1] at h2
  rw [e2] at h12
  refine ⟨⟨Nat.le_trans h1 (by decide), Nat.le_trans h2 (by decide), fun x hx => Nat.le_trans (h3 x.l (List.mem_map.2 ⟨x, hx, rfl⟩)) (by decide), Nat.le_trans h4 (by decide), Nat.le_trans h5 (by decide)⟩, ⟨Nat.le_trans h6 (by decide), Nat.le_trans h7 (by decide)⟩,
    ⟨Nat.le_trans h9 (by decide), Nat.le_trans h11 (by decide), Nat.le_trans h12 (by decide), fun x hx => Nat.le_trans (h13 x.l (List.mem_map.2 ⟨x, hx, rfl⟩)) (by decide), Nat.le_trans h14 (by decide), Nat.le_trans h10 (by decide)⟩, Nat.le_trans h8 (by decide)⟩
theorem ite_one {b : Bool} (h : (if b = true then (0 : Int) else 1) = 0) : b = true := by cases b <;> simp_all
end Go.Bk
namespace Go.Bk
open Go Go.Eng Go.RowKit
theorem lineS_m {m : Nat} {ws : List Str} (h : ∀ x ∈ ws, x.length ≤ m) : (lineS ws).length ≤ ws.length * (m + 1) + 1 := by
  have h1 := join_le (sep := [32]) h
  unfold lineS
  rw [List.length_append]
  simp only [nl, List.length_singleton] at h1 ⊢
  omega
theorem rowS_m {w : Str} {l : List Sp} (hw : w.length ≤ 42) (hl : l.length ≤ 6) (h : ∀ s ∈ l, In64 s.lo ∧ In64 s.hi) : (rowS w l).length ≤ 302 := by
  have h1 := lineS_m (m := 42) (ws := w :: l.map spS) (fun x hx => by
    rcases List.mem_cons.1 hx with rfl | hx
    · exact hw
    · obtain ⟨s, hs, rfl⟩ := List.mem_map.1 hx
      exact spS_len (h s hs))
  simp only [List.length_cons, List.length_map] at h1
  unfold rowS
  omega
theorem tour_small {t : Tr} (h : tourX t = true) : (tourS t).length ≤ 4096 := by
  have hv := tour_v (t := t.toA) (by rw [Tr.toA_pl]; exact h)
  have h1 := lineS_m (m := 20) (ws := [wTour, Lib.itoa t.dawn]) (fun x hx => by
    simp only [List.mem_cons, List.not_mem_nil, or_false] at hx
    rcases hx with rfl | rfl
    · decide
    · exact itoa_len hv.dawn)
  have r1 := rowS_m (w := wFrom) (by decide) (hv.all t.toA.fr (all_fr _)).1 (hv.all t.toA.fr (all_fr _)).2
  have r2 := rowS_m (w := wStay) (by decide) (hv.all t.toA.stay (all_stay _)).1 (hv.all t.toA.stay (all_stay _)).2
  have r3 := rowS_m (w := wLight) (by decide) (hv.all t.toA.light (all_light _)).1 (hv.all t.toA.light (all_light _)).2
  have r4 := flat_len_le (f := rowS wWays) (m := 302) (l := t.ways) (fun l hl => by
    have h2 := hv.all ⟨l, none, 0, 0, 0⟩ (all_way (List.mem_map.2 ⟨l, hl, rfl⟩))
    exact rowS_m (by decide) h2.1 h2.2)
  have hw : t.ways.length ≤ 6 := by have := hv.ways; simpa [Tr.toA] using this
  unfold tourS
  simp only [List.length_append, List.length_cons, List.length_nil] at h1 ⊢
  have e1 : t.toA.fr.l = t.fr := rfl
  have e2 : t.toA.stay.l = t.stay := rfl
  have e3 : t.toA.light.l = t.light := rfl
  rw [e1] at r1
  rw [e2] at r2
  rw [e3] at r3
  omega
theorem loanS_m {l : Ln} (h : LnV l) : (loanS l).length ≤ 64 := by
  have k3 : ∀ a b c : Str, a.length ≤ 20 → b.length ≤ 20 → c.length ≤ 20 → (lineS [a, b, c]).length ≤ 64 := fun a b c ha hb hc => by
    have := lineS_m (m := 20) (ws := [a, b, c]) (fun x hx => by
      simp only [List.mem_cons, List.not_mem_nil, or_false] at hx
      rcases hx with rfl | rfl | rfl <;> assumption)
    simpa using this
  have kw : (if l.kind = 1 then wBack else wTake).length ≤ 20 := by split <;> decide
  unfold loanS
  split
  · split
    · exact k3 _ _ _ (by decide) (itoa_len h.slot) (by decide)
    · exact k3 _ _ _ (by decide) (itoa_len h.slot) (itoa_len h.card)
  · exact k3 _ _ _ kw (itoa_len h.card) (itoa_len h.person)
theorem cab_small {c : Cb} (h : cabX c = true) : (cabS c).length ≤ 4096 := by
  have hv := cab_v (c := c.toA) h
  have h1 := lineS_m (m := 20) (ws := [wCab, Lib.itoa c.slots, Lib.itoa c.wrong]) (fun x hx => by
    simp only [List.mem_cons, List.not_mem_nil, or_false] at hx
    rcases hx with rfl | rfl | rfl
    · decide
    · exact itoa_len hv.slots
    · exact itoa_len hv.wrong)
  have h2 := lineS_m (m := 20) (ws := wHomes :: c.homes.map Lib.itoa) (fun x hx => by
    rcases List.mem_cons.1 hx with rfl | hx
    · decide
    · obtain ⟨n, hn, rfl⟩ := List.mem_map.1 hx
      exact itoa_len (hv.hom64 n hn))
  have h3 := flat_len_le (f := loanS) (m := 64) (l := c.loans) (fun l hl => loanS_m (hv.each l hl))
  have h4 : c.homes.length ≤ 5 := hv.homes
  have h5 : c.loans.length ≤ 12 := hv.loans
  unfold cabS
  simp only [List.length_append, List.length_cons, List.length_map, List.length_nil] at h1 h2 ⊢
  omega
theorem five_m {a b c d e : Str} (ha : a.length ≤ 20) (hb : b.length ≤ 20) (hc : c.length ≤ 20) (hd : d.length ≤ 20) (he : e.length ≤ 20) : (lineS [a, b, c, d, e]).length ≤ 106 := by
  have := lineS_m (m := 20) (ws := [a, b, c, d, e]) (fun x hx => by
    simp only [List.mem_cons, List.not_mem_nil, or_false] at hx
    rcases hx with rfl | rfl | rfl | rfl | rfl <;> assumption)
  simpa using this
theorem roy_small {r : Ry} (h : royalX r = true) : (royalS r).length ≤ 4096 := by
  have hv := roy_v (r := r.toA) (by rw [Ry.toA_pl]; exact h)
  have h1 := flat_len_le (f := fun x : Tm × Int => agentS x.1 x.2) (m := 106) (l := r.terms.zip r.paid) (fun x hx => by
    have h2 := List.of_mem_zip (a := x.1) (b := x.2) hx
    have h3 := hv.tm _ h2.1
    exact five_m (by decide) (itoa_len h3.1) (itoa_len h3.2.1) (itoa_len h3.2.2) (itoa_len (hv.pd _ h2.2)))
  have h2 := flat_len_le (f := fun x : Int × List Int => kindS x.1 x.2) (m := 148) (l := r.prices.zip r.shares) (fun x hx => by
    have h2 := List.of_mem_zip (a := x.1) (b := x.2) hx
    have h3 := hv.sh ⟨x.2, none, 0, 0, 0⟩ (List.mem_map.2 ⟨x.2, h2.2, rfl⟩)
    have h4 := lineS_m (m := 20) (ws := wKind :: Lib.itoa x.1 :: x.2.map Lib.itoa) (fun y hy => by
      rcases List.mem_cons.1 hy with rfl | hy
      · decide
      · rcases List.mem_cons.1 hy with rfl | hy
        · exact itoa_len (hv.pr _ h2.1)
        · obtain ⟨n, hn, rfl⟩ := List.mem_map.1 hy
          exact itoa_len (h3.2 n hn))
    have h5 : x.2.length ≤ 5 := h3.1
    simp only [List.length_cons, List.length_map] at h4
    unfold kindS
    omega)
  have h3 := flat_len_le (f := reportS) (m := 106) (l := r.reports) (fun x hx => by
    have h3 := hv.rp x hx
    exact five_m (by decide) (itoa_len h3.1) (itoa_len h3.2.1) (itoa_len h3.2.2.1) (itoa_len h3.2.2.2))
  have h4 : r.terms.length ≤ 4 := hv.terms
  have h5 : r.prices.length ≤ 4 := hv.prices
  have h6 : r.reports.length ≤ 20 := hv.reports
  have e : (lineS [wRoyal]).length = 6 := by decide
  have z1 : (r.terms.zip r.paid).length ≤ 4 := by rw [List.length_zip]; omega
  have z2 : (r.prices.zip r.shares).length ≤ 4 := by rw [List.length_zip]; omega
  unfold royalS
  simp only [List.length_append, e]
  omega
theorem cab_back {c : Cb} (h : cabX c = true) : readX cabStep zeroC cabX cabS (cabS c) = .ok c := readX_ok parse_cab h rfl (Nat.not_lt.2 (cab_small h))
theorem roy_back {r : Ry} (h : royalX r = true) : readX royStep zeroR royalX royalS (royalS r) = .ok r := readX_ok parse_roy h rfl (Nat.not_lt.2 (roy_small h))
end Go.Bk
namespace Go.Bk
open Go Go.Eng Go.RowKit
theorem lines_inj {a b : List (List Str)} (ha : LinesOk a) (hb : LinesOk b) (h : (a.map lineS).flatten = (b.map lineS).flatten) : a = b := by
  have h1 := lines_text ha
  rw [h, lines_text hb] at h1
  exact h1.symm
theorem reads_no {α : Type} {step : α → List Str → Option α} {z : α} {ok : α → Bool} {text : α → Str} {s : Str} (hl : s.length ≤ 4096) (hn : ∀ x, ok x = true → text x ≠ s) : readX step z ok text s = .error 8 := by
  cases h : readX step z ok text s with
  | ok x =>
    obtain ⟨h1, h2, _⟩ := readX_inv h
    exact absurd h2 (hn x h1)
  | error k =>
    unfold readX at h
    rw [if_neg (by omega)] at h
    split at h
    · split at h
      · cases h
      · cases h; rfl
    · cases h; rfl
theorem last_text {ls : List (List Str)} {ws : List Str} : ((ls ++ [ws]).map lineS).flatten = ((ls.map lineS).flatten ++ Lib.join ws [32]) ++ [10] := by simp [lineS, nl]
theorem cut_ends {ls ls' : List (List Str)} {ws : List Str} (hw : ∀ w ∈ ws, clean w) (hj : Lib.join ws [32] ≠ []) (hne : ls' ≠ []) : (ls'.map lineS).flatten ≠ (ls.map lineS).flatten ++ Lib.join ws [32] := fun h => by
  have h1 := suffix_text hne
  rw [h] at h1
  unfold Lib.hasSuffix at h1
  obtain ⟨t, ht⟩ := List.isSuffixOf_iff_suffix.1 h1
  have h2 : (10 : UInt8) ∈ Lib.join ws [32] := by
    have h3 := congrArg List.getLast? ht
    rw [List.getLast?_append, List.getLast?_append] at h3
    cases h4 : (Lib.join ws [32]).getLast? with
    | none => exact absurd (List.getLast?_eq_none_iff.1 h4) hj
    | some c =>
      rw [h4] at h3
      simp at h3
      subst h3
      exact List.mem_of_getLast? h4
  exact join_no ws hw h2
theorem join_ne {w : Str} {r : List Str} (h : w ≠ []) : Lib.join (w :: r) [32] ≠ [] := by
  cases r with
  | nil => rw [Lib.join_one]; exact h
  | cons v r =>
    have e : Lib.join (w :: v :: r) [32] = w ++ 32 :: Lib.join (v :: r) [32] := by simp [Lib.join, List.intercalate]
    rw [e]
    simp
/-- Without its last byte. -/
theorem cut1 {α : Type} {step : α → List Str → Option α} {z : α} {ok : α → Bool} {text : α → Str} {L : α → List (List Str)} (hT : ∀ x, text x = ((L x).map lineS).flatten) (hne : ∀ x, L x ≠ []) {x : α} (hok : LinesOk (L x)) (hw : ∀ ws ∈ L x, Lib.join ws [32] ≠ []) (hl : (text x).length ≤ 4096) : readX step z ok text ((text x).take ((text x).length - 1)) = .error 8 := by
  refine reads_no (by rw [List.length_take]; omega) (fun y _ => ?_)
  obtain ⟨ls, ws, e⟩ : ∃ ls ws, L x = ls ++ [ws] := ⟨(L x).dropLast, (L x).getLast (hne x), (List.dropLast_concat_getLast (hne x)).symm⟩
  have e2 : (text x).take ((text x).length - 1) = (ls.map lineS).flatten ++ Lib.join ws [32] := by
    rw [hT x, e, last_text, List.length_append, show ([10] : Str).length = 1 from rfl, Nat.add_sub_cancel]
    exact List.take_left' rfl
  rw [e2, hT y]
  have hm : ws ∈ L x := by rw [e]; simp
  exact cut_ends (hok ws hm).2 (hw ws hm) (hne y)
/-- Without its last line. -/
def shortS (s : Str) : Str := s.take (Lib.lastIndex (Lib.trimSuffix s [10]) [10] + 1).toNat
theorem occ_at {a b : Str} {i : Nat} : Lib.occAt (a ++ b) [10] (a.length + i) = Lib.occAt b [10] i := by
  unfold Lib.occAt
  rw [List.drop_append, List.drop_of_length_le (by omega)]
  simp
theorem occ_no {b : Str} (h : (10 : UInt8) ∉ b) (i : Nat) : Lib.occAt b [10] i = false := by
  cases h1 : Lib.occAt b [10] i with
  | false => rfl
  | true =>
    exfalso
    unfold Lib.occAt at h1
    have h2 : (10 : UInt8) ∈ b.drop i := by
      cases h3 : b.drop i with
      | nil => rw [h3] at h1; simp at h1
      | cons c r =>
        rw [h3] at h1
        simp at h1
        rw [h1]
        exact List.mem_cons_self ..
    exact h (List.mem_of_mem_drop h2)
theorem occ_lt {s : Str} {i : Nat} (h : Lib.occAt s [10] i = true) : i < s.length := by
  unfold Lib.occAt at h
  rcases Nat.lt_or_ge i s.length with h1 | h1
  · exact h1
  · rw [List.drop_of_length_le h1] at h
    simp at h
theorem lastIndex_none {b : Str} (h : (10 : UInt8) ∉ b) : Lib.lastIndex b [10] = -1 := by
  unfold Lib.lastIndex
  split
  · rcases Lib.lastOcc_spec b [10] (b.length - ([10] : Str).length + 1) with h1 | ⟨i, _, _, h1, _⟩
    · exact h1.1
    · rw [occ_no h] at h1; cases h1
  · rfl
theorem lastIndex_at {a b : Str} (h : (10 : UInt8) ∉ b) : Lib.lastIndex (a ++ [10] ++ b) [10] = (a.length : Int) := by
  have hat : Lib.occAt (a ++ [10] ++ b) [10] a.length = true := by
    have h1 := occ_at (a := a) (b := [10] ++ b) (i := 0)
    rw [← List.append_assoc, Nat.add_zero] at h1
    rw [h1]
    unfold Lib.occAt
    simp
  have hno : ∀ j, a.length < j → Lib.occAt (a ++ [10] ++ b) [10] j = false := fun j hj => by
    have h1 := occ_at (a := a ++ [10]) (b := b) (i := j - (a.length + 1))
    rw [List.length_append, show ([10] : Str).length = 1 from rfl, show a.length + 1 + (j - (a.length + 1)) = j by omega, occ_no h] at h1
    exact h1
  have hl : (a ++ [10] ++ b).length = a.length + 1 + b.length := by rw [List.length_append, List.length_append]; rfl
  unfold Lib.lastIndex
  rw [if_pos (by rw [hl]; show 1 ≤ _; omega)]
  rcases Lib.lastOcc_spec (a ++ [10] ++ b) [10] ((a ++ [10] ++ b).length - ([10] : Str).length + 1) with ⟨_, h1⟩ | ⟨i, hi, e, h1, h2⟩
  · have h3 := h1 a.length (by rw [hl]; show a.length < a.length + 1 + b.length - 1 + 1; omega)
    rw [hat] at h3
    cases h3
  · rw [e]
    rcases Nat.lt_trichotomy i a.length with h3 | h3 | h3
    · have h4 := h2 a.length h3 (by rw [hl]; show a.length < a.length + 1 + b.length - 1 + 1; omega)
      rw [hat] at h4
      cases h4
    · rw [h3]
    · rw [hno i h3] at h1
      cases h1
theorem short_text {ls : List (List Str)} {ws : List Str} (hw : ∀ w ∈ ws, clean w) : shortS (((ls ++ [ws]).map lineS).flatten) = (ls.map lineS).flatten := by
  have hj := join_no ws hw
  unfold shortS
  rw [last_text, trim_nl]
  rcases List.eq_nil_or_concat ls with rfl | ⟨l2, v, rfl⟩
  · rw [List.map_nil, List.flatten_nil, List.nil_append, lastIndex_none hj]
    rfl
  · have e : ((l2.concat v).map lineS).flatten = ((l2.map lineS).flatten ++ Lib.join v [32]) ++ [10] := by rw [List.concat_eq_append]; exact last_text
    generalize (l2.map lineS).flatten ++ Lib.join v [32] = A at e
    rw [e, lastIndex_at hj, List.append_assoc _ _ [10], show ((A.length : Int) + 1).toNat = (A ++ [10]).length by rw [List.length_append, List.length_singleton]; omega]
    exact List.take_left' rfl
theorem clean_of {α : Type} {L : List (List Str)} (h : LinesOk L) {ls : List (List Str)} {ws : List Str} (e : L = ls ++ [ws]) : LinesOk ls ∧ ∀ w ∈ ws, clean w := ⟨fun x hx => h x (by rw [e]; exact List.mem_append_left _ hx), (h ws (by rw [e]; simp)).2⟩
/-! ## Tours -/
theorem tour_ne (t : Tr) : tourLs t ≠ [] := by simp [tourLs]
theorem tour_jn (t : Tr) : ∀ ws ∈ tourLs t, Lib.join ws [32] ≠ [] := fun ws hw => by
  unfold tourLs at hw
  simp only [List.mem_append, List.mem_cons, List.mem_map, List.not_mem_nil, or_false] at hw
  rcases hw with ((rfl | rfl) | ⟨l, _, rfl⟩) | rfl | rfl <;> exact join_ne (by decide)
theorem tour_cut1 {t : Tr} (h : tourX t = true) : readX tourStep zeroT tourX tourS ((tourS t).take ((tourS t).length - 1)) = .error 8 := cut1 tour_lines tour_ne (tour_lok t) (tour_jn t) (tour_small h)
theorem short_len (s : Str) : (shortS s).length ≤ s.length := by unfold shortS; rw [List.length_take]; omega
theorem tour_cut2 {t : Tr} (h : tourX t = true) : readX tourStep zeroT tourX tourS (shortS (tourS t)) = .error 8 := by
  refine reads_no (Nat.le_trans (short_len _) (tour_small h)) (fun y _ hy => ?_)
  have e : tourLs t = ([[wTour, Lib.itoa t.dawn], rowL wFrom t.fr] ++ t.ways.map (rowL wWays) ++ [rowL wStay t.stay]) ++ [rowL wLight t.light] := by simp [tourLs]
  have hc := clean_of (α := Unit) (tour_lok t) e
  rw [tour_lines t, e, short_text hc.2, tour_lines y] at hy
  have h1 := lines_inj (tour_lok y) hc.1 hy
  have e2 : tourLs y = ([[wTour, Lib.itoa y.dawn], rowL wFrom y.fr] ++ y.ways.map (rowL wWays) ++ [rowL wStay y.stay]) ++ [rowL wLight y.light] := by simp [tourLs]
  rw [e2] at h1
  have h2 := (List.append_inj' h1 rfl).2
  simp [rowL, wLight, wStay] at h2
/-! ## Cabinets -/
theorem cab_ne (c : Cb) : cabLs c ≠ [] := by simp [cabLs]
theorem loan_jn (l : Ln) : Lib.join (loanL l) [32] ≠ [] := by
  unfold loanL
  split
  · split <;> exact join_ne (by decide)
  · refine join_ne ?_
    split <;> decide
theorem cab_jn (c : Cb) : ∀ ws ∈ cabLs c, Lib.join ws [32] ≠ [] := fun ws hw => by
  unfold cabLs at hw
  simp only [List.mem_append, List.mem_cons, List.mem_map, List.not_mem_nil, or_false] at hw
  rcases hw with (rfl | rfl) | ⟨l, _, rfl⟩
  · exact join_ne (by decide)
  · exact join_ne (by decide)
  · exact loan_jn l
theorem cab_cut1 {c : Cb} (h : cabX c = true) : readX cabStep zeroC cabX cabS ((cabS c).take ((cabS c).length - 1)) = .error 8 := cut1 cab_lines cab_ne (cab_lok c) (cab_jn c) (cab_small h)
theorem cab_cut2 {c : Cb} (h : cabX c = true) (hn : c.loans = []) : readX cabStep zeroC cabX cabS (shortS (cabS c)) = .error 8 := by
  refine reads_no (Nat.le_trans (short_len _) (cab_small h)) (fun y _ hy => ?_)
  have e : cabLs c = [[wCab, Lib.itoa c.slots, Lib.itoa c.wrong]] ++ [wHomes :: c.homes.map Lib.itoa] := by simp [cabLs, hn]
  have hc := clean_of (α := Unit) (cab_lok c) e
  rw [cab_lines c, e, short_text hc.2, cab_lines y] at hy
  have h1 := congrArg List.length (lines_inj (cab_lok y) hc.1 hy)
  unfold cabLs at h1
  simp at h1
theorem dropLast_snoc {α : Type} {l : List α} (h : l ≠ []) : ∃ x, l = l.dropLast ++ [x] := ⟨l.getLast h, (List.dropLast_concat_getLast h).symm⟩
theorem cabX_less {c : Cb} (h : cabX c = true) : cabX { c with loans := c.loans.dropLast } = true := by
  unfold cabX at h ⊢
  simp only [Bool.and_eq_true, Bool.not_eq_true', decide_eq_true_eq] at h ⊢
  obtain ⟨⟨⟨⟨⟨h1, h2⟩, h3⟩, h4⟩, h5⟩, h6⟩ := h
  refine ⟨⟨⟨⟨⟨h1, h2⟩, h3⟩, ?_⟩, h5⟩, ?_⟩
  · rw [List.length_dropLast]; omega
  · rw [List.any_eq_false] at h6 ⊢
    exact fun x hx => h6 x (List.dropLast_subset _ hx)
theorem cab_short {c : Cb} (hn : c.loans ≠ []) : shortS (cabS c) = cabS { c with loans := c.loans.dropLast } := by
  obtain ⟨l, hl⟩ := dropLast_snoc hn
  have e : cabLs c = cabLs { c with loans := c.loans.dropLast } ++ [loanL l] := by
    show cabLs c = ([[wCab, Lib.itoa c.slots, Lib.itoa c.wrong], wHomes :: c.homes.map Lib.itoa] ++ c.loans.dropLast.map loanL) ++ [loanL l]
    have h5 : c.loans.map loanL = c.loans.dropLast.map loanL ++ [loanL l] := by
      conv => lhs; rw [hl]
      rw [List.map_append]
      rfl
    unfold cabLs
    rw [List.append_assoc, h5]
  rw [cab_lines c, e, short_text (clean_of (α := Unit) (cab_lok c) e).2, ← cab_lines]
theorem cab_cut3 {c : Cb} (h : cabX c = true) (hn : c.loans ≠ []) : readX cabStep zeroC cabX cabS (shortS (cabS c)) = .ok { c with loans := c.loans.dropLast } := by
  rw [cab_short hn]
  exact cab_back (cabX_less h)
/-! ## Royalties -/
theorem roy_ne (r : Ry) : royLs r ≠ [] := by simp [royLs]
theorem roy_jn (r : Ry) : ∀ ws ∈ royLs r, Lib.join ws [32] ≠ [] := fun ws hw => by
  unfold royLs at hw
  simp only [List.mem_append, List.mem_cons, List.mem_map, List.not_mem_nil, or_false] at hw
  rcases hw with ((rfl | ⟨l, _, rfl⟩) | ⟨l, _, rfl⟩) | ⟨l, _, rfl⟩ <;> exact join_ne (by decide)
theorem roy_cut1 {r : Ry} (h : royalX r = true) : readX royStep zeroR royalX royalS ((royalS r).take ((royalS r).length - 1)) = .error 8 := cut1 roy_lines roy_ne (roy_lok r) (roy_jn r) (roy_small h)
theorem royX_less {r : Ry} (h : royalX r = true) : royalX { r with reports := r.reports.dropLast } = true := by
  unfold royalX at h ⊢
  simp only [Bool.and_eq_true, Bool.not_eq_true', decide_eq_true_eq] at h ⊢
  obtain ⟨⟨⟨⟨⟨⟨⟨⟨⟨h1, h2⟩, h3⟩, h4⟩, h5⟩, h6⟩, h7⟩, h8⟩, h9⟩, h10⟩ := h
  refine ⟨⟨⟨⟨⟨⟨⟨⟨⟨h1, h2⟩, h3⟩, h4⟩, ?_⟩, h6⟩, h7⟩, h8⟩, h9⟩, ?_⟩
  · rw [List.length_dropLast]; omega
  · rw [List.any_eq_false] at h10 ⊢
    exact fun x hx => h10 x (List.dropLast_subset _ hx)
theorem roy_short {r : Ry} (hn : r.reports ≠ []) : shortS (royalS r) = royalS { r with reports := r.reports.dropLast } := by
  obtain ⟨l, hl⟩ := dropLast_snoc hn
  have e : royLs r = royLs { r with reports := r.reports.dropLast } ++ [reportL l] := by
    show royLs r = ([[wRoyal]] ++ (r.terms.zip r.paid).map agentL ++ (r.prices.zip r.shares).map kindL ++ r.reports.dropLast.map reportL) ++ [reportL l]
    have h5 : r.reports.map reportL = r.reports.dropLast.map reportL ++ [reportL l] := by
      conv => lhs; rw [hl]
      rw [List.map_append]
      rfl
    unfold royLs
    rw [List.append_assoc _ _ [reportL l], h5]
  rw [roy_lines r, e, short_text (clean_of (α := Unit) (roy_lok r) e).2, ← roy_lines]
theorem roy_cut3 {r : Ry} (h : royalX r = true) (hn : r.reports ≠ []) : readX royStep zeroR royalX royalS (shortS (royalS r)) = .ok { r with reports := r.reports.dropLast } := by
  rw [roy_short hn]
  exact roy_back (royX_less h)
end Go.Bk
namespace Go.Proofs
open Go.Shelf
def Tryz.lays148_ren : Go.Shelf.Ren := ⟨fun | 148 => 55 | 222 => 97 | 223 => 98 | 269 => 129 | n => n, fun | 9 => 9 | 3 => 3 | 4 => 4 | 5 => 5 | 146 => 201 | 51 => 200 | 46 => 161 | n => n, fun | n => n⟩
theorem Tryz.lays148 : Go.Proofs.Lays.n148 Tryz.prog Tryz.lays148_ren := {
  mixed := by kernel_rfl
  f148 := Tryz.func55.trans (congrArg some (by kernel_rfl))
  f222 := Tryz.func97.trans (congrArg some (by kernel_rfl))
  f223 := Tryz.func98.trans (congrArg some (by kernel_rfl))
  f269 := Tryz.func129.trans (congrArg some (by kernel_rfl))
  t3 := Tryz.underlying3
  a3 := Tryz.isAgg3
  z3 := Tryz.sizeOf3
  v3 := Tryz.zeroValue3
  t4 := Tryz.underlying4
  a4 := Tryz.isAgg4
  z4 := Tryz.sizeOf4
  v4 := Tryz.zeroValue4
  t5 := Tryz.underlying5
  a5 := Tryz.isAgg5
  z5 := Tryz.sizeOf5
  v5 := Tryz.zeroValue5
  t9 := Tryz.underlying9
  a9 := Tryz.isAgg9
  z9 := Tryz.sizeOf9
  v9 := Tryz.zeroValue9
  t46 := Tryz.underlying161
  a46 := Tryz.isAgg161
  z46 := Tryz.sizeOf161
  v46 := Tryz.zeroValue161
  t51 := Tryz.underlying200
  a51 := Tryz.isAgg200
  z51 := Tryz.sizeOf200
  v51 := Tryz.zeroValue200
  t146 := Tryz.underlying201
  a146 := Tryz.isAgg201
  z146 := Tryz.sizeOf201
  v146 := Tryz.zeroValue201 }
open Go.RowKit Go.Lib in
theorem Tryz.strings_LastIndex (s sub : ByteArray) (hs : s.size < 4611686018427387904) (w : World) :
    Calls Tryz.prog 55 #[.string s, .string sub] w fun e w' => e = .returned (.int .i64 (Lib.lastIndex s.data.toList sub.data.toList)) ∧ w' = w := Any.strings_LastIndex Tryz.lays148 s sub hs w
end Go.Proofs
namespace Go.Proofs.YtleamcmljcdapabGreatDoor
open Go Go.Eng
theorem boolB_4 : boolB Tryz.prog 4 = true := by kernel_rfl
theorem ent_8 : Enters Tryz.prog 8 := enters_of Tryz.func8 (by kernel_rfl) rfl
end Go.Proofs.YtleamcmljcdapabGreatDoor
namespace Go.Proofs.YtleamcmljcdapabGreatDoor
open Go Go.Eng
theorem ent_22 : Enters Tryz.prog 22 := enters_of Tryz.func22 (by kernel_rfl) rfl
end Go.Proofs.YtleamcmljcdapabGreatDoor
namespace Go.Proofs.YtleamcmljcdapabGreatDoor
open Go Go.Eng
theorem ent_27 : Enters Tryz.prog 27 := enters_of Tryz.func27 (by kernel_rfl) rfl
theorem ent_55 : Enters Tryz.prog 55 := enters_of Tryz.func55 (by kernel_rfl) rfl
end Go.Proofs.YtleamcmljcdapabGreatDoor
namespace Go.Eng
open Go Go.RowKit
/-- The first elements of a slice. -/
theorem Val.sliceToC {P : Program} {r : Regs} {W : World} {chg news : Blks} {dst : Option Tmp} {gd : Option (Nat × Bool)} {ty : TypeId} {pos : String} {after : Array Edge} {x y : Operand} {T e : TypeId} {b o n cap sz i : Nat} {k : IntKind} (hx : rev r x = some (.slice (some ⟨b, o, none⟩) n cap)) (hy : rev r y = some (.int k (i : Int))) (hT : slB P T = some (e, sz)) (h1 : i ≤ cap) :
    Val P r W chg news { dst, op := .slice T x none (some y) none, type := ty, pos, after, guard := gd } (.slice (some ⟨b, o, none⟩) i cap) :=
  ⟨fun a w ha _ => by
    unfold slB at hT
    split at hT
    · rename_i e2 hu
      cases hj : P.info? e2 with
      | none => simp [hj] at hT
      | some j =>
        simp [hj] at hT
        obtain ⟨rfl, rfl⟩ := hT
        have h4 : (i : Int) ≤ (cap : Int) := by omega
        by_cases h3 : cap = 0
        · subst h3
          have h5 : i = 0 := by omega
          subst h5
          simp [execOp, ha.eval hx, ha.eval hy, Instr.sliceAt, Instr.sureAddr, Instr.slice, Instr.sliceBounds, Instr.sliceBound, asIntOf, run_underlying hu, sizeOf, typeInfo, hj]
        · simp [execOp, ha.eval hx, ha.eval hy, Instr.sliceAt, Instr.sureAddr, Instr.slice, Instr.sliceBounds, Instr.sliceBound, asIntOf, run_underlying hu, sizeOf, typeInfo, hj, h4, h3, add_plain]
          intro h9; omega
    · cases hT⟩
theorem Val.addZ {P : Program} {r : Regs} {W : World} {chg news : Blks} {dst : Option Tmp} {gd : Option (Nat × Bool)} {ty : TypeId} {pos : String} {after : Array Edge} {x y : Operand} {T yt : TypeId} {k : IntKind} {p q : Int} (c : Int) (hx : rev r x = some (.int k p)) (hy : rev r y = some (.int k q)) (hc : p + q = c) (hr : k.wrap c = c) :
    Val P r W chg news { dst, op := .binOp .add T x y yt, type := ty, pos, after, guard := gd } (.int k c) := by
  subst hc
  exact Val.add hx hy hr
end Go.Eng
namespace Go.Bk
open Go Go.Eng Go.RowKit
theorem last_nat (s : Str) : ∃ j : Nat, Lib.lastIndex s [10] = (j : Int) - 1 ∧ j ≤ s.length := by
  unfold Lib.lastIndex
  split
  · rcases Lib.lastOcc_spec s [10] (s.length - ([10] : Str).length + 1) with h1 | ⟨i, h0, h1, h2, _⟩
    · exact ⟨0, by rw [h1.1]; rfl, Nat.zero_le _⟩
    · exact ⟨i + 1, by rw [h1]; omega, occ_lt h2⟩
  · exact ⟨0, rfl, Nat.zero_le _⟩
theorem text_pos {α : Type} {text : α → Str} {L : α → List (List Str)} (hT : ∀ x, text x = ((L x).map lineS).flatten) (hne : ∀ x, L x ≠ []) (x : α) : 0 < (text x).length := by
  obtain ⟨ls, ws, e⟩ : ∃ ls ws, L x = ls ++ [ws] := ⟨(L x).dropLast, (L x).getLast (hne x), (List.dropLast_concat_getLast (hne x)).symm⟩
  rw [hT x, e, last_text, List.length_append]
  exact Nat.lt_of_lt_of_le (by decide : 0 < ([10] : Str).length) (Nat.le_add_left _ _)
theorem nn {s : Str} (h : 0 < s.length) : decide (s = []) = false := decide_eq_false (fun e => by rw [e] at h; exact absurd h (by decide))
theorem sl_tc {w : World} {p : Option Addr} {b o sz : Nat} {xs : List (List Value)} (h : Sl w p b o sz xs) (k : Nat) : Sl w p b o sz (xs.take k) :=
  ⟨fun hk => h.ptr (i := 0) (by rcases xs with _ | ⟨x, xs⟩; simp at hk; simp), fun x hx => h.len x (List.mem_of_mem_take hx), fun i hi j hj => by
    have hi2 : i < xs.length := by rw [List.length_take] at hi; omega
    rw [List.getElem_take]
    exact h.cell i hi2 j hj⟩
theorem rd_cbq {w : World} {cs : List Value} (h : Rd w cbSh cs) : ∃ t : CbA, cs = t.cells ∧ CbOk w t ∧ t.loans.l.length ≤ t.loans.c := by
  obtain ⟨_, _, rfl, h1, h⟩ := rd_cons h
  obtain ⟨_, _, rfl, h2, h⟩ := rd_cons h
  obtain ⟨_, _, rfl, h3, h⟩ := rd_cons h
  obtain ⟨_, _, rfl, h4, h⟩ := rd_cons h
  obtain rfl := rd_nil h
  obtain ⟨n, rfl, _⟩ := rd_int h1
  obtain ⟨a, rfl, ha⟩ := rd_sa (f := intC) rd_int h2
  obtain ⟨m, rfl, _⟩ := rd_int h3
  obtain ⟨b, rfl, hb⟩ := rd_sa rd_ln h4
  exact ⟨⟨n, a, m, b⟩, rfl, ⟨ha.ok, hb.ok⟩, hb.cap⟩
theorem rd_ryq {w : World} {cs : List Value} (h : Rd w rySh cs) : ∃ t : RyA, cs = t.cells ∧ RyOk w t ∧ t.shares.l.length ≤ maxLen ∧ t.reports.l.length ≤ t.reports.c := by
  obtain ⟨_, _, rfl, h1, h⟩ := rd_cons h
  obtain ⟨_, _, rfl, h2, h⟩ := rd_cons h
  obtain ⟨_, _, rfl, h3, h⟩ := rd_cons h
  obtain ⟨_, _, rfl, h4, h⟩ := rd_cons h
  obtain ⟨_, _, rfl, h5, h⟩ := rd_cons h
  obtain rfl := rd_nil h
  obtain ⟨a, rfl, ha⟩ := rd_sa rd_tm h1
  obtain ⟨b, rfl, hb⟩ := rd_sa (f := intC) rd_int h2
  obtain ⟨c, rfl, hc⟩ := rd_sa (f := SA.cell) (p := fun s => SaIn intC 1 (fun _ => True) w s) (rd_sa (f := intC) rd_int) h3
  obtain ⟨d, rfl, hd⟩ := rd_sa rd_rp h4
  obtain ⟨e, rfl, he⟩ := rd_sa (f := intC) rd_int h5
  exact ⟨⟨a, b, c, d, e⟩, rfl, ⟨ha.ok, hb.ok, hc.ok, fun x hx => (hc.each x hx).ok, hd.ok, he.ok⟩, Nat.le_trans hc.cap hc.few, hd.cap⟩
theorem rdx_oke {α β : Type} {x : Except Int α} {pl : β → α} {ok : β → Prop} {z0 z : β} {e : Int} (h : RdX x pl ok z0 (z, e)) (h0 : ok z0) : ok z := by
  rcases h with ⟨t, _, _, _, h4⟩ | ⟨k, _, h2⟩
  · exact h4
  · cases h2; exact h0
theorem take_len1 {α : Type} {l : List α} {m : Nat} (h : m ≤ l.length) : (l.take m).length = m := by rw [List.length_take]; omega
/-- What is read of a cabinet without its last line. -/
theorem cab_say {c : Cb} (h : cabX c = true) {x : CbX} {n : Nat} {e : Int} (hr : RdX (readX cabStep zeroC cabX cabS (shortS (cabS c))) CbX.pl (CbXOk n) zeroCX (x, e)) : (c.loans.length = 0 ∧ e = 8) ∨ (0 < c.loans.length ∧ e = 0 ∧ x.pl = ⟨c.slots, c.homes, c.wrong, c.loans.take (c.loans.length - 1)⟩) := by
  by_cases h0 : c.loans = []
  · exact .inl ⟨by rw [h0]; rfl, (rd_er hr (cab_cut2 h h0)).2⟩
  · obtain ⟨h1, h2, _⟩ := rd_ok hr (cab_cut3 h h0)
    exact .inr ⟨List.length_pos_iff.2 h0, h2, by rw [h1, List.dropLast_eq_take]⟩
theorem roy_say {c : Ry} (h : royalX c = true) (h0 : 0 < c.reports.length) {x : RyX} {n : Nat} {e : Int} (hr : RdX (readX royStep zeroR royalX royalS (shortS (royalS c))) RyX.pl (RyXOk n) zeroRX (x, e)) : e = 0 ∧ RyXOk n x ∧ x.pl = ⟨c.terms, c.prices, c.shares, c.reports.take (c.reports.length - 1), c.paid⟩ := by
  obtain ⟨h1, h2, h3⟩ := rd_ok hr (roy_cut3 h (List.length_pos_iff.1 h0))
  exact ⟨h2, h3, by rw [h1, List.dropLast_eq_take]⟩
end Go.Bk
namespace Go.Proofs.YtleamcmljcdapabGreatDoor
open Go Go.Eng Go.Bk Go.RowKit

theorem lastIndex_calls (s p : Str) (h : s.length < 4611686018427387904) (W : World) : Calls Tryz.prog 55 #[.string (bs s), .string (bs p)] W (Pure (.int .i64 (Lib.lastIndex s p)) W) :=
  calls_mono (Tryz.strings_LastIndex (bs s) (bs p) h W) (by rintro e w' ⟨rfl, rfl⟩; exact ⟨rfl, Mem.refl _⟩)
theorem short_calls (s : Str) (hs : s.length ≤ 10000) (W : World) : Calls Tryz.prog 27 #[.string (bs s)] W (Pure (.string (bs (shortS s))) W) := by
  obtain ⟨j, hj, hl⟩ := last_nat (Lib.trimSuffix s [10])
  have hts := trim_len s
  have e : shortS s = s.take j := by unfold shortS; rw [hj]; congr 1; omega
  rw [e]
  refine calls_start Tryz.func27 rfl rfl ?_
  refine csr ?_
  refine vp rfl rfl rfl rfl ?_
  refine nsr ?_
  refine vp rfl rfl rfl rfl ?_
  refine vp rfl rfl rfl rfl ?_
  refine RunL.callP (isCall_func rfl ent_56) rfl rfl rfl (fun w hm => trimSuffix_calls s [10] (by omega) w) ?_
  refine RunL.callP (isCall_func rfl ent_55) rfl rfl rfl (fun w hm => (by have h9 := lastIndex_calls (Lib.trimSuffix s [10]) [10] (by omega) w; rw [hj] at h9; exact h9)) ?_
  refine RunL.val (Val.addZ (p := (j : Int) - 1) (q := 1) (j : Int) rfl rfl (by omega) (IntWalk.i64_in _ ⟨by omega, by omega⟩)) rfl rfl rfl ?_
  refine RunL.val (Val.strTo (b := j) rfl rfl und_9 (by omega)) rfl rfl rfl ?_
  refine vp rfl rfl rfl rfl ?_
  refine nnx ?_
  refine RunC.ret ?_
  exact RunE.retP (.r1 rfl (.tmp rfl)) (by first | rfl | simp)
theorem sameCt_calls (x : CbX) (h : CbXOk 10000 x) (u : CbA) (hs : CbS u) (m : Nat) (hm1 : m ≤ u.loans.l.length) (tl : Blks) (W0 w : World) (hm : Mem W0 [] (cbB x ++ tl) w) (hU : CbOk w u) : Calls Tryz.prog 16 #[.agg x.cells.toArray, .agg #[.int .i64 u.slots, u.homes.v, .int .i64 u.wrong, .slice u.loans.q m u.loans.c]] w (Pure (.bool (decide (x.pl = ⟨u.slots, u.homes.l, u.wrong, u.loans.l.take m⟩))) w) := by
  have h1 := sameCX_calls x h ⟨u.slots, u.homes, u.wrong, ⟨u.loans.l.take m, u.loans.q, u.loans.b, u.loans.o, u.loans.c⟩⟩ ⟨hs.1, by show (u.loans.l.take m).length ≤ _; exact Nat.le_trans (List.length_take_le _ _) (Nat.le_trans hm1 hs.2)⟩ tl W0 w hm ⟨hU.homes, by show Sl _ _ _ _ _ _; rw [List.map_take]; exact sl_tc hU.loans m⟩
  have e : (CbA.mk u.slots u.homes u.wrong ⟨u.loans.l.take m, u.loans.q, u.loans.b, u.loans.o, u.loans.c⟩).v = .agg #[.int .i64 u.slots, u.homes.v, .int .i64 u.wrong, .slice u.loans.q m u.loans.c] := by
    show Value.agg [_, _, _, Value.slice u.loans.q (u.loans.l.take m).length u.loans.c].toArray = _
    rw [take_len1 hm1]
  rw [e] at h1
  exact h1
theorem sameRt_calls (x : RyX) (h : RyXOk 10000 x) (u : RyA) (hs : RySm u) (m : Nat) (hm1 : m ≤ u.reports.l.length) (tl : Blks) (W0 w : World) (hm : Mem W0 [] (ryB x ++ tl) w) (hU : RyOk w u) : Calls Tryz.prog 18 #[.agg x.cells.toArray, .agg #[u.terms.v, u.prices.v, u.shares.v, .slice u.reports.q m u.reports.c, u.paid.v]] w (Pure (.bool (decide (x.pl = ⟨u.terms.l, u.prices.l, u.shares.l.map (·.l), u.reports.l.take m, u.paid.l⟩))) w) := by
  have h1 := sameRX_calls x h ⟨u.terms, u.prices, u.shares, ⟨u.reports.l.take m, u.reports.q, u.reports.b, u.reports.o, u.reports.c⟩, u.paid⟩ ⟨hs.1, hs.2, hs.3, hs.4, by show (u.reports.l.take m).length ≤ _; exact Nat.le_trans (List.length_take_le _ _) (Nat.le_trans hm1 hs.5), hs.6⟩ tl W0 w hm ⟨hU.terms, hU.prices, hU.shares, hU.rows, by show Sl _ _ _ _ _ _; rw [List.map_take]; exact sl_tc hU.reports m, hU.paid⟩
  have e : (RyA.mk u.terms u.prices u.shares ⟨u.reports.l.take m, u.reports.q, u.reports.b, u.reports.o, u.reports.c⟩ u.paid).v = .agg #[u.terms.v, u.prices.v, u.shares.v, .slice u.reports.q m u.reports.c, u.paid.v] := by
    show Value.agg [_, _, _, Value.slice u.reports.q (u.reports.l.take m).length u.reports.c, _].toArray = _
    rw [take_len1 hm1]
  rw [e] at h1
  exact h1
set_option maxHeartbeats 4000000 in
theorem cut_law (t : TrA) (c : CbA) (r : RyA) (W : World) (hL : Lw Tryz.prog W) (hT : TrOk W t) (hC : CbOk W c) (hR : RyOk W r) (hn1 : t.ways.l.length ≤ 9223372036854775807) (hn2 : r.shares.l.length ≤ 9223372036854775807) (hcc : c.loans.l.length ≤ c.loans.c) (hrc : r.reports.l.length ≤ r.reports.c) : Calls Tryz.prog 7 #[t.v, c.v, r.v] W (Pure (.bool true) W) := by
  refine calls_start Tryz.func7 rfl rfl ?_
  refine csr ?_
  refine RunL.new (New.box rfl) rfl rfl rfl (fun b3 => ?_)
  refine RunL.new (New.box rfl) rfl rfl rfl (fun b4 => ?_)
  refine RunL.new (New.box rfl) rfl rfl rfl (fun b5 => ?_)
  refine vp rfl rfl rfl rfl ?_
  refine nnx ?_
  refine RunC.seq ?_
  refine csr ?_
  refine RunL.val (Val.load_agg rfl (.tail _ (.tail _ (.head _))) ty_27 rfl) rfl rfl rfl ?_
  refine RunL.val (Val.load_agg rfl (.tail _ (.head _)) ty_34 rfl) rfl rfl rfl ?_
  refine RunL.val (Val.load_agg rfl (.head _) ty_41 rfl) rfl rfl rfl ?_
  refine RunL.val (Val.build (parts := []) rfl zero_48 places_48 rfl) rfl rfl rfl ?_
  refine RunL.callP (isCall_func rfl ent_22) rfl rfl rfl (fun w hm => great_calls t c r nilPA w (hT.mono0 hm) (hR.mono0 hm) hn1 hn2) ?_
  refine nnx ?_
  refine RunC.cond rfl ?_ ?_
  ·intro c0
   have c0' := c0; clear c0
   try simp only [nH] at c0'
   refine csr ?_
   refine RunL.callP (isCall_func rfl ent_8) rfl rfl rfl (fun w hm => alive_calls w (hL.mono hm)) ?_
   refine vp rfl rfl rfl rfl ?_
   refine nnx ?_
   refine RunC.ret ?_
   refine RunE.pass_ret ?_
   exact RunE.retP (.r1 rfl (.tmp rfl)) (by first | rfl | simp)
  intro c0
  have c0' := c0; clear c0
  try simp only [nH] at c0'
  obtain ⟨hst, hsc, hsr, _⟩ := (few_of (by simpa using c0') : Few t.pl c.pl r.pl nilPA.pl).sm
  have hcl : c.loans.l.length ≤ 10000 := hsc.2
  have hrl : r.reports.l.length ≤ 10000 := hsr.5
  refine RunC.skip ?_
  refine RunE.next ?_
  refine RunC.seqJ (X := Unit) (n0 := [(b4, _), (b5, _)]) (fun x q => q) (fun x => []) (fun x => []) (fun x => []) (fun x => True) (Sub.cons (t := 4) rfl (Sub.cons (t := 5) rfl (Sub.nil _))) (.cons (.there .here) rfl (.cons .here rfl .nil)) ?_ ?_
  ·refine csr ?_
   refine RunL.val (Val.load_agg rfl (.tail _ (.tail _ (.head _))) ty_27 rfl) rfl rfl rfl ?_
   refine RunL.callP (isCall_func rfl ent_13) rfl rfl rfl (fun w hm => WriteTour_calls t hst w (hL.mono hm) (hT.mono0 hm)) ?_
   iterate 5 refine vp rfl rfl rfl rfl ?_
   refine nsr ?_
   refine vp rfl rfl rfl rfl ?_
   refine vp rfl rfl rfl rfl ?_
   refine nnx ?_
   refine RunC.cond rfl ?_ ?_
   ·intro c1
    have c1' := c1; clear c1
    try simp only [nH] at c1'
    have hTX := ite_one (by simpa using c1')
    rw [show (if tourX t.pl = true then tourS t.pl else []) = tourS t.pl from if_pos hTX]
    have h4 := tour_small hTX
    have h0 := text_pos tour_lines tour_ne t.pl
    refine RunC.seq ?_
    refine csr ?_
    refine vp rfl rfl rfl rfl ?_
    refine RunL.val (Val.eqlStr rfl rfl) rfl rfl rfl ?_
    refine nnx ?_
    refine RunC.cond rfl (fun h => absurd h (by rw [nn h0]; simp)) ?_
    intro c2
    clear c2
    refine RunC.skip ?_
    refine RunE.next ?_
    refine csr ?_
    refine vp rfl rfl rfl rfl ?_
    refine vp rfl rfl rfl rfl ?_
    refine RunL.val (Val.lenS rfl und_9) rfl rfl rfl ?_
    refine RunL.val (Val.subN (a := (tourS t.pl).length) (b := 1) ((tourS t.pl).length - 1) rfl rfl (by omega) (i64_inN (by omega))) rfl rfl rfl ?_
    refine RunL.val (Val.strTo (b := (tourS t.pl).length - 1) rfl rfl und_9 (by omega)) rfl rfl rfl ?_
    refine RunL.callNT (isCall_func rfl ent_9) rfl rfl rfl (fun w hm => grow_news (ReadTour_calls ((tourS t.pl).take ((tourS t.pl).length - 1)) w (hL.mono hm) (by rw [List.length_take]; omega))) (fun z50 => ?_)
    obtain ⟨⟨x50, e50⟩, h50⟩ := z50
    obtain ⟨f50, g50⟩ := rd_er h50 (tour_cut1 hTX)
    subst g50
    dsimp only
    iterate 3 refine vp rfl rfl rfl rfl ?_
    refine RunL.new (New.alloc zero_27) rfl rfl rfl (fun b9 => ?_)
    refine RunL.sto (Sto.store (cs := zsrdT) (cs' := x50.cells) rfl rfl .here ty_27 rfl (paste_over rfl (one_trX _))) rfl rfl ?_
    refine vp rfl rfl rfl rfl ?_
    refine nsr ?_
    refine vp rfl rfl rfl rfl ?_
    refine RunL.callP (isCall_func rfl ent_27) rfl rfl rfl (fun w hm => short_calls (tourS t.pl) (by omega) w) ?_
    refine RunL.callNA [(b9, _), (b5, _), (b4, _), (b3, _)] _ rfl (isCall_func rfl ent_9) rfl rfl rfl (fun w hm => grow_news (ReadTour_calls (shortS (tourS t.pl)) w (hL.mono hm) (by have := short_len (tourS t.pl); omega))) (fun z56 => ?_)
    obtain ⟨⟨x56, e56⟩, h56⟩ := z56
    obtain ⟨f56, g56⟩ := rd_er h56 (tour_cut2 hTX)
    subst g56
    dsimp only
    iterate 3 refine vp rfl rfl rfl rfl ?_
    refine RunL.new (New.alloc zero_27) rfl rfl rfl (fun b11 => ?_)
    refine RunL.sto (Sto.store (cs := zsrdT) (cs' := x56.cells) rfl rfl .here ty_27 rfl (paste_over rfl (one_trX _))) rfl rfl ?_
    refine vp rfl rfl rfl rfl ?_
    refine nsr ?_
    iterate 3 refine vp rfl rfl rfl rfl ?_
    refine RunL.orPart (dj := 61) (dp := 64) 3 rfl (fun g61 => by
      have g61' := g61
      try simp only [nH] at g61'
      iterate 3 refine vp rfl rfl rfl rfl ?_
      exact RunL.segEnd (Sub.cons rfl (Sub.skip rfl (Sub.skip rfl (Sub.skip rfl (Sub.same rfl (by rw [g61]) (Sub.refl _)))))) (List.Sublist.refl _)
    ) (fun g61 => by
      have g61' := g61
      try simp only [nH] at g61'
      refine RunL.no rfl rfl rfl ?_
      refine RunL.no rfl rfl rfl ?_
      refine vp rfl rfl rfl rfl ?_
      exact RunL.segEnd (Sub.cons rfl (Sub.skip rfl (Sub.skip rfl (Sub.skip rfl (Sub.same rfl (by rw [g61]) (Sub.refl _)))))) (List.Sublist.refl _)
    ) ?_
    refine nnx ?_
    refine RunC.cond rfl (fun h => absurd h (by simp)) ?_
    intro c3
    clear c3
    refine RunC.skip ?_
    exact RunE.meet () trivial rfl (Sub.cons (t := 4) rfl (Sub.cons (t := 5) rfl (Sub.nil _))) (.cons (.there (.there (.there .here))) rfl (.cons (.there (.there .here)) rfl .nil))
   intro c1
   have c1' := c1; clear c1
   try simp only [nH] at c1'
   refine RunC.skip ?_
   exact RunE.meet () trivial rfl (Sub.cons (t := 4) rfl (Sub.cons (t := 5) rfl (Sub.nil _))) (.cons (.there .here) rfl (.cons .here rfl .nil))
  intro x xI
  refine RunC.seqJ (X := Unit) (n0 := [(b5, _)]) (fun x q => q) (fun x => []) (fun x => []) (fun x => []) (fun x => True) (Sub.cons (t := 5) rfl (Sub.nil _)) (.cons (.there .here) rfl .nil) ?_ ?_
  ·refine csr ?_
   refine RunL.val (Val.load_agg rfl (.head _) ty_34 rfl) rfl rfl rfl ?_
   refine RunL.callP (isCall_func rfl ent_15) rfl rfl rfl (fun w hm => WriteCabinet_calls c hsc w (hL.mono hm) (hC.mono0 hm)) ?_
   iterate 5 refine vp rfl rfl rfl rfl ?_
   refine nsr ?_
   refine vp rfl rfl rfl rfl ?_
   refine vp rfl rfl rfl rfl ?_
   refine nnx ?_
   refine RunC.cond rfl ?_ ?_
   ·intro c4
    have c4' := c4; clear c4
    try simp only [nH] at c4'
    have hCX := ite_one (by simpa using c4')
    rw [show (if cabX c.pl = true then cabS c.pl else []) = cabS c.pl from if_pos hCX]
    have h4 := cab_small hCX
    have h0 := text_pos cab_lines cab_ne c.pl
    refine RunC.seq ?_
    refine csr ?_
    refine vp rfl rfl rfl rfl ?_
    refine RunL.val (Val.eqlStr rfl rfl) rfl rfl rfl ?_
    refine nnx ?_
    refine RunC.cond rfl (fun h => absurd h (by rw [nn h0]; simp)) ?_
    intro c5
    clear c5
    refine RunC.skip ?_
    refine RunE.next ?_
    refine csr ?_
    refine vp rfl rfl rfl rfl ?_
    refine vp rfl rfl rfl rfl ?_
    refine RunL.val (Val.lenS rfl und_9) rfl rfl rfl ?_
    refine RunL.val (Val.subN (a := (cabS c.pl).length) (b := 1) ((cabS c.pl).length - 1) rfl rfl (by omega) (i64_inN (by omega))) rfl rfl rfl ?_
    refine RunL.val (Val.strTo (b := (cabS c.pl).length - 1) rfl rfl und_9 (by omega)) rfl rfl rfl ?_
    refine RunL.callNT (isCall_func rfl ent_10) rfl rfl rfl (fun w hm => grow_news (ReadCabinet_calls ((cabS c.pl).take ((cabS c.pl).length - 1)) w (hL.mono hm) (by rw [List.length_take]; omega))) (fun z80 => ?_)
    obtain ⟨⟨x80, e80⟩, h80⟩ := z80
    obtain ⟨f80, g80⟩ := rd_er h80 (cab_cut1 hCX)
    subst g80
    dsimp only
    iterate 3 refine vp rfl rfl rfl rfl ?_
    refine RunL.new (New.alloc zero_34) rfl rfl rfl (fun b15 => ?_)
    refine RunL.sto (Sto.store (cs := zsrdC) (cs' := x80.cells) rfl rfl .here ty_34 rfl (paste_over rfl (one_cbX _))) rfl rfl ?_
    refine vp rfl rfl rfl rfl ?_
    refine nsr ?_
    refine vp rfl rfl rfl rfl ?_
    refine RunL.callP (isCall_func rfl ent_27) rfl rfl rfl (fun w hm => short_calls (cabS c.pl) (by omega) w) ?_
    refine RunL.callNA [(b15, _), (b4, _), (b5, _)] _ rfl (isCall_func rfl ent_10) rfl rfl rfl (fun w hm => grow_news (ReadCabinet_calls (shortS (cabS c.pl)) w (hL.mono hm) (by have := short_len (cabS c.pl); omega))) (fun z86 => ?_)
    obtain ⟨⟨x86, e86⟩, h86⟩ := z86
    have s86 := cab_say hCX h86
    have o86 : CbXOk 10000 x86 := rdx_oke h86 (zeroCX_ok.le (by decide))
    dsimp only
    iterate 3 refine vp rfl rfl rfl rfl ?_
    refine RunL.new (New.alloc zero_34) rfl rfl rfl (fun b17 => ?_)
    refine RunL.sto (Sto.store (cs := zsrdC) (cs' := x86.cells) rfl rfl .here ty_34 rfl (paste_over rfl (one_cbX _))) rfl rfl ?_
    refine vp rfl rfl rfl rfl ?_
    refine nnx ?_
    refine RunC.seq ?_
    refine RunC.draw 6 fol_ (.cons .here rfl (.cons .here rfl (.cons .here rfl (.cons .here rfl .nil)))) ?_
    refine va 0 rfl (Val.load_agg rfl (.tail _ (.tail _ (.head _))) ty_34 rfl) rfl rfl rfl (.cons .here rfl (.cons .here rfl (.cons .here rfl (.cons .here rfl .nil)))) rfl ?_
    refine va 1 rfl (Val.fieldAddr rfl fld_34_3) rfl rfl rfl (.cons .here rfl (.cons .here rfl (.cons .here rfl (.cons .here rfl .nil)))) rfl ?_
    refine va 2 rfl (Val.load_one rfl (.tail _ (.tail _ (.head _))) ty_32 rfl) rfl rfl rfl (.cons .here rfl (.cons .here rfl (.cons .here rfl (.cons .here rfl .nil)))) rfl ?_
    refine va 3 rfl (Val.len_sl rfl sl_32) rfl rfl rfl (.cons .here rfl (.cons .here rfl (.cons .here rfl (.cons .here rfl .nil)))) rfl ?_
    refine RunA.one (i := 4) (by kernel_rfl) (by kernel_rfl) ?_
    refine RunI.new rfl (New.alloc zero_34) rfl rfl rfl (fun b19 => (RunK.toA (.cons (.there .here) rfl (.cons (.there .here) rfl (.cons (.there .here) rfl (.cons (.there .here) rfl .nil)))) (.cons .here rfl (.cons .here rfl (.cons .here rfl (.cons .here rfl .nil)))) rfl ?_))
    refine RunA.one (i := 5) (by kernel_rfl) (by kernel_rfl) ?_
    refine RunI.sto rfl (Sto.store rfl rfl .here ty_34 rfl rfl) rfl rfl (RunK.toA (.cons (.there .here) rfl (.cons (.there .here) rfl (.cons (.there .here) rfl (.cons (.there .here) rfl .nil)))) (.cons .here rfl (.cons .here rfl (.cons .here rfl (.cons .here rfl .nil)))) rfl ?_)
    refine RunA.toB (by kernel_rfl) ?_
    refine RunB.one (i := 6) (by kernel_rfl) ?_
    refine RunI.val rfl (Val.pure rfl) rfl rfl rfl (RunK.toB ?_)
    refine RunB.done (by kernel_rfl) ?_
    refine RunE.next ?_
    refine RunC.seqJ (X := Nat) (n0 := [(b17, _), (b5, _)]) (fun m q => q) (fun m => []) (fun m => [(b19, .cells [.int .i64 c.slots, c.homes.v, .int .i64 c.wrong, .slice c.loans.q m c.loans.c].toArray 34 (0, 0))]) (fun m => cbB x86 ++ []) (fun m => m = c.loans.l.length - 1) (Sub.cons (t := 5) rfl (Sub.cons (t := 16) rfl (Sub.cons (t := 17) rfl (Sub.cons (t := 18) rfl (Sub.cons (t := 19) rfl (Sub.cons (t := 20) rfl (Sub.nil _))))))) (.cons (.there .here) rfl (.cons (.there (.there (.there .here))) rfl .nil)) ?_ ?_
    ·refine csr ?_
     refine vp rfl rfl rfl rfl ?_
     refine vp rfl rfl rfl rfl ?_
     refine nnx ?_
     refine RunC.cond rfl ?_ ?_
     ·intro c6
      have c6' := c6; clear c6
      try simp only [nH] at c6'
      have hn0 : 0 < c.loans.l.length := by omega
      have hcq : c.loans.q = some ⟨c.loans.b, c.loans.o, none⟩ := hC.loans.ptr (i := 0) (by simp; omega)
      refine RunC.region ?_
      refine RunL.val (Val.fieldAddr rfl fld_34_3) rfl rfl rfl ?_
      refine RunL.val (Val.load_one rfl (.tail _ (.tail _ (.tail _ (.head _)))) ty_32 rfl) rfl rfl rfl ?_
      refine vp rfl rfl rfl rfl ?_
      refine RunL.val (Val.subN (a := c.loans.l.length) (b := 1) (c.loans.l.length - 1) rfl rfl (by omega) (i64_inN (by omega))) rfl rfl rfl ?_
      refine RunL.val (Val.sliceToC (i := c.loans.l.length - 1) (show rev _ _ = some (.slice (some ⟨c.loans.b, c.loans.o, none⟩) c.loans.l.length c.loans.c) by rw [← hcq]; rfl) rfl sl_32 (by omega)) rfl rfl rfl ?_
      refine RunL.val (Val.fieldAddr rfl fld_34_3) rfl rfl rfl ?_
      refine RunL.sto (Sto.store rfl rfl .here ty_32 rfl rfl) rfl rfl ?_
      refine RunL.nil ?_
      exact RunE.meet (c.loans.l.length - 1) rfl rfl (Sub.cons (t := 5) rfl (Sub.cons (t := 16) rfl (Sub.cons (t := 17) rfl (Sub.cons (t := 18) rfl (Sub.cons (t := 19) rfl (Sub.cons (t := 20) rfl (Sub.nil _))))))) (.cons .here (by rw [hcq]) (.cons .here rfl (.cons (.there (.there .here)) rfl (Pick.cnt fun x => by simp only [nC]; omega))))
     intro c6
     have c6' := c6; clear c6
     try simp only [nH] at c6'
     refine RunC.skip ?_
     exact RunE.meet c.loans.l.length (by omega) rfl (Sub.cons (t := 5) rfl (Sub.cons (t := 16) rfl (Sub.cons (t := 17) rfl (Sub.cons (t := 18) rfl (Sub.cons (t := 19) rfl (Sub.cons (t := 20) rfl (Sub.nil _))))))) (.cons .here rfl (.cons .here rfl (.cons (.there (.there .here)) rfl (Pick.cnt fun x => by simp only [nC]; omega))))
    intro m mI
    refine csr ?_
    iterate 3 refine vp rfl rfl rfl rfl ?_
    refine RunL.orPart (dj := 103) (dp := 109) 6 rfl (fun g103 => by
      have g103' := g103
      try simp only [nH] at g103'
      iterate 4 refine vp rfl rfl rfl rfl ?_
      refine RunL.val (Val.neq_bool rfl rfl boolB_4) rfl rfl rfl ?_
      refine vp rfl rfl rfl rfl ?_
      exact RunL.segEnd (Sub.cons rfl (Sub.skip rfl (Sub.skip rfl (Sub.skip rfl (Sub.skip rfl (Sub.skip rfl (Sub.skip rfl (Sub.same rfl (by rw [g103]) (Sub.refl _))))))))) (List.Sublist.refl _)
    ) (fun g103 => by
      have g103' := g103
      try simp only [nH] at g103'
      iterate 5 refine RunL.no rfl rfl rfl ?_
      refine vp rfl rfl rfl rfl ?_
      exact RunL.segEnd (Sub.cons rfl (Sub.skip rfl (Sub.skip rfl (Sub.skip rfl (Sub.skip rfl (Sub.skip rfl (Sub.skip rfl (Sub.same rfl (by rw [g103]) (Sub.refl _))))))))) (List.Sublist.refl _)
    ) ?_
    refine vp rfl rfl rfl rfl ?_
    refine RunL.orPart (dj := 110) (dp := 119) 9 rfl (fun g110 => by
      have g110' := g110
      try simp only [nH] at g110'
      iterate 3 refine vp rfl rfl rfl rfl ?_
      refine RunL.andPart (dj := 113) (dp := 118) 5 rfl (fun g113 => by
        have g113' := g113
        try simp only [nH] at g113'
        refine RunL.val (Val.load_agg rfl (.tail _ (.head _)) ty_34 rfl) rfl rfl rfl ?_
        refine RunL.val (Val.load_agg rfl (.head _) ty_34 rfl) rfl rfl rfl ?_
        refine RunL.callP (isCall_func rfl ent_16) rfl rfl rfl (fun w hm => (sameCt_calls x86 o86 c hsc m (by omega) [] W w (hm.pick (news' := cbB x86 ++ []) (Pick.cnt fun x => by simp only [nC]; omega)) (hC.mono0 hm))) ?_
        refine vp rfl rfl rfl rfl ?_
        refine vp rfl rfl rfl rfl ?_
        exact RunL.segEnd (Sub.cons rfl (Sub.skip rfl (Sub.skip rfl (Sub.skip rfl (Sub.skip rfl (Sub.skip rfl (Sub.same rfl (by rw [g113]) (Sub.refl _)))))))) (List.Sublist.refl _)
      ) (fun g113 => by
        have g113' := g113
        try simp only [nH] at g113'
        iterate 4 refine RunL.no rfl rfl rfl ?_
        refine vp rfl rfl rfl rfl ?_
        exact RunL.segEnd (Sub.cons rfl (Sub.skip rfl (Sub.skip rfl (Sub.skip rfl (Sub.skip rfl (Sub.skip rfl (Sub.same rfl (by rw [g113]) (Sub.refl _)))))))) (List.Sublist.refl _)
      ) ?_
      refine vp rfl rfl rfl rfl ?_
      exact RunL.segEnd (Sub.cons rfl (Sub.skip rfl (Sub.skip rfl (Sub.skip rfl (Sub.skip rfl (Sub.skip rfl (Sub.same rfl (by rw [g110]) (Sub.refl _)))))))) (List.Sublist.refl _)
    ) (fun g110 => by
      have g110' := g110
      try simp only [nH] at g110'
      iterate 8 refine RunL.no rfl rfl rfl ?_
      refine vp rfl rfl rfl rfl ?_
      exact RunL.segEnd (Sub.cons rfl (Sub.skip rfl (Sub.skip rfl (Sub.skip rfl (Sub.skip rfl (Sub.skip rfl (Sub.skip rfl (Sub.skip rfl (Sub.skip rfl (Sub.skip rfl (Sub.same rfl (by rw [g110]) (Sub.refl _)))))))))))) (List.Sublist.refl _)
    ) ?_
    refine nnx ?_
    refine RunC.cond rfl (fun h => absurd h (by rcases s86 with ⟨h1, h2⟩ | ⟨h1, h2, h3⟩; (have h5 : c.loans.l.length = 0 := h1); subst h2; simp [h5]; (have h5 : 0 < c.loans.l.length := h1); (have h4 : x86.pl = ⟨c.slots, c.homes.l, c.wrong, c.loans.l.take m⟩ := (by rw [h3, mI]; rfl)); subst h2; rw [decide_eq_true h4]; simp [h5])) ?_
    intro c7
    clear c7
    refine RunC.skip ?_
    exact RunE.meet () trivial rfl (Sub.cons (t := 5) rfl (Sub.nil _)) (.cons (.there (.there .here)) rfl .nil)
   intro c4
   have c4' := c4; clear c4
   try simp only [nH] at c4'
   refine RunC.skip ?_
   exact RunE.meet () trivial rfl (Sub.cons (t := 5) rfl (Sub.nil _)) (.cons (.there .here) rfl .nil)
  intro x xI
  refine RunC.seqJ (X := Unit) (n0 := []) (fun x q => q) (fun x => []) (fun x => []) (fun x => []) (fun x => True) (Sub.nil _) .nil ?_ ?_
  ·refine csr ?_
   refine RunL.val (Val.load_agg rfl (.head _) ty_41 rfl) rfl rfl rfl ?_
   refine RunL.callP (isCall_func rfl ent_17) rfl rfl rfl (fun w hm => WriteRoyal_calls r hsr w (hL.mono hm) (hR.mono0 hm)) ?_
   iterate 5 refine vp rfl rfl rfl rfl ?_
   refine nsr ?_
   refine vp rfl rfl rfl rfl ?_
   refine vp rfl rfl rfl rfl ?_
   refine nnx ?_
   refine RunC.cond rfl ?_ ?_
   ·intro c8
    have c8' := c8; clear c8
    try simp only [nH] at c8'
    have hRX := ite_one (by simpa using c8')
    rw [show (if royalX r.pl = true then royalS r.pl else []) = royalS r.pl from if_pos hRX]
    have h4 := roy_small hRX
    have h0 := text_pos roy_lines roy_ne r.pl
    refine RunC.seq ?_
    refine csr ?_
    refine vp rfl rfl rfl rfl ?_
    refine RunL.val (Val.eqlStr rfl rfl) rfl rfl rfl ?_
    refine nnx ?_
    refine RunC.cond rfl (fun h => absurd h (by rw [nn h0]; simp)) ?_
    intro c9
    clear c9
    refine RunC.skip ?_
    refine RunE.next ?_
    refine csr ?_
    refine vp rfl rfl rfl rfl ?_
    refine vp rfl rfl rfl rfl ?_
    refine RunL.val (Val.lenS rfl und_9) rfl rfl rfl ?_
    refine RunL.val (Val.subN (a := (royalS r.pl).length) (b := 1) ((royalS r.pl).length - 1) rfl rfl (by omega) (i64_inN (by omega))) rfl rfl rfl ?_
    refine RunL.val (Val.strTo (b := (royalS r.pl).length - 1) rfl rfl und_9 (by omega)) rfl rfl rfl ?_
    refine RunL.callNT (isCall_func rfl ent_11) rfl rfl rfl (fun w hm => grow_news (ReadRoyal_calls ((royalS r.pl).take ((royalS r.pl).length - 1)) w (hL.mono hm) (by rw [List.length_take]; omega))) (fun z135 => ?_)
    obtain ⟨⟨x135, e135⟩, h135⟩ := z135
    obtain ⟨f135, g135⟩ := rd_er h135 (roy_cut1 hRX)
    subst g135
    dsimp only
    iterate 3 refine vp rfl rfl rfl rfl ?_
    refine RunL.new (New.alloc zero_41) rfl rfl rfl (fun b23 => ?_)
    refine RunL.sto (Sto.store (cs := zsrdR) (cs' := x135.cells) rfl rfl .here ty_41 rfl (paste_over rfl (one_ryX _))) rfl rfl ?_
    refine vp rfl rfl rfl rfl ?_
    refine nnx ?_
    refine RunC.seq ?_
    refine csr ?_
    refine vp rfl rfl rfl rfl ?_
    refine vp rfl rfl rfl rfl ?_
    refine nnx ?_
    refine RunC.cond rfl (fun h => absurd h (by simp)) ?_
    intro c10
    clear c10
    refine RunC.skip ?_
    refine RunE.next ?_
    refine csr ?_
    refine RunL.val (Val.fieldAddr rfl fld_41_3) rfl rfl rfl ?_
    refine RunL.val (Val.load_one rfl (.tail _ (.head _)) ty_39 rfl) rfl rfl rfl ?_
    refine RunL.val (Val.len_sl rfl sl_39) rfl rfl rfl ?_
    refine vp rfl rfl rfl rfl ?_
    refine nsr ?_
    refine vp rfl rfl rfl rfl ?_
    refine vp rfl rfl rfl rfl ?_
    refine nnx ?_
    refine RunC.cond rfl ?_ ?_
    ·intro c11
     have c11' := c11; clear c11
     try simp only [nH] at c11'
     have hn0 : 0 < r.reports.l.length := by omega
     have hrq : r.reports.q = some ⟨r.reports.b, r.reports.o, none⟩ := hR.reports.ptr (i := 0) (by simp; omega)
     refine csr ?_
     refine vp rfl rfl rfl rfl ?_
     refine RunL.callP (isCall_func rfl ent_27) rfl rfl rfl (fun w hm => short_calls (royalS r.pl) (by omega) w) ?_
     refine RunL.callNA [(b23, _), (b5, _)] _ rfl (isCall_func rfl ent_11) rfl rfl rfl (fun w hm => grow_news (ReadRoyal_calls (shortS (royalS r.pl)) w (hL.mono hm) (by have := short_len (royalS r.pl); omega))) (fun z148 => ?_)
     obtain ⟨⟨x148, e148⟩, h148⟩ := z148
     obtain ⟨rfl, o148, s148⟩ := roy_say hRX (by show 0 < r.reports.l.length; omega) h148
     dsimp only
     iterate 3 refine vp rfl rfl rfl rfl ?_
     refine RunL.new (New.alloc zero_41) rfl rfl rfl (fun b26 => ?_)
     refine RunL.sto (Sto.store (cs := zsrdR) (cs' := x148.cells) rfl rfl .here ty_41 rfl (paste_over rfl (one_ryX _))) rfl rfl ?_
     refine vp rfl rfl rfl rfl ?_
     refine nsr ?_
     refine RunL.val (Val.load_agg rfl (.tail _ (.tail _ (.head _))) ty_41 rfl) rfl rfl rfl ?_
     refine RunL.new (New.alloc zero_41) rfl rfl rfl (fun b28 => ?_)
     refine RunL.sto (Sto.store rfl rfl .here ty_41 rfl rfl) rfl rfl ?_
     refine nsr ?_
     refine RunL.val (Val.fieldAddr rfl fld_41_3) rfl rfl rfl ?_
     refine RunL.val (Val.load_one rfl (.tail _ (.tail _ (.tail _ (.head _)))) ty_39 rfl) rfl rfl rfl ?_
     refine vp rfl rfl rfl rfl ?_
     refine RunL.val (Val.subN (a := r.reports.l.length) (b := 1) (r.reports.l.length - 1) rfl rfl (by omega) (i64_inN (by omega))) rfl rfl rfl ?_
     refine RunL.val (Val.sliceToC (i := r.reports.l.length - 1) (show rev _ _ = some (.slice (some ⟨r.reports.b, r.reports.o, none⟩) r.reports.l.length r.reports.c) by rw [← hrq]; rfl) rfl sl_39 (by omega)) rfl rfl rfl ?_
     refine RunL.val (Val.fieldAddr rfl fld_41_3) rfl rfl rfl ?_
     refine RunL.sto (Sto.store (cs := r.cells) (cs' := [r.terms.v, r.prices.v, r.shares.v, .slice r.reports.q (r.reports.l.length - 1) r.reports.c, r.paid.v]) rfl rfl .here ty_39 rfl (by rw [hrq]; rfl)) rfl rfl ?_
     refine nsr ?_
     iterate 3 refine vp rfl rfl rfl rfl ?_
     refine RunL.orPart (dj := 160) (dp := 165) 5 rfl (fun g160 => by
       have g160' := g160
       try simp only [nH] at g160'
       refine RunL.val (Val.load_agg rfl (.tail _ (.head _)) ty_41 rfl) rfl rfl rfl ?_
       refine RunL.val (Val.load_agg rfl (.head _) ty_41 rfl) rfl rfl rfl ?_
       refine RunL.callP (isCall_func rfl ent_18) rfl rfl rfl (fun w hm => (pure_true (sameRt_calls x148 o148 r hsr (r.reports.l.length - 1) (by omega) [] W w (hm.pick (news' := ryB x148 ++ []) (Pick.cnt fun x => by simp only [nC]; omega)) (hR.mono0 hm)) s148)) ?_
       refine vp rfl rfl rfl rfl ?_
       refine vp rfl rfl rfl rfl ?_
       exact RunL.segEnd (Sub.cons rfl (Sub.skip rfl (Sub.skip rfl (Sub.skip rfl (Sub.skip rfl (Sub.skip rfl (Sub.same rfl (by rw [g160]) (Sub.refl _)))))))) (List.Sublist.refl _)
     ) (fun g160 => by
       have g160' := g160
       try simp only [nH] at g160'
       iterate 4 refine RunL.no rfl rfl rfl ?_
       refine vp rfl rfl rfl rfl ?_
       exact RunL.segEnd (Sub.cons rfl (Sub.skip rfl (Sub.skip rfl (Sub.skip rfl (Sub.skip rfl (Sub.skip rfl (Sub.same rfl (by rw [g160]) (Sub.refl _)))))))) (List.Sublist.refl _)
     ) ?_
     refine nnx ?_
     refine RunC.cond rfl (fun h => absurd h (by simp)) ?_
     intro c12
     clear c12
     refine RunC.skip ?_
     exact RunE.meet () trivial rfl (Sub.nil _) .nil
    intro c11
    have c11' := c11; clear c11
    try simp only [nH] at c11'
    refine RunC.skip ?_
    exact RunE.meet () trivial rfl (Sub.nil _) .nil
   intro c8
   have c8' := c8; clear c8
   try simp only [nH] at c8'
   refine RunC.skip ?_
   exact RunE.meet () trivial rfl (Sub.nil _) .nil
  intro x xI
  refine csr ?_
  refine RunL.callP (isCall_func rfl ent_8) rfl rfl rfl (fun w hm => alive_calls w (hL.mono hm)) ?_
  refine vp rfl rfl rfl rfl ?_
  refine nnx ?_
  refine RunC.ret ?_
  exact RunE.retP (.r1 rfl (.tmp rfl)) (by first | rfl | simp)
theorem bookCut_walk (W : World) (vs : List Value) (hL : Lw Tryz.prog W) (h : RdAll W [trSh, cbSh, rySh] vs) : Calls Tryz.prog 7 vs.toArray W (Pure (.bool true) W) := by
  cases h with
  | cons h1 h =>
  cases h with
  | cons h2 h =>
  cases h with
  | cons h3 h =>
  cases h
  obtain ⟨t, rfl, ht, hn1⟩ := rd_tr h1
  obtain ⟨c, rfl, hc, hc2⟩ := rd_cbq h2
  obtain ⟨r, rfl, hr, hn2, hr2⟩ := rd_ryq h3
  exact cut_law t c r W hL ht hc hr (Nat.le_trans hn1 (by decide)) (Nat.le_trans hn2 (by decide)) hc2 hr2
end Go.Proofs.YtleamcmljcdapabGreatDoor
