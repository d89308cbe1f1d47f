/- Layer 14, plain: far too much of something; the document's examples. -/
import Derived.Test.YtleamcmljcdapabGreatDoorU04
import Derived.Test.YtleamcmljcdapabGreatDoorRows
import Derived.Lib.LaidTab
import Derived.Stop.LaidErr
import Derived.MakeChecks
import Derived.Shelf.Vars
import Derived.Handed
import Derived.HandedShaped
import Derived.Lay
import Derived.Shelf.Strings.Builder1
import Derived.Shelf.Strings.Builder2
import Derived.Shelf.Strings.OnBuilder
import Derived.Shelf.Small.Strs
import Derived.Shelf.Strings.BuilderF
import Derived.Shelf.Strings.BuilderK
import Derived.Shelf.Utf8.RuneCount
import Derived.Shelf.Strconv.Atoi
import Derived.Shelf.Strconv.Itoa0
import Derived.Shelf.Strconv.Itoa1
import Derived.Shelf.LaysM
import Derived.Shelf.Strconv.Itoa2
import Derived.Shelf.Strconv.Itoa3
import Derived.Shelf.Strconv.AtoiErrFast
import Derived.Shelf.Strconv.ParseIntEmpty
import Derived.Shelf.Strconv.AtoiFail
import Derived.Shelf.Strconv.Clone
import Derived.Shelf.Strconv.SyntaxError
import Derived.Shelf.LaysC
import Derived.Shelf.Strconv.ToError
import Derived.Shelf.Strconv.AtoiErr
import Derived.Shelf.Strconv.ErrVar
import Derived.Shelf.Strconv.Lower
import Derived.Shelf.Strconv.ParseUint10
import Derived.Shelf.Strconv.ParseUint10Empty
import Derived.Shelf.Strconv.ParseUint10Any
import Derived.Shelf.Strconv.ParseInt10
import Derived.Shelf.Strconv.AtoiLong
import Derived.Shelf.Strconv.AtoiInnerAll
import Derived.Shelf.Strconv.RangeError
import Derived.Shelf.Strconv.ToErrorRange
import Derived.Shelf.Strconv.AtoiAll
import Derived.Shelf.Strconv.ErrVarAll
import Derived.Shelf.Strings.Search1
import Derived.Shelf.Strings.Search2
import Derived.Shelf.Strings.Search3
import Derived.Shelf.Strings.Cut
import Derived.Shelf.Strings.Count
import Derived.Shelf.Strings.Shaped
import Derived.Shelf.Strings.LastIndex
import Derived.Shelf.Strings.LastIndexAll
import Derived.Shelf.Strings.Prefix
import Derived.Shelf.Strings.Split
import Derived.Shelf.Strings.SplitShaped
import Derived.Shelf.Unicode.Decode
import Derived.Shelf.Strings.RuneCount
import Derived.Shelf.Strings.Explode
import Derived.Shelf.Unicode.DecodeSlow
import Derived.Shelf.Unicode.DecodeAny
import Derived.Shelf.Slices.Turned
import Derived.Test.YtleamcmljcdapabGreatDoorProg
set_option linter.unusedSimpArgs false
set_option linter.unusedVariables false
namespace Go.Bk
open Go Go.Eng Go.RowKit
def len0 (t : Tr) (c : Cb) (p : Ps) : Int := [(t.ways.length : Int), (t.stay.length : Int), (t.light.length : Int), (c.homes.length : Int), (c.loans.length : Int), (p.cards.length : Int)].foldl Max.max (t.fr.length : Int)
def len1 (t : Tr) (c : Cb) (r : Ry) (p : Ps) : Int := [(r.terms.length : Int), (r.paid.length : Int), (r.prices.length : Int), (r.shares.length : Int), (r.reports.length : Int)].foldl Max.max (len0 t c p)
def len2 {α : Type} (n : Int) (l : List (List α)) : Int := l.foldl (fun n x => Max.max n (x.length : Int)) n
theorem len2_s {α : Type} {n : Int} {l : List (List α)} {k : Nat} (hk : k < l.length) {x : List α} (hx : l[k] = x) : len2 n (l.take (k + 1)) = Max.max (len2 n (l.take k)) (x.length : Int) := by
  unfold len2
  rw [List.take_succ_eq_append_getElem hk, List.foldl_append, hx]
  rfl
theorem len2_le {α : Type} : ∀ (l : List (List α)) (n : Int), n ≤ len2 n l ∧ ∀ x ∈ l, (x.length : Int) ≤ len2 n l
  | [], n => ⟨Int.le_refl _, fun x h => by cases h⟩
  | y :: l, n => by
    obtain ⟨h1, h2⟩ := len2_le l (Max.max n (y.length : Int))
    have e : len2 n (y :: l) = len2 (Max.max n (y.length : Int)) l := rfl
    rw [e]
    refine ⟨by omega, fun x hx => ?_⟩
    rcases List.mem_cons.1 hx with rfl | hx
    · omega
    · exact h2 x hx
def lenX (t : Tr) (c : Cb) (r : Ry) (p : Ps) : Int := len2 (len2 (len1 t c r p) t.ways) r.shares
def greatX (t : Tr) (c : Cb) (r : Ry) (p : Ps) : Bool := decide (40 < lenX t c r p)
structure Few (t : Tr) (c : Cb) (r : Ry) (p : Ps) : Prop where
  fr : t.fr.length ≤ 40
  ways : t.ways.length ≤ 40
  rows : ∀ x ∈ t.ways, x.length ≤ 40
  stay : t.stay.length ≤ 40
  light : t.light.length ≤ 40
  homes : c.homes.length ≤ 40
  loans : c.loans.length ≤ 40
  cards : p.cards.length ≤ 40
  terms : r.terms.length ≤ 40
  paid : r.paid.length ≤ 40
  prices : r.prices.length ≤ 40
  shares : r.shares.length ≤ 40
  srows : ∀ x ∈ r.shares, x.length ≤ 40
  reports : r.reports.length ≤ 40
theorem few_of {t : Tr} {c : Cb} {r : Ry} {p : Ps} (h : greatX t c r p = false) : Few t c r p := by
  have h0 : lenX t c r p ≤ 40 := by have := of_decide_eq_false h; omega
  have h3 := len2_le r.shares (len2 (len1 t c r p) t.ways)
  have h2 := len2_le t.ways (len1 t c r p)
  have h1 := fold_max [(r.terms.length : Int), (r.paid.length : Int), (r.prices.length : Int), (r.shares.length : Int), (r.reports.length : Int)] (len0 t c p)
  have h4 := fold_max [(t.ways.length : Int), (t.stay.length : Int), (t.light.length : Int), (c.homes.length : Int), (c.loans.length : Int), (p.cards.length : Int)] (t.fr.length : Int)
  change _ ≤ lenX t c r p ∧ ∀ x ∈ r.shares, _ ≤ lenX t c r p at h3
  change _ ≤ len1 t c r p ∧ ∀ q ∈ _, q ≤ len1 t c r p at h1
  change _ ≤ len0 t c p ∧ ∀ q ∈ _, q ≤ len0 t c p at h4
  have m1 := h1.2
  have m4 := h4.2
  simp only [List.mem_cons, List.not_mem_nil, or_false, forall_eq_or_imp, forall_eq] at m1 m4
  refine ⟨?_, ?_, fun x hx => ?_, ?_, ?_, ?_, ?_, ?_, ?_, ?_, ?_, ?_, fun x hx => ?_, ?_⟩
  case refine_3 => have := h2.2 x hx; omega
  case refine_13 => have := h3.2 x hx; omega
  all_goals omega
/-! ### The examples -/
def exT : Tr := ⟨360, [⟨30, 40⟩, ⟨20, 20⟩, ⟨60, 70⟩], [[⟨0, 0⟩, ⟨15, 20⟩, ⟨45, 50⟩], [⟨15, 20⟩, ⟨0, 0⟩, ⟨30, 35⟩], [⟨45, 50⟩, ⟨30, 35⟩, ⟨0, 0⟩]], [⟨10, 15⟩, ⟨20, 20⟩, ⟨5, 10⟩], [⟨420, 480⟩, ⟨380, 600⟩, ⟨500, 540⟩]⟩
def exC : Cb := ⟨4, [0, 1, 2], 1, [⟨0, 0, 0, 0⟩, ⟨0, 1, 1, 0⟩, ⟨1, 0, 0, 0⟩, ⟨1, 1, 1, 0⟩, ⟨2, 0, 0, 1⟩]⟩
def exR : Ry := ⟨[⟨20, 3, 30⟩, ⟨25, 12, 25⟩], [99], [[334, 333, 333]], [⟨0, 0, 0, 5⟩, ⟨1, 0, 4, 7⟩], [0, 0]⟩
def exP : Ps := ⟨[⟨⟨100, 101⟩, ⟨500, 505⟩, 0⟩], ⟨3, 5⟩, ⟨10, 20⟩⟩
theorem exT_ok : tourX exT = true := by decide
theorem exC_ok : cabX exC = true := by decide
theorem exR_ok : royalX exR = true := by decide
theorem exP_ok : printsX exP = true := by decide
def dig (u : Nat) : Str := if u < 10 then [UInt8.ofNat (48 + u)] else if u < 100 then [UInt8.ofNat (48 + u / 10), UInt8.ofNat (48 + u % 10)] else [UInt8.ofNat (48 + u / 100), UInt8.ofNat (48 + u / 10 % 10), UInt8.ofNat (48 + u % 10)]
theorem dig_dec {u : Nat} (h : u < 1000) : Lib.decDigits u = dig u := by
  unfold dig
  split
  · rw [Lib.decDigits, dif_pos (by assumption)]
  · rename_i h1
    rw [Lib.decDigits, dif_neg h1]
    split
    · rw [Lib.decDigits, dif_pos (by omega)]
      rfl
    · rw [Lib.decDigits, dif_neg (by omega), Lib.decDigits, dif_pos (by omega)]
      have e : u / 10 / 10 = u / 100 := by omega
      rw [e]
      rfl
theorem itoa_dig {n : Int} (h : 0 ≤ n) (h2 : n < 1000) : Lib.itoa n = dig n.toNat := by
  unfold Lib.itoa
  rw [if_neg (by omega), dig_dec (by omega)]
def exTS : Str := [116, 111, 117, 114, 32, 51, 54, 48, 10, 102, 114, 111, 109, 32, 51, 48, 46, 46, 52, 48, 32, 50, 48, 46, 46, 50, 48, 32, 54, 48, 46, 46, 55, 48, 10, 119, 97, 121, 115, 32, 48, 46, 46, 48, 32, 49, 53, 46, 46, 50, 48, 32, 52, 53, 46, 46, 53, 48, 10, 119, 97, 121, 115, 32, 49, 53, 46, 46, 50, 48, 32, 48, 46, 46, 48, 32, 51, 48, 46, 46, 51, 53, 10, 119, 97, 121, 115, 32, 52, 53, 46, 46, 53, 48, 32, 51, 48, 46, 46, 51, 53, 32, 48, 46, 46, 48, 10, 115, 116, 97, 121, 32, 49, 48, 46, 46, 49, 53, 32, 50, 48, 46, 46, 50, 48, 32, 53, 46, 46, 49, 48, 10, 108, 105, 103, 104, 116, 32, 52, 50, 48, 46, 46, 52, 56, 48, 32, 51, 56, 48, 46, 46, 54, 48, 48, 32, 53, 48, 48, 46, 46, 53, 52, 48, 10]
def exCS : Str := [99, 97, 98, 105, 110, 101, 116, 32, 52, 32, 49, 10, 104, 111, 109, 101, 115, 32, 48, 32, 49, 32, 50, 10, 116, 97, 107, 101, 32, 48, 32, 48, 10, 116, 97, 107, 101, 32, 49, 32, 49, 10, 98, 97, 99, 107, 32, 48, 32, 48, 10, 98, 97, 99, 107, 32, 49, 32, 49, 10, 108, 111, 111, 107, 32, 49, 32, 48, 10]
def exRS : Str := [114, 111, 121, 97, 108, 10, 97, 103, 101, 110, 116, 32, 50, 48, 32, 51, 32, 51, 48, 32, 48, 10, 97, 103, 101, 110, 116, 32, 50, 53, 32, 49, 50, 32, 50, 53, 32, 48, 10, 107, 105, 110, 100, 32, 57, 57, 32, 51, 51, 52, 32, 51, 51, 51, 32, 51, 51, 51, 10, 114, 101, 112, 111, 114, 116, 32, 48, 32, 48, 32, 48, 32, 53, 10, 114, 101, 112, 111, 114, 116, 32, 49, 32, 48, 32, 52, 32, 55, 10]
def exPS : Str := [80, 1, 0, 100, 0, 1, 1, 244, 0, 5, 0, 0, 0, 3, 0, 2, 0, 10, 0, 10, 29, 39]
set_option maxRecDepth 10000 in
theorem exT_text : tourS exT = exTS := by
  simp (config := { decide := true }) only [tourS, exT, rowS, lineS, spS, List.map_cons, List.map_nil, itoa_dig]
  try rfl
theorem exC_text : cabS exC = exCS := by
  simp (config := { decide := true }) only [cabS, exC, loanS, lineS, List.map_cons, List.map_nil, itoa_dig, if_true, if_false]
theorem exR_text : royalS exR = exRS := by
  simp (config := { decide := true }) only [royalS, exR, agentS, kindS, reportS, lineS, List.map_cons, List.map_nil, List.zip_cons_cons, List.zip_nil_right, itoa_dig]
theorem exP_bytes : psS exP = exPS := by decide
theorem ndec {p : Prop} [Decidable p] (h : p) : (!decide p) = false := by simp [h]
set_option maxRecDepth 10000 in
theorem exT_len : exTS.length = 165 := rfl
set_option maxRecDepth 10000 in
theorem exC_len : exCS.length = 69 := rfl
set_option maxRecDepth 10000 in
theorem exR_len : exRS.length = 89 := rfl
theorem exT_read : readX tourStep zeroT tourX tourS exTS = .ok exT := readX_ok parse_tour exT_ok exT_text (by rw [exT_len]; decide)
theorem exC_read : readX cabStep zeroC cabX cabS exCS = .ok exC := readX_ok parse_cab exC_ok exC_text (by rw [exC_len]; decide)
theorem exR_read : readX royStep zeroR royalX royalS exRS = .ok exR := readX_ok parse_roy exR_ok exR_text (by rw [exR_len]; decide)
theorem exP_read : readPs exPS = .ok exP := by rw [← exP_bytes]; exact readPs_ok exP_ok
end Go.Bk
namespace Go.Proofs.YtleamcmljcdapabGreatDoor
open Go Go.Eng Go.Bk Go.RowKit

theorem rsameBytes_calls (s u : SA UInt8) (W : World) (hS : s.ok byC 1 W) (hU : u.ok byC 1 W) : Calls Tryz.prog 20 #[s.v, u.v] W (Pure (.bool (decide (s.l = u.l))) W) := by
  refine calls_start Tryz.func20 rfl rfl ?_
  refine st ?_
  refine lv (Val.bytesStr rfl sls_22 und_5 und_9 (fun w hm => hS.mono0 (by decide) hm)) ?_
  refine lv (Val.bytesStr rfl sls_22 und_5 und_9 (fun w hm => hU.mono0 (by decide) hm)) ?_
  refine lv (Val.eqlStr rfl rfl) ?_
  refine RunC.ret ?_
  exact RunE.retP (.r1 rfl (.tmp rfl)) (by first | rfl | simp)
theorem great_calls (t : TrA) (c : CbA) (r : RyA) (p : PsA) (W : World) (hT : TrOk W t) (hR : RyOk W r) (hn1 : t.ways.l.length ≤ 9223372036854775807) (hn2 : r.shares.l.length ≤ 9223372036854775807) : Calls Tryz.prog 22 #[t.v, c.v, r.v, p.v] W (Pure (.bool (greatX t.pl c.pl r.pl p.pl)) W) := by
  have e1 : t.pl.ways.length = t.ways.l.length := by simp [TrA.pl]
  have e2 : r.pl.shares.length = r.shares.l.length := by simp [RyA.pl]
  have f0 : len0 t.pl c.pl p.pl = [(t.ways.l.length : Int), (t.stay.l.length : Int), (t.light.l.length : Int), (c.homes.l.length : Int), (c.loans.l.length : Int), (p.cards.l.length : Int)].foldl Max.max (t.fr.l.length : Int) := by unfold len0; rw [e1]; rfl
  have f1 : len1 t.pl c.pl r.pl p.pl = [(r.terms.l.length : Int), (r.paid.l.length : Int), (r.prices.l.length : Int), (r.shares.l.length : Int), (r.reports.l.length : Int)].foldl Max.max (len0 t.pl c.pl p.pl) := by unfold len1; rw [e2]; rfl
  refine calls_start Tryz.func22 rfl rfl ?_
  refine st ?_
  refine RunL.new (New.box rfl) rfl rfl rfl (fun b4 => ?_)
  refine RunL.new (New.box rfl) rfl rfl rfl (fun b5 => ?_)
  refine RunL.new (New.box rfl) rfl rfl rfl (fun b6 => ?_)
  refine RunL.new (New.box rfl) rfl rfl rfl (fun b7 => ?_)
  refine st ?_
  refine lv (Val.fieldAddr rfl fld_27_1) ?_
  refine lv (Val.load_one rfl (.tail _ (.tail _ (.tail _ (.head _)))) ty_24 rfl) ?_
  refine lv (Val.len_sl rfl sl_24) ?_
  refine lv (Val.fieldAddr rfl fld_27_2) ?_
  refine lv (Val.load_one rfl (.tail _ (.tail _ (.tail _ (.head _)))) ty_25 rfl) ?_
  refine lv (Val.len_sl rfl sl_25) ?_
  refine lv (Val.fieldAddr rfl fld_27_3) ?_
  refine lv (Val.load_one rfl (.tail _ (.tail _ (.tail _ (.head _)))) ty_24 rfl) ?_
  refine lv (Val.len_sl rfl sl_24) ?_
  refine lv (Val.fieldAddr rfl fld_27_4) ?_
  refine lv (Val.load_one rfl (.tail _ (.tail _ (.tail _ (.head _)))) ty_24 rfl) ?_
  refine lv (Val.len_sl rfl sl_24) ?_
  refine lv (Val.fieldAddr rfl fld_34_1) ?_
  refine lv (Val.load_one rfl (.tail _ (.tail _ (.head _))) ty_31 rfl) ?_
  refine lv (Val.len_sl rfl sl_31) ?_
  refine lv (Val.fieldAddr rfl fld_34_3) ?_
  refine lv (Val.load_one rfl (.tail _ (.tail _ (.head _))) ty_32 rfl) ?_
  refine lv (Val.len_sl rfl sl_32) ?_
  refine lv (Val.fieldAddr rfl fld_48_0) ?_
  refine lv (Val.load_one rfl (.head _) ty_44 rfl) ?_
  refine lv (Val.len_sl rfl sl_44) ?_
  refine RunL.val (Val.maxN (qs := [(t.ways.l.length : Int), (t.stay.l.length : Int), (t.light.l.length : Int), (c.homes.l.length : Int), (c.loans.l.length : Int), (p.cards.l.length : Int)]) rfl rfl) rfl rfl rfl ?_
  refine vp rfl rfl rfl rfl ?_
  refine nsr ?_
  rw [← f0]
  refine st ?_
  refine lv (Val.fieldAddr rfl fld_41_0) ?_
  refine lv (Val.load_one rfl (.tail _ (.head _)) ty_37 rfl) ?_
  refine lv (Val.len_sl rfl sl_37) ?_
  refine lv (Val.fieldAddr rfl fld_41_4) ?_
  refine lv (Val.load_one rfl (.tail _ (.head _)) ty_31 rfl) ?_
  refine lv (Val.len_sl rfl sl_31) ?_
  refine lv (Val.fieldAddr rfl fld_41_1) ?_
  refine lv (Val.load_one rfl (.tail _ (.head _)) ty_31 rfl) ?_
  refine lv (Val.len_sl rfl sl_31) ?_
  refine lv (Val.fieldAddr rfl fld_41_2) ?_
  refine lv (Val.load_one rfl (.tail _ (.head _)) ty_38 rfl) ?_
  refine lv (Val.len_sl rfl sl_38) ?_
  refine lv (Val.fieldAddr rfl fld_41_3) ?_
  refine lv (Val.load_one rfl (.tail _ (.head _)) ty_39 rfl) ?_
  refine lv (Val.len_sl rfl sl_39) ?_
  refine RunL.val (Val.maxN (qs := [(r.terms.l.length : Int), (r.paid.l.length : Int), (r.prices.l.length : Int), (r.shares.l.length : Int), (r.reports.l.length : Int)]) rfl rfl) rfl rfl rfl ?_
  refine vp rfl rfl rfl rfl ?_
  refine nnx ?_
  refine RunC.seq ?_
  refine csr ?_
  rw [← f1]
  refine lv (Val.fieldAddr rfl fld_27_2) ?_
  refine lv (Val.load_one rfl (.tail _ (.tail _ (.tail _ (.head _)))) ty_25 rfl) ?_
  refine lv (Val.len_sl rfl sl_25) ?_
  refine RunC.loopK (t.ways.l.length) (fun k q => (56, .int .i64 (k : Int)) :: (9, .int .i64 (len2 (len1 t.pl c.pl r.pl p.pl) (t.pl.ways.take k))) :: q) (fun _ => _) (fun _ => []) (fun _ => True) trivial rfl (Sub.consE (t := 56) rfl rfl (Sub.consE (t := 9) rfl (by rfl) (Sub.cons (t := 4) rfl (Sub.cons (t := 5) rfl (Sub.cons (t := 6) rfl (Sub.cons (t := 7) rfl (Sub.cons (t := 54) rfl (Sub.cons (t := 55) rfl (Sub.nil _))))))))) (.cons .here rfl (.cons .here rfl (.cons .here rfl (.cons .here rfl .nil)))) ?_
  intro k kN kI
  clear kI
  refine st ?_
  refine cn rfl ?_ ?_
  ·intro c0'
   have hk : k < t.ways.l.length := by omega
   obtain ⟨x, hx⟩ : ∃ x, t.ways.l[k] = x := ⟨_, rfl⟩
   refine st ?_
   refine lv (Val.indexAddr_slp rfl rfl sl_25 (by omega) (by omega) (Sl.ptrM hT.ways hk)) ?_
   refine lv (Val.load_gen rfl (fun w hm => Sl.loadM1 hT.ways (by decide) hm (by simp) ty_24 hk (v := x.v) (by simp [SA.cell, hx]))) ?_
   refine lv (Val.len_sl rfl sl_24) ?_
   refine lv (Val.max rfl rfl) ?_
   refine lv (Val.add rfl rfl (IntWalk.i64_in _ ⟨by omega, by omega⟩)) ?_
   exact RunE.round (by omega) trivial rfl (Sub.consE (t := 56) rfl rfl (Sub.consE (t := 9) rfl (by rw [len2_s (x := x.l) (by rw [e1]; exact hk) (by simp [TrA.pl, hx])]) (Sub.cons (t := 4) rfl (Sub.cons (t := 5) rfl (Sub.cons (t := 6) rfl (Sub.cons (t := 7) rfl (Sub.cons (t := 54) rfl (Sub.cons (t := 55) rfl (Sub.nil _))))))))) (.cons .here rfl (.cons .here rfl (.cons .here rfl (.cons .here rfl .nil))))
  intro c0'
  obtain rfl : k = t.ways.l.length := by omega
  have g1 : len2 (len1 t.pl c.pl r.pl p.pl) (t.pl.ways.take t.ways.l.length) = len2 (len1 t.pl c.pl r.pl p.pl) t.pl.ways := by rw [← e1, List.take_length]
  rw [g1]
  refine RunC.exit ?_
  refine RunE.pass_exit ?_
  refine RunE.pass_exit ?_
  refine RunE.block_here ?_
  refine st ?_
  refine lv (Val.fieldAddr rfl fld_41_2) ?_
  refine lv (Val.load_one rfl (.tail _ (.head _)) ty_38 rfl) ?_
  refine lv (Val.len_sl rfl sl_38) ?_
  refine RunC.loopK (r.shares.l.length) (fun k q => (68, .int .i64 (k : Int)) :: (9, .int .i64 (len2 (len2 (len1 t.pl c.pl r.pl p.pl) t.pl.ways) (r.pl.shares.take k))) :: q) (fun _ => _) (fun _ => []) (fun _ => True) trivial rfl (Sub.consE (t := 68) rfl rfl (Sub.consE (t := 9) rfl (by rfl) (Sub.cons (t := 4) rfl (Sub.cons (t := 5) rfl (Sub.cons (t := 6) rfl (Sub.cons (t := 7) rfl (Sub.cons (t := 66) rfl (Sub.cons (t := 67) rfl (Sub.nil _))))))))) (.cons .here rfl (.cons .here rfl (.cons .here rfl (.cons .here rfl .nil)))) ?_
  intro k kN kI
  clear kI
  refine st ?_
  refine cn rfl ?_ ?_
  ·intro c1'
   have hk : k < r.shares.l.length := by omega
   obtain ⟨x, hx⟩ : ∃ x, r.shares.l[k] = x := ⟨_, rfl⟩
   refine st ?_
   refine lv (Val.indexAddr_slp rfl rfl sl_38 (by omega) (by omega) (Sl.ptrM hR.shares hk)) ?_
   refine lv (Val.load_gen rfl (fun w hm => Sl.loadM1 hR.shares (by decide) hm (by simp) ty_31 hk (v := x.v) (by simp [SA.cell, hx]))) ?_
   refine lv (Val.len_sl rfl sl_31) ?_
   refine lv (Val.max rfl rfl) ?_
   refine lv (Val.add rfl rfl (IntWalk.i64_in _ ⟨by omega, by omega⟩)) ?_
   exact RunE.round (by omega) trivial rfl (Sub.consE (t := 68) rfl rfl (Sub.consE (t := 9) rfl (by rw [len2_s (x := x.l) (by rw [e2]; exact hk) (by simp [RyA.pl, hx])]) (Sub.cons (t := 4) rfl (Sub.cons (t := 5) rfl (Sub.cons (t := 6) rfl (Sub.cons (t := 7) rfl (Sub.cons (t := 66) rfl (Sub.cons (t := 67) rfl (Sub.nil _))))))))) (.cons .here rfl (.cons .here rfl (.cons .here rfl (.cons .here rfl .nil))))
  intro c1'
  obtain rfl : k = r.shares.l.length := by omega
  refine RunC.exit ?_
  refine RunE.pass_exit ?_
  refine RunE.pass_exit ?_
  refine RunE.block_here ?_
  refine st ?_
  refine RunC.ret ?_
  exact RunE.retP (.r1 rfl (.tmp rfl)) (by unfold greatX lenX; rw [show List.take r.shares.l.length r.pl.shares = r.pl.shares by rw [← e2, List.take_length]])
theorem lspan_calls (a b : Int) (W : World) : Calls Tryz.prog 24 #[.int .i64 a, .int .i64 b] W (Pure (.agg #[.int .i64 a, .int .i64 b]) W) := by
  refine calls_start Tryz.func24 rfl rfl ?_
  refine st ?_
  refine RunL.new (New.alloc zero_46) rfl rfl rfl (fun b4 => ?_)
  refine st ?_
  refine lv (Val.build (parts := [(0, .tmp 5), (1, .tmp 6)]) rfl zero_46 places_46 rfl) ?_
  refine RunL.sto (Sto.store rfl rfl .here ty_46 rfl rfl) rfl rfl ?_
  refine st ?_
  refine RunC.ret ?_
  exact RunE.retP (.r1 rfl (.agg rfl (.head _) ty_46 rfl)) (by first | rfl | simp)
end Go.Proofs.YtleamcmljcdapabGreatDoor
namespace Go.Proofs.YtleamcmljcdapabGreatDoor
open Go Go.Eng
theorem ent_24 : Enters Tryz.prog 24 := enters_of Tryz.func24 (by kernel_rfl) rfl
theorem places_27 : placesB Tryz.prog 27 = some [(0, 1), (1, 1), (2, 1), (3, 1), (4, 1)] := by kernel_rfl
theorem places_34 : placesB Tryz.prog 34 = some [(0, 1), (1, 1), (2, 1), (3, 1)] := by kernel_rfl
theorem places_41 : placesB Tryz.prog 41 = some [(0, 1), (1, 1), (2, 1), (3, 1), (4, 1)] := by kernel_rfl
end Go.Proofs.YtleamcmljcdapabGreatDoor
namespace Go.Proofs.YtleamcmljcdapabGreatDoor
open Go Go.Eng Go.Bk Go.RowKit

abbrev cO (cs : List Value) (T : TypeId) : Obj := .cells cs.toArray T (0, 0)
theorem cO_ok {α : Type} {w : World} {b c : Nat} {T : TypeId} {f : α → List Value} {sz : Nat} (l : List α) (h : w.heap[b]? = some (cO (l.map f).flatten T)) (hf : ∀ x, (f x).length = sz) : (⟨l, some ⟨b, 0, none⟩, b, 0, c⟩ : SA α).ok f sz w :=
  Sl.rowsR (xs := l.map f) (t := []) (by rw [List.append_nil]; exact h) (fun x hx => by obtain ⟨y, _, rfl⟩ := List.mem_map.1 hx; exact hf y)
/-- A slice that is just a block. -/
abbrev atB {α : Type} (l : List α) (b : Nat) : SA α := ⟨l, some ⟨b, 0, none⟩, b, 0, l.length⟩
structure ExT where
  a : Nat
  b : Nat
  c : Nat
  d : Nat
  e : Nat
  f : Nat
  g : Nat
def exTR (z : ExT) : List (SA Sp) := [atB [⟨0, 0⟩, ⟨15, 20⟩, ⟨45, 50⟩] z.b, atB [⟨15, 20⟩, ⟨0, 0⟩, ⟨30, 35⟩] z.c, atB [⟨45, 50⟩, ⟨30, 35⟩, ⟨0, 0⟩] z.d]
def exTA (z : ExT) : TrA := ⟨360, atB exT.fr z.a, atB (exTR z) z.e, atB exT.stay z.f, atB exT.light z.g⟩
theorem exTA_pl (z : ExT) : (exTA z).pl = exT := rfl
def exTB (z : ExT) : Blks := [(z.a, cO (exT.fr.map Sp.cells).flatten 46), (z.b, cO (([⟨0, 0⟩, ⟨15, 20⟩, ⟨45, 50⟩] : List Sp).map Sp.cells).flatten 46), (z.c, cO (([⟨15, 20⟩, ⟨0, 0⟩, ⟨30, 35⟩] : List Sp).map Sp.cells).flatten 46), (z.d, cO (([⟨45, 50⟩, ⟨30, 35⟩, ⟨0, 0⟩] : List Sp).map Sp.cells).flatten 46), (z.e, cO ((exTR z).map SA.cell).flatten 24), (z.f, cO (exT.stay.map Sp.cells).flatten 46), (z.g, cO (exT.light.map Sp.cells).flatten 46)]
theorem exTA_ok {z : ExT} {w W : World} {tl : Blks} (hm : Mem W [] (exTB z ++ tl) w) : TrOk w (exTA z) := by
  have h : ∀ b o, (b, o) ∈ exTB z → w.heap[b]? = some o := fun b o hb => hm.at (List.mem_append_right _ (List.mem_append_left _ hb))
  refine ⟨cO_ok _ (h _ _ (.head _)) (fun _ => rfl), cO_ok _ (h _ _ (.tail _ (.tail _ (.tail _ (.tail _ (.head _)))))) (fun _ => rfl), fun x hx => ?_, cO_ok _ (h _ _ (.tail _ (.tail _ (.tail _ (.tail _ (.tail _ (.head _))))))) (fun _ => rfl), cO_ok _ (h _ _ (.tail _ (.tail _ (.tail _ (.tail _ (.tail _ (.tail _ (.head _)))))))) (fun _ => rfl), fun e => by cases e⟩
  simp only [exTA, exTR, List.mem_cons, List.not_mem_nil, or_false] at hx
  rcases hx with rfl | rfl | rfl
  · exact cO_ok _ (h _ _ (.tail _ (.head _))) (fun _ => rfl)
  · exact cO_ok _ (h _ _ (.tail _ (.tail _ (.head _)))) (fun _ => rfl)
  · exact cO_ok _ (h _ _ (.tail _ (.tail _ (.tail _ (.head _))))) (fun _ => rfl)
theorem exTA_sm (z : ExT) : TrSm (exTA z) := ⟨by show (3 : Nat) ≤ _; decide, by show (3 : Nat) ≤ _; decide, fun x hx => by
  simp only [exTA, exTR, List.mem_cons, List.not_mem_nil, or_false] at hx
  rcases hx with rfl | rfl | rfl <;> (show (3 : Nat) ≤ _; decide), by show (3 : Nat) ≤ _; decide, by show (3 : Nat) ≤ _; decide⟩
theorem tour_calls (W : World) : Calls Tryz.prog 28 #[] W (News (fun z : ExT => (exTA z).v) exTB W) := by
  refine calls_start Tryz.func28 rfl rfl ?_
  refine st ?_
  refine RunL.new (New.alloc zero_27) rfl rfl rfl (fun b0 => ?_)
  refine st ?_
  iterate 4 refine RunL.callP (isCall_func rfl ent_24) rfl rfl rfl (fun w hm => lspan_calls _ _ w) ?_
  refine RunL.new (New.alloc zero_46) rfl rfl rfl (fun b1 => ?_)
  refine RunL.new (New.alloc zero_46) rfl rfl rfl (fun b2 => ?_)
  refine RunL.new (New.alloc zero_46) rfl rfl rfl (fun b3 => ?_)
  refine RunL.new (New.alloc zero_46) rfl rfl rfl (fun b4 => ?_)
  refine RunL.sto (Sto.store rfl rfl (.there (.there (.there .here))) ty_46 rfl rfl) rfl rfl ?_
  refine RunL.sto (Sto.store rfl rfl (.there (.there .here)) ty_46 rfl rfl) rfl rfl ?_
  refine RunL.sto (Sto.store rfl rfl (.there .here) ty_46 rfl rfl) rfl rfl ?_
  refine RunL.sto (Sto.store rfl rfl .here ty_46 rfl rfl) rfl rfl ?_
  refine st ?_
  refine RunC.freeN (O := Nat) [⟨9, [], [], fun _ => .agg #[.int .i64 30, .int .i64 40], fun _ => []⟩, ⟨10, [0], [], fun _ => .agg #[.int .i64 20, .int .i64 20], fun _ => []⟩, ⟨11, [0, 1], [], fun _ => .agg #[.int .i64 60, .int .i64 70], fun _ => []⟩, ⟨12, [0, 1, 2], [3], fun l => match l with | [b12] => .slice (some ⟨b12, 0, none⟩) 3 3 | _ => undef, fun l => match l with | [b12] => [(b12, .cells [.int .i64 30, .int .i64 40, .int .i64 20, .int .i64 20, .int .i64 60, .int .i64 70].toArray 46 (0, 0))] | _ => []⟩, ⟨13, [], [], fun _ => .agg #[.int .i64 0, .int .i64 0], fun _ => []⟩, ⟨14, [], [], fun _ => .agg #[.int .i64 15, .int .i64 20], fun _ => []⟩, ⟨15, [], [], fun _ => .agg #[.int .i64 45, .int .i64 50], fun _ => []⟩, ⟨16, [4, 5, 6], [7], fun l => match l with | [b16] => .slice (some ⟨b16, 0, none⟩) 3 3 | _ => undef, fun l => match l with | [b16] => [(b16, .cells [.int .i64 0, .int .i64 0, .int .i64 15, .int .i64 20, .int .i64 45, .int .i64 50].toArray 46 (0, 0))] | _ => []⟩, ⟨17, [], [], fun _ => .agg #[.int .i64 15, .int .i64 20], fun _ => []⟩, ⟨18, [], [], fun _ => .agg #[.int .i64 0, .int .i64 0], fun _ => []⟩, ⟨19, [], [], fun _ => .agg #[.int .i64 30, .int .i64 35], fun _ => []⟩, ⟨20, [8, 9, 10], [11], fun l => match l with | [b20] => .slice (some ⟨b20, 0, none⟩) 3 3 | _ => undef, fun l => match l with | [b20] => [(b20, .cells [.int .i64 15, .int .i64 20, .int .i64 0, .int .i64 0, .int .i64 30, .int .i64 35].toArray 46 (0, 0))] | _ => []⟩, ⟨21, [], [], fun _ => .agg #[.int .i64 45, .int .i64 50], fun _ => []⟩, ⟨22, [], [], fun _ => .agg #[.int .i64 30, .int .i64 35], fun _ => []⟩, ⟨23, [], [], fun _ => .agg #[.int .i64 0, .int .i64 0], fun _ => []⟩, ⟨24, [12, 13, 14], [15], fun l => match l with | [b24] => .slice (some ⟨b24, 0, none⟩) 3 3 | _ => undef, fun l => match l with | [b24] => [(b24, .cells [.int .i64 45, .int .i64 50, .int .i64 30, .int .i64 35, .int .i64 0, .int .i64 0].toArray 46 (0, 0))] | _ => []⟩, ⟨25, [4, 5, 6, 7, 8, 9, 10, 11, 12, 13, 14, 15], [7, 11, 15, 16], fun l => match l with | [b16, b20, b24, b25] => .slice (some ⟨b25, 0, none⟩) 3 3 | _ => undef, fun l => match l with | [b16, b20, b24, b25] => [(b25, .cells [.slice (some ⟨b16, 0, none⟩) 3 3, .slice (some ⟨b20, 0, none⟩) 3 3, .slice (some ⟨b24, 0, none⟩) 3 3].toArray 24 (0, 0))] | _ => []⟩, ⟨26, [0, 1, 2], [], fun _ => .agg #[.int .i64 10, .int .i64 15], fun _ => []⟩, ⟨27, [0, 1, 2, 17], [], fun _ => .agg #[.int .i64 20, .int .i64 20], fun _ => []⟩, ⟨28, [0, 1, 2, 17, 18], [], fun _ => .agg #[.int .i64 5, .int .i64 10], fun _ => []⟩, ⟨29, [0, 1, 2, 17, 18, 19], [20], fun l => match l with | [b29] => .slice (some ⟨b29, 0, none⟩) 3 3 | _ => undef, fun l => match l with | [b29] => [(b29, .cells [.int .i64 10, .int .i64 15, .int .i64 20, .int .i64 20, .int .i64 5, .int .i64 10].toArray 46 (0, 0))] | _ => []⟩, ⟨30, [0, 1, 2, 17, 18, 19], [], fun _ => .agg #[.int .i64 420, .int .i64 480], fun _ => []⟩, ⟨31, [0, 1, 2, 17, 18, 19, 21], [], fun _ => .agg #[.int .i64 380, .int .i64 600], fun _ => []⟩, ⟨32, [0, 1, 2, 17, 18, 19, 21, 22], [], fun _ => .agg #[.int .i64 500, .int .i64 540], fun _ => []⟩, ⟨33, [0, 1, 2, 17, 18, 19, 21, 22, 23], [24], fun l => match l with | [b33] => .slice (some ⟨b33, 0, none⟩) 3 3 | _ => undef, fun l => match l with | [b33] => [(b33, .cells [.int .i64 420, .int .i64 480, .int .i64 380, .int .i64 600, .int .i64 500, .int .i64 540].toArray 46 (0, 0))] | _ => []⟩] 27 25 2 fol_ (by kernel_rfl) (by rfl) rfl rfl rfl ?_ ?_
  ·refine AllOk.cons (fun x => ?_) ?_
   ·show OpOk _ _ _ _ _ (_) (_) 0 9 (fun _ => .agg #[.int .i64 30, .int .i64 40]) (fun _ => [])
    exact OpOk.callP rfl (isCall_func rfl ent_24) rfl rfl (fun w hm => lspan_calls _ _ w)
   refine AllOk.cons (fun x => ?_) ?_
   ·show OpOk _ _ _ _ _ ((9, .agg #[.int .i64 30, .int .i64 40]) :: _) (_) 1 10 (fun _ => .agg #[.int .i64 20, .int .i64 20]) (fun _ => [])
    exact OpOk.callP rfl (isCall_func rfl ent_24) rfl rfl (fun w hm => lspan_calls _ _ w)
   refine AllOk.cons (fun x => ?_) ?_
   ·show OpOk _ _ _ _ _ ((9, .agg #[.int .i64 30, .int .i64 40]) :: (10, .agg #[.int .i64 20, .int .i64 20]) :: _) (_) 2 11 (fun _ => .agg #[.int .i64 60, .int .i64 70]) (fun _ => [])
    exact OpOk.callP rfl (isCall_func rfl ent_24) rfl rfl (fun w hm => lspan_calls _ _ w)
   refine AllOk.cons (fun x => ?_) ?_
   ·show OpOk _ _ _ _ _ ((9, .agg #[.int .i64 30, .int .i64 40]) :: (10, .agg #[.int .i64 20, .int .i64 20]) :: (11, .agg #[.int .i64 60, .int .i64 70]) :: _) (_) 3 12 (fun b12 => .slice (some ⟨b12, 0, none⟩) 3 3) (fun b12 => [(b12, .cells [.int .i64 30, .int .i64 40, .int .i64 20, .int .i64 20, .int .i64 60, .int .i64 70].toArray 46 (0, 0))])
    exact OpOk.new rfl (New.buildSlice (parts := [(0, .tmp 9), (1, .tmp 10), (2, .tmp 11)]) rfl sl_24 zero_46 rfl rfl rfl rfl) rfl rfl
   refine AllOk.cons (fun x => ?_) ?_
   ·show OpOk _ _ _ _ _ (_) (_) 4 13 (fun _ => .agg #[.int .i64 0, .int .i64 0]) (fun _ => [])
    exact OpOk.val rfl (Val.load_agg rfl (.head _) ty_46 rfl) rfl rfl
   refine AllOk.cons (fun x => ?_) ?_
   ·show OpOk _ _ _ _ _ (_) (_) 5 14 (fun _ => .agg #[.int .i64 15, .int .i64 20]) (fun _ => [])
    exact OpOk.val rfl (Val.load_agg rfl (.tail _ (.tail _ (.tail _ (.head _)))) ty_46 rfl) rfl rfl
   refine AllOk.cons (fun x => ?_) ?_
   ·show OpOk _ _ _ _ _ (_) (_) 6 15 (fun _ => .agg #[.int .i64 45, .int .i64 50]) (fun _ => [])
    exact OpOk.val rfl (Val.load_agg rfl (.tail _ (.tail _ (.head _))) ty_46 rfl) rfl rfl
   refine AllOk.cons (fun x => ?_) ?_
   ·show OpOk _ _ _ _ _ ((13, .agg #[.int .i64 0, .int .i64 0]) :: (14, .agg #[.int .i64 15, .int .i64 20]) :: (15, .agg #[.int .i64 45, .int .i64 50]) :: _) (_) 7 16 (fun b16 => .slice (some ⟨b16, 0, none⟩) 3 3) (fun b16 => [(b16, .cells [.int .i64 0, .int .i64 0, .int .i64 15, .int .i64 20, .int .i64 45, .int .i64 50].toArray 46 (0, 0))])
    exact OpOk.new rfl (New.buildSlice (parts := [(0, .tmp 13), (1, .tmp 14), (2, .tmp 15)]) rfl sl_24 zero_46 rfl rfl rfl rfl) rfl rfl
   refine AllOk.cons (fun x => ?_) ?_
   ·show OpOk _ _ _ _ _ (_) (_) 8 17 (fun _ => .agg #[.int .i64 15, .int .i64 20]) (fun _ => [])
    exact OpOk.val rfl (Val.load_agg rfl (.tail _ (.tail _ (.tail _ (.head _)))) ty_46 rfl) rfl rfl
   refine AllOk.cons (fun x => ?_) ?_
   ·show OpOk _ _ _ _ _ (_) (_) 9 18 (fun _ => .agg #[.int .i64 0, .int .i64 0]) (fun _ => [])
    exact OpOk.val rfl (Val.load_agg rfl (.head _) ty_46 rfl) rfl rfl
   refine AllOk.cons (fun x => ?_) ?_
   ·show OpOk _ _ _ _ _ (_) (_) 10 19 (fun _ => .agg #[.int .i64 30, .int .i64 35]) (fun _ => [])
    exact OpOk.val rfl (Val.load_agg rfl (.tail _ (.head _)) ty_46 rfl) rfl rfl
   refine AllOk.cons (fun x => ?_) ?_
   ·show OpOk _ _ _ _ _ ((17, .agg #[.int .i64 15, .int .i64 20]) :: (18, .agg #[.int .i64 0, .int .i64 0]) :: (19, .agg #[.int .i64 30, .int .i64 35]) :: _) (_) 11 20 (fun b20 => .slice (some ⟨b20, 0, none⟩) 3 3) (fun b20 => [(b20, .cells [.int .i64 15, .int .i64 20, .int .i64 0, .int .i64 0, .int .i64 30, .int .i64 35].toArray 46 (0, 0))])
    exact OpOk.new rfl (New.buildSlice (parts := [(0, .tmp 17), (1, .tmp 18), (2, .tmp 19)]) rfl sl_24 zero_46 rfl rfl rfl rfl) rfl rfl
   refine AllOk.cons (fun x => ?_) ?_
   ·show OpOk _ _ _ _ _ (_) (_) 12 21 (fun _ => .agg #[.int .i64 45, .int .i64 50]) (fun _ => [])
    exact OpOk.val rfl (Val.load_agg rfl (.tail _ (.tail _ (.head _))) ty_46 rfl) rfl rfl
   refine AllOk.cons (fun x => ?_) ?_
   ·show OpOk _ _ _ _ _ (_) (_) 13 22 (fun _ => .agg #[.int .i64 30, .int .i64 35]) (fun _ => [])
    exact OpOk.val rfl (Val.load_agg rfl (.tail _ (.head _)) ty_46 rfl) rfl rfl
   refine AllOk.cons (fun x => ?_) ?_
   ·show OpOk _ _ _ _ _ (_) (_) 14 23 (fun _ => .agg #[.int .i64 0, .int .i64 0]) (fun _ => [])
    exact OpOk.val rfl (Val.load_agg rfl (.head _) ty_46 rfl) rfl rfl
   refine AllOk.cons (fun x => ?_) ?_
   ·show OpOk _ _ _ _ _ ((21, .agg #[.int .i64 45, .int .i64 50]) :: (22, .agg #[.int .i64 30, .int .i64 35]) :: (23, .agg #[.int .i64 0, .int .i64 0]) :: _) (_) 15 24 (fun b24 => .slice (some ⟨b24, 0, none⟩) 3 3) (fun b24 => [(b24, .cells [.int .i64 45, .int .i64 50, .int .i64 30, .int .i64 35, .int .i64 0, .int .i64 0].toArray 46 (0, 0))])
    exact OpOk.new rfl (New.buildSlice (parts := [(0, .tmp 21), (1, .tmp 22), (2, .tmp 23)]) rfl sl_24 zero_46 rfl rfl rfl rfl) rfl rfl
   refine AllOk.cons (fun x => ?_) ?_
   ·show OpOk _ _ _ _ _ ((13, .agg #[.int .i64 0, .int .i64 0]) :: (14, .agg #[.int .i64 15, .int .i64 20]) :: (15, .agg #[.int .i64 45, .int .i64 50]) :: (16, .slice (some ⟨(x 7), 0, none⟩) 3 3) :: (17, .agg #[.int .i64 15, .int .i64 20]) :: (18, .agg #[.int .i64 0, .int .i64 0]) :: (19, .agg #[.int .i64 30, .int .i64 35]) :: (20, .slice (some ⟨(x 11), 0, none⟩) 3 3) :: (21, .agg #[.int .i64 45, .int .i64 50]) :: (22, .agg #[.int .i64 30, .int .i64 35]) :: (23, .agg #[.int .i64 0, .int .i64 0]) :: (24, .slice (some ⟨(x 15), 0, none⟩) 3 3) :: _) (((x 7), .cells [.int .i64 0, .int .i64 0, .int .i64 15, .int .i64 20, .int .i64 45, .int .i64 50].toArray 46 (0, 0)) :: ((x 11), .cells [.int .i64 15, .int .i64 20, .int .i64 0, .int .i64 0, .int .i64 30, .int .i64 35].toArray 46 (0, 0)) :: ((x 15), .cells [.int .i64 45, .int .i64 50, .int .i64 30, .int .i64 35, .int .i64 0, .int .i64 0].toArray 46 (0, 0)) :: _) 16 25 (fun b25 => .slice (some ⟨b25, 0, none⟩) 3 3) (fun b25 => [(b25, .cells [.slice (some ⟨(x 7), 0, none⟩) 3 3, .slice (some ⟨(x 11), 0, none⟩) 3 3, .slice (some ⟨(x 15), 0, none⟩) 3 3].toArray 24 (0, 0))])
    generalize x 7 = b16
    generalize x 11 = b20
    generalize x 15 = b24
    exact OpOk.new rfl (New.buildSlice (parts := [(0, .tmp 16), (1, .tmp 20), (2, .tmp 24)]) rfl sl_25 zero_24 rfl rfl rfl rfl) rfl rfl
   refine AllOk.cons (fun x => ?_) ?_
   ·show OpOk _ _ _ _ _ ((9, .agg #[.int .i64 30, .int .i64 40]) :: (10, .agg #[.int .i64 20, .int .i64 20]) :: (11, .agg #[.int .i64 60, .int .i64 70]) :: _) (_) 17 26 (fun _ => .agg #[.int .i64 10, .int .i64 15]) (fun _ => [])
    exact OpOk.callP rfl (isCall_func rfl ent_24) rfl rfl (fun w hm => lspan_calls _ _ w)
   refine AllOk.cons (fun x => ?_) ?_
   ·show OpOk _ _ _ _ _ ((9, .agg #[.int .i64 30, .int .i64 40]) :: (10, .agg #[.int .i64 20, .int .i64 20]) :: (11, .agg #[.int .i64 60, .int .i64 70]) :: (26, .agg #[.int .i64 10, .int .i64 15]) :: _) (_) 18 27 (fun _ => .agg #[.int .i64 20, .int .i64 20]) (fun _ => [])
    exact OpOk.callP rfl (isCall_func rfl ent_24) rfl rfl (fun w hm => lspan_calls _ _ w)
   refine AllOk.cons (fun x => ?_) ?_
   ·show OpOk _ _ _ _ _ ((9, .agg #[.int .i64 30, .int .i64 40]) :: (10, .agg #[.int .i64 20, .int .i64 20]) :: (11, .agg #[.int .i64 60, .int .i64 70]) :: (26, .agg #[.int .i64 10, .int .i64 15]) :: (27, .agg #[.int .i64 20, .int .i64 20]) :: _) (_) 19 28 (fun _ => .agg #[.int .i64 5, .int .i64 10]) (fun _ => [])
    exact OpOk.callP rfl (isCall_func rfl ent_24) rfl rfl (fun w hm => lspan_calls _ _ w)
   refine AllOk.cons (fun x => ?_) ?_
   ·show OpOk _ _ _ _ _ ((9, .agg #[.int .i64 30, .int .i64 40]) :: (10, .agg #[.int .i64 20, .int .i64 20]) :: (11, .agg #[.int .i64 60, .int .i64 70]) :: (26, .agg #[.int .i64 10, .int .i64 15]) :: (27, .agg #[.int .i64 20, .int .i64 20]) :: (28, .agg #[.int .i64 5, .int .i64 10]) :: _) (_) 20 29 (fun b29 => .slice (some ⟨b29, 0, none⟩) 3 3) (fun b29 => [(b29, .cells [.int .i64 10, .int .i64 15, .int .i64 20, .int .i64 20, .int .i64 5, .int .i64 10].toArray 46 (0, 0))])
    exact OpOk.new rfl (New.buildSlice (parts := [(0, .tmp 26), (1, .tmp 27), (2, .tmp 28)]) rfl sl_24 zero_46 rfl rfl rfl rfl) rfl rfl
   refine AllOk.cons (fun x => ?_) ?_
   ·show OpOk _ _ _ _ _ ((9, .agg #[.int .i64 30, .int .i64 40]) :: (10, .agg #[.int .i64 20, .int .i64 20]) :: (11, .agg #[.int .i64 60, .int .i64 70]) :: (26, .agg #[.int .i64 10, .int .i64 15]) :: (27, .agg #[.int .i64 20, .int .i64 20]) :: (28, .agg #[.int .i64 5, .int .i64 10]) :: _) (_) 21 30 (fun _ => .agg #[.int .i64 420, .int .i64 480]) (fun _ => [])
    exact OpOk.callP rfl (isCall_func rfl ent_24) rfl rfl (fun w hm => lspan_calls _ _ w)
   refine AllOk.cons (fun x => ?_) ?_
   ·show OpOk _ _ _ _ _ ((9, .agg #[.int .i64 30, .int .i64 40]) :: (10, .agg #[.int .i64 20, .int .i64 20]) :: (11, .agg #[.int .i64 60, .int .i64 70]) :: (26, .agg #[.int .i64 10, .int .i64 15]) :: (27, .agg #[.int .i64 20, .int .i64 20]) :: (28, .agg #[.int .i64 5, .int .i64 10]) :: (30, .agg #[.int .i64 420, .int .i64 480]) :: _) (_) 22 31 (fun _ => .agg #[.int .i64 380, .int .i64 600]) (fun _ => [])
    exact OpOk.callP rfl (isCall_func rfl ent_24) rfl rfl (fun w hm => lspan_calls _ _ w)
   refine AllOk.cons (fun x => ?_) ?_
   ·show OpOk _ _ _ _ _ ((9, .agg #[.int .i64 30, .int .i64 40]) :: (10, .agg #[.int .i64 20, .int .i64 20]) :: (11, .agg #[.int .i64 60, .int .i64 70]) :: (26, .agg #[.int .i64 10, .int .i64 15]) :: (27, .agg #[.int .i64 20, .int .i64 20]) :: (28, .agg #[.int .i64 5, .int .i64 10]) :: (30, .agg #[.int .i64 420, .int .i64 480]) :: (31, .agg #[.int .i64 380, .int .i64 600]) :: _) (_) 23 32 (fun _ => .agg #[.int .i64 500, .int .i64 540]) (fun _ => [])
    exact OpOk.callP rfl (isCall_func rfl ent_24) rfl rfl (fun w hm => lspan_calls _ _ w)
   refine AllOk.cons (fun x => ?_) ?_
   ·show OpOk _ _ _ _ _ ((9, .agg #[.int .i64 30, .int .i64 40]) :: (10, .agg #[.int .i64 20, .int .i64 20]) :: (11, .agg #[.int .i64 60, .int .i64 70]) :: (26, .agg #[.int .i64 10, .int .i64 15]) :: (27, .agg #[.int .i64 20, .int .i64 20]) :: (28, .agg #[.int .i64 5, .int .i64 10]) :: (30, .agg #[.int .i64 420, .int .i64 480]) :: (31, .agg #[.int .i64 380, .int .i64 600]) :: (32, .agg #[.int .i64 500, .int .i64 540]) :: _) (_) 24 33 (fun b33 => .slice (some ⟨b33, 0, none⟩) 3 3) (fun b33 => [(b33, .cells [.int .i64 420, .int .i64 480, .int .i64 380, .int .i64 600, .int .i64 500, .int .i64 540].toArray 46 (0, 0))])
    exact OpOk.new rfl (New.buildSlice (parts := [(0, .tmp 30), (1, .tmp 31), (2, .tmp 32)]) rfl sl_24 zero_46 rfl rfl rfl rfl) rfl rfl
   exact AllOk.nil
  intro x
  show RunB _ _ _ _ 2 (listedK 25 27) ((9, .agg #[.int .i64 30, .int .i64 40]) :: (10, .agg #[.int .i64 20, .int .i64 20]) :: (11, .agg #[.int .i64 60, .int .i64 70]) :: (12, .slice (some ⟨(x 3), 0, none⟩) 3 3) :: (13, .agg #[.int .i64 0, .int .i64 0]) :: (14, .agg #[.int .i64 15, .int .i64 20]) :: (15, .agg #[.int .i64 45, .int .i64 50]) :: (16, .slice (some ⟨(x 7), 0, none⟩) 3 3) :: (17, .agg #[.int .i64 15, .int .i64 20]) :: (18, .agg #[.int .i64 0, .int .i64 0]) :: (19, .agg #[.int .i64 30, .int .i64 35]) :: (20, .slice (some ⟨(x 11), 0, none⟩) 3 3) :: (21, .agg #[.int .i64 45, .int .i64 50]) :: (22, .agg #[.int .i64 30, .int .i64 35]) :: (23, .agg #[.int .i64 0, .int .i64 0]) :: (24, .slice (some ⟨(x 15), 0, none⟩) 3 3) :: (25, .slice (some ⟨(x 16), 0, none⟩) 3 3) :: (26, .agg #[.int .i64 10, .int .i64 15]) :: (27, .agg #[.int .i64 20, .int .i64 20]) :: (28, .agg #[.int .i64 5, .int .i64 10]) :: (29, .slice (some ⟨(x 20), 0, none⟩) 3 3) :: (30, .agg #[.int .i64 420, .int .i64 480]) :: (31, .agg #[.int .i64 380, .int .i64 600]) :: (32, .agg #[.int .i64 500, .int .i64 540]) :: (33, .slice (some ⟨(x 24), 0, none⟩) 3 3) :: _) _ _ _ (((x 3), .cells [.int .i64 30, .int .i64 40, .int .i64 20, .int .i64 20, .int .i64 60, .int .i64 70].toArray 46 (0, 0)) :: ((x 7), .cells [.int .i64 0, .int .i64 0, .int .i64 15, .int .i64 20, .int .i64 45, .int .i64 50].toArray 46 (0, 0)) :: ((x 11), .cells [.int .i64 15, .int .i64 20, .int .i64 0, .int .i64 0, .int .i64 30, .int .i64 35].toArray 46 (0, 0)) :: ((x 15), .cells [.int .i64 45, .int .i64 50, .int .i64 30, .int .i64 35, .int .i64 0, .int .i64 0].toArray 46 (0, 0)) :: ((x 16), .cells [.slice (some ⟨(x 7), 0, none⟩) 3 3, .slice (some ⟨(x 11), 0, none⟩) 3 3, .slice (some ⟨(x 15), 0, none⟩) 3 3].toArray 24 (0, 0)) :: ((x 20), .cells [.int .i64 10, .int .i64 15, .int .i64 20, .int .i64 20, .int .i64 5, .int .i64 10].toArray 46 (0, 0)) :: ((x 24), .cells [.int .i64 420, .int .i64 480, .int .i64 380, .int .i64 600, .int .i64 500, .int .i64 540].toArray 46 (0, 0)) :: (b4, _) :: (b3, _) :: (b2, _) :: (b1, _) :: (b0, _) :: _)
  generalize x 3 = b12
  generalize x 7 = b16
  generalize x 11 = b20
  generalize x 15 = b24
  generalize x 16 = b25
  generalize x 20 = b29
  generalize x 24 = b33
  refine RunB.one (i := 25) (by kernel_rfl) ?_
  refine RunI.val rfl (Val.build (parts := [(0, .const (.int .i64 360)), (1, .tmp 12), (2, .tmp 25), (3, .tmp 29), (4, .tmp 33)]) rfl zero_27 places_27 rfl) rfl rfl rfl (RunK.toB ?_)
  refine RunB.one (i := 26) (by kernel_rfl) ?_
  refine RunI.sto rfl (Sto.store rfl rfl (.there (.there (.there (.there (.there (.there (.there (.there (.there (.there (.there .here))))))))))) ty_27 rfl rfl) rfl rfl (RunK.toB ?_)
  refine RunB.done (by kernel_rfl) ?_
  refine st ?_
  refine RunC.ret ?_
  exact RunE.ret (chg := []) (.r1 rfl (.agg rfl (.tail _ (.tail _ (.tail _ (.tail _ (.tail _ (.tail _ (.tail _ (.tail _ (.tail _ (.tail _ (.tail _ (.head _)))))))))))) ty_27 rfl)) (fun _ hm => ⟨⟨b12, b16, b20, b24, b25, b29, b33⟩, rfl, hm.pick (.cons .here rfl (.cons .here rfl (.cons .here rfl (.cons .here rfl (.cons .here rfl (.cons .here rfl (.cons .here rfl .nil)))))))⟩)
structure ExC where
  a : Nat
  b : Nat
def exCA (z : ExC) : CbA := ⟨4, atB exC.homes z.a, 1, atB exC.loans z.b⟩
def exCB (z : ExC) : Blks := [(z.a, cO (exC.homes.map intC).flatten 3), (z.b, cO (exC.loans.map Ln.cells).flatten 74)]
theorem exCA_pl (z : ExC) : (exCA z).pl = exC := rfl
theorem exCA_ok {z : ExC} {w W : World} {tl : Blks} (hm : Mem W [] (exCB z ++ tl) w) : CbOk w (exCA z) := by
  have h : ∀ b o, (b, o) ∈ exCB z → w.heap[b]? = some o := fun b o hb => hm.at (List.mem_append_right _ (List.mem_append_left _ hb))
  exact ⟨cO_ok _ (h _ _ (.head _)) (fun _ => rfl), cO_ok _ (h _ _ (.tail _ (.head _))) (fun _ => rfl)⟩
theorem exCA_s (z : ExC) : CbS (exCA z) := ⟨by show (3 : Nat) ≤ _; decide, by show (5 : Nat) ≤ _; decide⟩
theorem cabinet_calls (W : World) : Calls Tryz.prog 29 #[] W (News (fun z : ExC => (exCA z).v) exCB W) := by
  refine calls_start Tryz.func29 rfl rfl ?_
  refine st ?_
  refine RunL.new (New.alloc zero_34) rfl rfl rfl (fun b0 => ?_)
  refine st ?_
  refine RunL.new (New.buildSlice (parts := [(0, .const (.int .i64 0)), (1, .const (.int .i64 1)), (2, .const (.int .i64 2))]) rfl sl_31 zero_3 rfl rfl rfl rfl) rfl rfl rfl (fun b1 => ?_)
  refine lv (Val.build (parts := [(1, .const (.int .i64 0)), (2, .const (.int .i64 0))]) rfl zero_74 places_74 rfl) ?_
  refine lv (Val.build (parts := [(1, .const (.int .i64 1)), (2, .const (.int .i64 1))]) rfl zero_74 places_74 rfl) ?_
  refine lv (Val.build (parts := [(0, .const (.int .i64 1)), (1, .const (.int .i64 0)), (2, .const (.int .i64 0))]) rfl zero_74 places_74 rfl) ?_
  refine lv (Val.build (parts := [(0, .const (.int .i64 1)), (1, .const (.int .i64 1)), (2, .const (.int .i64 1))]) rfl zero_74 places_74 rfl) ?_
  refine lv (Val.build (parts := [(0, .const (.int .i64 2)), (1, .const (.int .i64 0)), (3, .const (.int .i64 1))]) rfl zero_74 places_74 rfl) ?_
  refine RunL.new (New.buildSlice (parts := [(0, .tmp 2), (1, .tmp 3), (2, .tmp 4), (3, .tmp 5), (4, .tmp 6)]) rfl sl_32 zero_74 rfl rfl rfl rfl) rfl rfl rfl (fun b7 => ?_)
  refine lv (Val.build (parts := [(0, .const (.int .i64 4)), (1, .tmp 1), (2, .const (.int .i64 1)), (3, .tmp 7)]) rfl zero_34 places_34 rfl) ?_
  refine RunL.sto (Sto.store rfl rfl (.there (.there .here)) ty_34 rfl rfl) rfl rfl ?_
  refine st ?_
  refine RunC.ret ?_
  exact RunE.ret (chg := []) (.r1 rfl (.agg rfl (.tail _ (.tail _ (.head _))) ty_34 rfl)) (fun _ hm => ⟨⟨b1, b7⟩, rfl, hm.pick (.cons (.there .here) rfl (.cons .here rfl .nil))⟩)
structure ExR where
  a : Nat
  b : Nat
  c : Nat
  d : Nat
  e : Nat
  f : Nat
def exRA (z : ExR) : RyA := ⟨atB exR.terms z.a, atB exR.prices z.b, atB [atB [334, 333, 333] z.c] z.d, atB exR.reports z.e, atB exR.paid z.f⟩
def exRB (z : ExR) : Blks := [(z.a, cO (exR.terms.map Tm.cells).flatten 124), (z.b, cO (exR.prices.map intC).flatten 3), (z.c, cO (([334, 333, 333] : List Int).map intC).flatten 3), (z.d, cO (([atB [334, 333, 333] z.c] : List (SA Int)).map SA.cell).flatten 31), (z.e, cO (exR.reports.map Rp.cells).flatten 76), (z.f, cO (exR.paid.map intC).flatten 3)]
theorem exRA_pl (z : ExR) : (exRA z).pl = exR := rfl
theorem exRA_ok {z : ExR} {w W : World} {tl : Blks} (hm : Mem W [] (exRB z ++ tl) w) : RyOk w (exRA z) := by
  have h : ∀ b o, (b, o) ∈ exRB z → w.heap[b]? = some o := fun b o hb => hm.at (List.mem_append_right _ (List.mem_append_left _ hb))
  refine ⟨cO_ok _ (h _ _ (.head _)) (fun _ => rfl), cO_ok _ (h _ _ (.tail _ (.head _))) (fun _ => rfl), cO_ok _ (h _ _ (.tail _ (.tail _ (.tail _ (.head _))))) (fun _ => rfl), fun x hx => ?_, cO_ok _ (h _ _ (.tail _ (.tail _ (.tail _ (.tail _ (.head _)))))) (fun _ => rfl), cO_ok _ (h _ _ (.tail _ (.tail _ (.tail _ (.tail _ (.tail _ (.head _))))))) (fun _ => rfl)⟩
  simp only [exRA, List.mem_cons, List.not_mem_nil, or_false] at hx
  subst hx
  exact cO_ok _ (h _ _ (.tail _ (.tail _ (.head _)))) (fun _ => rfl)
theorem exRA_sm (z : ExR) : RySm (exRA z) := ⟨by show (2 : Nat) ≤ _; decide, by show (1 : Nat) ≤ _; decide, by show (1 : Nat) ≤ _; decide, fun x hx => by
  simp only [exRA, List.mem_cons, List.not_mem_nil, or_false] at hx
  subst hx
  show (3 : Nat) ≤ _; decide, by show (2 : Nat) ≤ _; decide, by show (2 : Nat) ≤ _; decide⟩
theorem royal_calls (W : World) : Calls Tryz.prog 30 #[] W (News (fun z : ExR => (exRA z).v) exRB W) := by
  refine calls_start Tryz.func30 rfl rfl ?_
  refine st ?_
  refine RunL.new (New.alloc zero_41) rfl rfl rfl (fun b0 => ?_)
  refine st ?_
  refine lv (Val.build (parts := [(0, .const (.int .i64 20)), (1, .const (.int .i64 3)), (2, .const (.int .i64 30))]) rfl zero_124 places_124 rfl) ?_
  refine lv (Val.build (parts := [(0, .const (.int .i64 25)), (1, .const (.int .i64 12)), (2, .const (.int .i64 25))]) rfl zero_124 places_124 rfl) ?_
  refine RunL.new (New.buildSlice (parts := [(0, .tmp 1), (1, .tmp 2)]) rfl sl_37 zero_124 rfl rfl rfl rfl) rfl rfl rfl (fun b3 => ?_)
  refine RunL.new (New.buildSlice (parts := [(0, .const (.int .i64 99))]) rfl sl_31 zero_3 rfl rfl rfl rfl) rfl rfl rfl (fun b4 => ?_)
  refine RunL.new (New.buildSlice (parts := [(0, .const (.int .i64 334)), (1, .const (.int .i64 333)), (2, .const (.int .i64 333))]) rfl sl_31 zero_3 rfl rfl rfl rfl) rfl rfl rfl (fun b5 => ?_)
  refine RunL.new (New.buildSlice (parts := [(0, .tmp 5)]) rfl sl_38 zero_31 rfl rfl rfl rfl) rfl rfl rfl (fun b6 => ?_)
  refine lv (Val.build (parts := [(0, .const (.int .i64 0)), (2, .const (.int .i64 0)), (3, .const (.int .i64 5))]) rfl zero_76 places_76 rfl) ?_
  refine lv (Val.build (parts := [(0, .const (.int .i64 1)), (2, .const (.int .i64 4)), (3, .const (.int .i64 7))]) rfl zero_76 places_76 rfl) ?_
  refine RunL.new (New.buildSlice (parts := [(0, .tmp 7), (1, .tmp 8)]) rfl sl_39 zero_76 rfl rfl rfl rfl) rfl rfl rfl (fun b9 => ?_)
  refine RunL.new (New.buildSlice (parts := [(0, .const (.int .i64 0)), (1, .const (.int .i64 0))]) rfl sl_31 zero_3 rfl rfl rfl rfl) rfl rfl rfl (fun b10 => ?_)
  refine lv (Val.build (parts := [(0, .tmp 3), (1, .tmp 4), (2, .tmp 6), (3, .tmp 9), (4, .tmp 10)]) rfl zero_41 places_41 rfl) ?_
  refine RunL.sto (Sto.store rfl rfl (.there (.there (.there (.there (.there (.there .here)))))) ty_41 rfl rfl) rfl rfl ?_
  refine st ?_
  refine RunC.ret ?_
  exact RunE.ret (chg := []) (.r1 rfl (.agg rfl (.tail _ (.tail _ (.tail _ (.tail _ (.tail _ (.tail _ (.head _))))))) ty_41 rfl)) (fun _ hm => ⟨⟨b3, b4, b5, b6, b9, b10⟩, rfl, hm.pick (.cons (.there (.there (.there (.there (.there .here))))) rfl (.cons (.there (.there (.there (.there .here)))) rfl (.cons (.there (.there (.there .here))) rfl (.cons (.there (.there .here)) rfl (.cons (.there .here) rfl (.cons .here rfl .nil))))))⟩)
def exPA (z : Nat) : PsA := ⟨atB exP.cards z, exP.less, exP.loss⟩
def exPB (z : Nat) : Blks := [(z, cO (exP.cards.map Pt.cells).flatten 69)]
theorem exPA_pl (z : Nat) : (exPA z).pl = exP := rfl
theorem exPA_ok {z : Nat} {w W : World} {tl : Blks} (hm : Mem W [] (exPB z ++ tl) w) : (exPA z).cards.ok Pt.cells 5 w := by
  have h : ∀ b o, (b, o) ∈ exPB z → w.heap[b]? = some o := fun b o hb => hm.at (List.mem_append_right _ (List.mem_append_left _ hb))
  exact cO_ok _ (h _ _ (.head _)) (fun _ => rfl)
theorem prints_calls (W : World) : Calls Tryz.prog 31 #[] W (News (fun z : Nat => (exPA z).v) exPB W) := by
  refine calls_start Tryz.func31 rfl rfl ?_
  refine st ?_
  refine RunL.new (New.alloc zero_48) rfl rfl rfl (fun b0 => ?_)
  refine st ?_
  refine RunL.callP (isCall_func rfl ent_24) rfl rfl rfl (fun w hm => lspan_calls _ _ w) ?_
  refine RunL.callP (isCall_func rfl ent_24) rfl rfl rfl (fun w hm => lspan_calls _ _ w) ?_
  refine lv (Val.build (parts := [(0, .tmp 1), (1, .tmp 2)]) rfl zero_69 places_69 rfl) ?_
  refine RunL.new (New.buildSlice (parts := [(0, .tmp 3)]) rfl sl_44 zero_69 rfl rfl rfl rfl) rfl rfl rfl (fun b4 => ?_)
  refine RunL.callP (isCall_func rfl ent_24) rfl rfl rfl (fun w hm => lspan_calls _ _ w) ?_
  refine RunL.callP (isCall_func rfl ent_24) rfl rfl rfl (fun w hm => lspan_calls _ _ w) ?_
  refine lv (Val.build (parts := [(0, .tmp 4), (1, .tmp 5), (2, .tmp 6)]) rfl zero_48 places_48 rfl) ?_
  refine RunL.sto (Sto.store rfl rfl (.there .here) ty_48 rfl rfl) rfl rfl ?_
  refine st ?_
  refine RunC.ret ?_
  exact RunE.ret (chg := []) (.r1 rfl (.agg rfl (.tail _ (.head _)) ty_48 rfl)) (fun _ hm => ⟨b4, rfl, hm.pick (.cons .here rfl .nil)⟩)
end Go.Proofs.YtleamcmljcdapabGreatDoor
namespace Go.Proofs.YtleamcmljcdapabGreatDoor
open Go Go.Eng
theorem ent_10 : Enters Tryz.prog 10 := enters_of Tryz.func10 (by kernel_rfl) rfl
theorem ent_11 : Enters Tryz.prog 11 := enters_of Tryz.func11 (by kernel_rfl) rfl
theorem ent_12 : Enters Tryz.prog 12 := enters_of Tryz.func12 (by kernel_rfl) rfl
theorem ent_13 : Enters Tryz.prog 13 := enters_of Tryz.func13 (by kernel_rfl) rfl
theorem ent_14 : Enters Tryz.prog 14 := enters_of Tryz.func14 (by kernel_rfl) rfl
theorem ent_15 : Enters Tryz.prog 15 := enters_of Tryz.func15 (by kernel_rfl) rfl
theorem ent_16 : Enters Tryz.prog 16 := enters_of Tryz.func16 (by kernel_rfl) rfl
theorem ent_17 : Enters Tryz.prog 17 := enters_of Tryz.func17 (by kernel_rfl) rfl
theorem ent_18 : Enters Tryz.prog 18 := enters_of Tryz.func18 (by kernel_rfl) rfl
theorem ent_19 : Enters Tryz.prog 19 := enters_of Tryz.func19 (by kernel_rfl) rfl
theorem ent_20 : Enters Tryz.prog 20 := enters_of Tryz.func20 (by kernel_rfl) rfl
theorem ent_21 : Enters Tryz.prog 21 := enters_of Tryz.func21 (by kernel_rfl) rfl
theorem ent_28 : Enters Tryz.prog 28 := enters_of Tryz.func28 (by kernel_rfl) rfl
theorem ent_29 : Enters Tryz.prog 29 := enters_of Tryz.func29 (by kernel_rfl) rfl
theorem ent_30 : Enters Tryz.prog 30 := enters_of Tryz.func30 (by kernel_rfl) rfl
theorem ent_31 : Enters Tryz.prog 31 := enters_of Tryz.func31 (by kernel_rfl) rfl
theorem ent_9 : Enters Tryz.prog 9 := enters_of Tryz.func9 (by kernel_rfl) rfl
end Go.Proofs.YtleamcmljcdapabGreatDoor
namespace Go.Bk
open Go Go.Eng Go.RowKit
theorem grow_news {β : Type} {P : Program} {f : FuncId} {args : Array Value} {w : World} {v : β → Value} {nw : β → Blks} {I : β → Prop} (h : Calls P f args w (Grow w [] v nw I)) : Calls P f args w (News (fun z : { b // I b } => v z.1) (fun z => nw z.1) w) :=
  calls_mono h (by rintro e w' ⟨b, h1, h2, h3⟩; exact ⟨⟨b, h1⟩, h2, h3⟩)
theorem rd_ok {α β : Type} {x : Except Int α} {pl : β → α} {ok : β → Prop} {z0 z : β} {e : Int} {t : α} (h : RdX x pl ok z0 (z, e)) (hx : x = .ok t) : pl z = t ∧ e = 0 ∧ ok z := by
  rcases h with ⟨t', h1, h2, h3, h4⟩ | ⟨k, h1, _⟩
  · rw [hx] at h1; cases h1; exact ⟨h2, h3, h4⟩
  · rw [hx] at h1; cases h1
end Go.Bk
namespace Go.Proofs.YtleamcmljcdapabGreatDoor
open Go Go.Eng Go.Bk Go.RowKit

theorem wT (z : ExT) : writeV (tourX (exTA z).pl) (tourS (exTA z).pl) = .tuple #[.string (bs exTS), .int .i64 0] := by rw [exTA_pl, ← exT_text]; rfl
theorem wC (z : ExC) : writeV (cabX (exCA z).pl) (cabS (exCA z).pl) = .tuple #[.string (bs exCS), .int .i64 0] := by rw [exCA_pl, ← exC_text]; rfl
theorem wR (z : ExR) : writeV (royalX (exRA z).pl) (royalS (exRA z).pl) = .tuple #[.string (bs exRS), .int .i64 0] := by rw [exRA_pl, ← exR_text]; rfl
/-- What is read is compared with something. -/
theorem sameTX_calls (x : TrX) (h : TrXOk 10000 x) (u : TrA) (hs : TrSm u) (tl : Blks) (W0 w : World) (hm : Mem W0 [] (trB x ++ tl) w) (hU : TrOk w u) : Calls Tryz.prog 14 #[.agg x.cells.toArray, u.v] w (Pure (.bool (decide (x.pl = u.pl))) w) := by
  have h1 := rsameTour_calls x.toA u (h.sm (Nat.le_refl _)) hs w (trX_ok h hm) hU
  rw [TrX.toA_pl] at h1
  have e : x.toA.v = .agg x.cells.toArray := by unfold TrA.v; rw [h.cells]
  rw [e] at h1
  exact h1
theorem sameCX_calls (x : CbX) (h : CbXOk 10000 x) (u : CbA) (hs : CbS u) (tl : Blks) (W0 w : World) (hm : Mem W0 [] (cbB x ++ tl) w) (hU : CbOk w u) : Calls Tryz.prog 16 #[.agg x.cells.toArray, u.v] w (Pure (.bool (decide (x.pl = u.pl))) w) := by
  have h1 := rsameCabinet_calls x.toA u (h.sm (Nat.le_refl _)) hs w (cbX_ok h hm) hU
  rw [CbX.toA_pl] at h1
  have e : x.toA.v = .agg x.cells.toArray := by unfold CbA.v; rw [h.cells]
  rw [e] at h1
  exact h1
theorem sameRX_calls (x : RyX) (h : RyXOk 10000 x) (u : RyA) (hs : RySm u) (tl : Blks) (W0 w : World) (hm : Mem W0 [] (ryB x ++ tl) w) (hU : RyOk w u) : Calls Tryz.prog 18 #[.agg x.cells.toArray, u.v] w (Pure (.bool (decide (x.pl = u.pl))) w) := by
  have h1 := rsameRoyal_calls x.toA u (h.sm (Nat.le_refl _)) hs w (ryX_ok h hm) hU
  rw [RyX.toA_pl] at h1
  have e : x.toA.v = .agg x.cells.toArray := by unfold RyA.v; rw [h.cells]
  rw [e] at h1
  exact h1
theorem samePX_calls (x : PsX) (h : PsXOk x) (hl : x.cards.2.length ≤ 1000000) (u : PsA) (hs : u.cards.l.length ≤ 1000000) (tl : Blks) (W0 w : World) (hm : Mem W0 [] (ptB x.cards ++ tl) w) (hU : u.cards.ok Pt.cells 5 w) : Calls Tryz.prog 21 #[.agg x.cells.toArray, u.v] w (Pure (.bool (decide (x.pl = u.pl))) w) := by
  have h1 := rsamePrints_calls x.toA u w (own_sl (f := Pt.cells) (e := 69) (fun _ => rfl) (by decide) h (fun b o hb => (hm.newd b o (List.mem_append_left _ hb)).2)) hU hl hs
  have e : x.toA.v = .agg x.cells.toArray := by
    show Value.agg [(OL.sa x.cards).v, _, _, _, _].toArray = _
    rw [OL.sa_v h]
    rfl
  rw [e] at h1
  exact h1
theorem one_psX (x : PsX) : ∀ v ∈ x.cells, isOne v = true := fun v hv => by
  simp only [PsX.cells, List.mem_cons, List.not_mem_nil, or_false] at hv
  rcases hv with rfl | rfl | rfl | rfl | rfl <;> first | rfl | exact own_one _ _
theorem pure_true {P : Program} {f : FuncId} {args : Array Value} {w : World} {p : Prop} [Decidable p] (h : Calls P f args w (Pure (.bool (decide p)) w)) (hp : p) : Calls P f args w (Pure (.bool true) w) := by rw [decide_eq_true hp] at h; exact h
set_option maxHeartbeats 1000000 in
theorem alive_calls (W : World) (hL : Lw Tryz.prog W) : Calls Tryz.prog 8 #[] W (Pure (.bool true) W) := by
  refine calls_start Tryz.func8 rfl rfl ?_
  refine csr ?_
  refine vp rfl rfl rfl rfl ?_
  refine nsr ?_
  refine RunL.callN (isCall_func rfl ent_28) rfl rfl rfl (fun w hm => tour_calls w) (fun b18 => ?_)
  refine RunL.callP (isCall_func rfl ent_13) rfl rfl rfl (fun w hm => (by have h9 := WriteTour_calls (exTA b18) (exTA_sm b18) w (hL.mono hm) (exTA_ok hm); rw [wT] at h9; exact h9)) ?_
  iterate 5 refine vp rfl rfl rfl rfl ?_
  refine nnx ?_
  refine RunC.seq ?_
  refine RunC.keep (Sub.cons (t := 0) rfl (Sub.cons (t := 1) rfl (Sub.cons (t := 2) rfl (Sub.nil _)))) .nil ?_
  refine RunC.region ?_
  refine RunL.callN (isCall_func rfl ent_29) rfl rfl rfl (fun w hm => cabinet_calls w) (fun b23 => ?_)
  refine RunL.callP (isCall_func rfl ent_15) rfl rfl rfl (fun w hm => (by have h9 := WriteCabinet_calls (exCA b23) (exCA_s b23) w (hL.mono hm) (exCA_ok hm); rw [wC] at h9; exact h9)) ?_
  iterate 5 refine vp rfl rfl rfl rfl ?_
  refine nnx ?_
  refine RunC.seq ?_
  refine RunC.keep (Sub.cons (t := 0) rfl (Sub.cons (t := 1) rfl (Sub.cons (t := 2) rfl (Sub.cons (t := 3) rfl (Sub.cons (t := 4) rfl (Sub.nil _)))))) .nil ?_
  refine RunC.region ?_
  refine RunL.callN (isCall_func rfl ent_30) rfl rfl rfl (fun w hm => royal_calls w) (fun b28 => ?_)
  refine RunL.callP (isCall_func rfl ent_17) rfl rfl rfl (fun w hm => (by have h9 := WriteRoyal_calls (exRA b28) (exRA_sm b28) w (hL.mono hm) (exRA_ok hm); rw [wR] at h9; exact h9)) ?_
  iterate 5 refine vp rfl rfl rfl rfl ?_
  refine nnx ?_
  refine RunC.seq ?_
  refine RunC.keep (Sub.cons (t := 0) rfl (Sub.cons (t := 1) rfl (Sub.cons (t := 2) rfl (Sub.cons (t := 3) rfl (Sub.cons (t := 4) rfl (Sub.cons (t := 5) rfl (Sub.cons (t := 6) rfl (Sub.nil _)))))))) .nil ?_
  refine RunC.region ?_
  refine RunL.callN (isCall_func rfl ent_31) rfl rfl rfl (fun w hm => prints_calls w) (fun b33 => ?_)
  refine RunL.callNT (isCall_func rfl ent_19) rfl rfl rfl (fun w hm => (by have h9 := writePrints_ok (exPA b33) w (exPA_ok hm) exP_ok; simp only [exPA_pl, exP_bytes] at h9; exact grow_news h9)) (fun z34 => ?_)
  obtain ⟨y34, hy34⟩ := z34
  dsimp only
  iterate 5 refine vp rfl rfl rfl rfl ?_
  refine nnx ?_
  refine RunC.seq ?_
  refine RunC.seq ?_
  refine RunC.keep (Sub.cons (t := 0) rfl (Sub.cons (t := 1) rfl (Sub.cons (t := 2) rfl (Sub.cons (t := 3) rfl (Sub.cons (t := 4) rfl (Sub.cons (t := 5) rfl (Sub.cons (t := 6) rfl (Sub.cons (t := 7) rfl (Sub.cons (t := 8) rfl (Sub.nil _)))))))))) (Pick.skip (Pick.refl _)) ?_
  refine RunC.region ?_
  refine vp rfl rfl rfl rfl ?_
  refine RunL.val (Val.neqStr rfl rfl) rfl rfl rfl ?_
  refine vp rfl rfl rfl rfl ?_
  refine RunL.sure (dj := 39) false rfl (ndec rfl) ?_
  iterate 4 refine vp rfl rfl rfl rfl ?_
  refine RunL.sure (dj := 43) false rfl (by decide) ?_
  refine vp rfl rfl rfl rfl ?_
  refine RunL.val (Val.neqStr rfl rfl) rfl rfl rfl ?_
  refine vp rfl rfl rfl rfl ?_
  refine vp rfl rfl rfl rfl ?_
  refine RunL.sure (dj := 47) false rfl (ndec rfl) ?_
  iterate 4 refine vp rfl rfl rfl rfl ?_
  refine RunL.sure (dj := 51) false rfl (by decide) ?_
  refine vp rfl rfl rfl rfl ?_
  refine RunL.val (Val.neqStr rfl rfl) rfl rfl rfl ?_
  refine vp rfl rfl rfl rfl ?_
  refine vp rfl rfl rfl rfl ?_
  refine RunL.sure (dj := 55) false rfl (ndec rfl) ?_
  iterate 4 refine vp rfl rfl rfl rfl ?_
  refine RunL.sure (dj := 59) false rfl (by decide) ?_
  refine vp rfl rfl rfl rfl ?_
  refine RunL.new (New.buildSlice (parts := [(0, .const (.int .u8 80)), (1, .const (.int .u8 1)), (2, .const (.int .u8 0)), (3, .const (.int .u8 100)), (4, .const (.int .u8 0)), (5, .const (.int .u8 1)), (6, .const (.int .u8 1)), (7, .const (.int .u8 244)), (8, .const (.int .u8 0)), (9, .const (.int .u8 5)), (10, .const (.int .u8 0)), (11, .const (.int .u8 0)), (12, .const (.int .u8 0)), (13, .const (.int .u8 3)), (14, .const (.int .u8 0)), (15, .const (.int .u8 2)), (16, .const (.int .u8 0)), (17, .const (.int .u8 10)), (18, .const (.int .u8 0)), (19, .const (.int .u8 10)), (20, .const (.int .u8 29)), (21, .const (.int .u8 39))]) rfl sl_22 zero_5 rfl rfl rfl rfl) rfl rfl rfl (fun b61 => ?_)
  refine RunL.callP (isCall_func rfl ent_20) rfl rfl rfl (fun w hm => (pure_true (by rw [ownV_slice hy34]; exact rsameBytes_calls ⟨exPS, ownQ y34, ownK y34, 0, ownC y34⟩ (atB exPS b61) w (own_bytes hy34 (fun b o h => hm.at (.tail _ ((by first | exact List.mem_append_left _ h | exact List.mem_append_right _ (List.mem_append_left _ h)))))) (cO_ok (f := byC) exPS (hm.at (.head _)) (fun _ => rfl))) rfl)) ?_
  iterate 3 refine vp rfl rfl rfl rfl ?_
  refine RunL.sure (dj := 65) false rfl rfl ?_
  iterate 3 refine vp rfl rfl rfl rfl ?_
  refine nnx ?_
  refine RunC.cond rfl (fun h => absurd h (by decide)) ?_
  intro c0
  clear c0
  refine RunC.skip ?_
  refine RunE.next ?_
  refine csr ?_
  refine vp rfl rfl rfl rfl ?_
  refine RunL.callNA [(b61, _)] _ rfl (isCall_func rfl ent_9) rfl rfl rfl (fun w hm => grow_news (ReadTour_calls exTS w (hL.mono hm) (by rw [exT_len]; decide))) (fun z71 => ?_)
  obtain ⟨⟨x71, e71⟩, h71⟩ := z71
  obtain ⟨p71, e171, o71⟩ := rd_ok h71 exT_read
  subst e171
  dsimp only
  iterate 3 refine vp rfl rfl rfl rfl ?_
  refine RunL.new (New.alloc zero_27) rfl rfl rfl (fun b9 => ?_)
  refine RunL.sto (Sto.store (cs := zsrdT) (cs' := x71.cells) rfl rfl .here ty_27 rfl (paste_over rfl (one_trX _))) rfl rfl ?_
  refine vp rfl rfl rfl rfl ?_
  refine nsr ?_
  refine vp rfl rfl rfl rfl ?_
  refine RunL.callNA [(b9, _), (b61, _)] _ rfl (isCall_func rfl ent_10) rfl rfl rfl (fun w hm => grow_news (ReadCabinet_calls exCS w (hL.mono hm) (by rw [exC_len]; decide))) (fun z76 => ?_)
  obtain ⟨⟨x76, e76⟩, h76⟩ := z76
  obtain ⟨p76, e176, o76⟩ := rd_ok h76 exC_read
  subst e176
  dsimp only
  iterate 3 refine vp rfl rfl rfl rfl ?_
  refine RunL.new (New.alloc zero_34) rfl rfl rfl (fun b11 => ?_)
  refine RunL.sto (Sto.store (cs := zsrdC) (cs' := x76.cells) rfl rfl .here ty_34 rfl (paste_over rfl (one_cbX _))) rfl rfl ?_
  refine vp rfl rfl rfl rfl ?_
  refine nsr ?_
  refine vp rfl rfl rfl rfl ?_
  refine RunL.callNA [(b11, _), (b9, _), (b61, _)] _ rfl (isCall_func rfl ent_11) rfl rfl rfl (fun w hm => grow_news (ReadRoyal_calls exRS w (hL.mono hm) (by rw [exR_len]; decide))) (fun z81 => ?_)
  obtain ⟨⟨x81, e81⟩, h81⟩ := z81
  obtain ⟨p81, e181, o81⟩ := rd_ok h81 exR_read
  subst e181
  dsimp only
  iterate 3 refine vp rfl rfl rfl rfl ?_
  refine RunL.new (New.alloc zero_41) rfl rfl rfl (fun b13 => ?_)
  refine RunL.sto (Sto.store (cs := zsrdR) (cs' := x81.cells) rfl rfl .here ty_41 rfl (paste_over rfl (one_ryX _))) rfl rfl ?_
  refine vp rfl rfl rfl rfl ?_
  refine nsr ?_
  refine vp rfl rfl rfl rfl ?_
  refine RunL.callNA [(b13, _), (b11, _), (b9, _), (b61, _)] _ rfl (isCall_func rfl ent_12) rfl rfl rfl (fun w hm => (by rw [ownV_slice hy34]; exact grow_news (ReadPrints_calls exPS (ownQ y34) (ownK y34) 0 (ownC y34) w (own_bytes hy34 (fun b o h => hm.at (.tail _ (.tail _ (.tail _ (.tail _ ((by first | exact List.mem_append_right _ (List.mem_append_right _ (List.mem_append_right _ (List.mem_append_left _ h))) | exact List.mem_append_right _ (List.mem_append_right _ (List.mem_append_right _ (List.mem_append_right _ (List.mem_append_left _ h)))))))))))) (by decide)))) (fun z86 => ?_)
  obtain ⟨⟨x86, e86⟩, h86⟩ := z86
  obtain ⟨p86, e186, o86⟩ := rd_ok h86 exP_read
  subst e186
  dsimp only
  iterate 3 refine vp rfl rfl rfl rfl ?_
  refine RunL.new (New.alloc zero_48) rfl rfl rfl (fun b15 => ?_)
  refine RunL.sto (Sto.store (cs := zeroPX.cells) (cs' := x86.cells) rfl rfl .here ty_48 rfl (paste_over rfl (one_psX _))) rfl rfl ?_
  refine vp rfl rfl rfl rfl ?_
  refine nnx ?_
  refine RunC.seq ?_
  refine RunC.draw 28 fol_ (.cons .here rfl (.cons .here rfl (.cons .here rfl (.cons .here rfl (.cons .here rfl .nil))))) ?_
  refine va 0 rfl (Val.load_agg rfl (.tail _ (.tail _ (.tail _ (.head _)))) ty_27 rfl) rfl rfl rfl (.cons .here rfl (.cons .here rfl (.cons .here rfl (.cons .here rfl (.cons .here rfl .nil))))) rfl ?_
  refine RunA.one (i := 1) (by kernel_rfl) (by kernel_rfl) ?_
  refine RunI.callN rfl (isCall_func rfl ent_28) rfl rfl rfl (fun w hm => tour_calls w) (fun b90 => (RunK.toA (.cons .here rfl (.cons .here rfl (.cons .here rfl (.cons .here rfl (.cons .here rfl (.cons .here rfl (.cons .here rfl (.cons .here rfl (.cons .here rfl (.cons .here rfl (.cons .here rfl (.cons .here rfl .nil)))))))))))) (.cons (.there (.there (.there (.there (.there (.there (.there .here))))))) rfl (.cons (.there (.there (.there (.there (.there (.there (.there .here))))))) rfl (.cons (.there (.there (.there (.there (.there (.there (.there .here))))))) rfl (.cons (.there (.there (.there (.there (.there (.there (.there .here))))))) rfl (.cons (.there (.there (.there (.there (.there (.there (.there .here))))))) rfl .nil))))) rfl ?_))
  refine RunA.one (i := 2) (by kernel_rfl) (by kernel_rfl) ?_
  refine RunI.callP rfl (isCall_func rfl ent_14) rfl rfl rfl (fun w hm => (pure_true (sameTX_calls x71 o71 (exTA b90) (exTA_sm b90) [] W w (hm.pick (news' := trB x71 ++ []) (Pick.cnt fun x => by simp only [nC]; omega)) (exTA_ok hm)) p71)) (RunK.toA (.cons .here rfl (.cons .here rfl (.cons .here rfl (.cons .here rfl (.cons .here rfl (.cons .here rfl (.cons .here rfl (.cons .here rfl (.cons .here rfl (.cons .here rfl (.cons .here rfl (.cons .here rfl .nil)))))))))))) (.cons .here rfl (.cons .here rfl (.cons .here rfl (.cons .here rfl (.cons .here rfl (.cons .here rfl (.cons .here rfl (.cons .here rfl (.cons .here rfl (.cons .here rfl (.cons .here rfl (.cons .here rfl .nil)))))))))))) rfl ?_)
  refine va 3 rfl (Val.pure rfl) rfl rfl rfl (.cons .here rfl (.cons .here rfl (.cons .here rfl (.cons .here rfl (.cons .here rfl (.cons .here rfl (.cons .here rfl (.cons .here rfl (.cons .here rfl (.cons .here rfl (.cons .here rfl (.cons .here rfl .nil)))))))))))) rfl ?_
  refine RunA.sure (dj := 92) true rfl (by rfl) ?_
  refine va 4 rfl (Val.pure rfl) rfl rfl rfl (.cons .here rfl (.cons .here rfl (.cons .here rfl (.cons .here rfl (.cons .here rfl (.cons .here rfl (.cons .here rfl (.cons .here rfl (.cons .here rfl (.cons .here rfl (.cons .here rfl (.cons .here rfl .nil)))))))))))) rfl ?_
  refine va 5 rfl (Val.pure rfl) rfl rfl rfl (.cons .here rfl (.cons .here rfl (.cons .here rfl (.cons .here rfl (.cons .here rfl (.cons .here rfl (.cons .here rfl (.cons .here rfl (.cons .here rfl (.cons .here rfl (.cons .here rfl (.cons .here rfl .nil)))))))))))) rfl ?_
  refine va 6 rfl (Val.pure rfl) rfl rfl rfl (.cons .here rfl (.cons .here rfl (.cons .here rfl (.cons .here rfl (.cons .here rfl (.cons .here rfl (.cons .here rfl (.cons .here rfl (.cons .here rfl (.cons .here rfl (.cons .here rfl (.cons .here rfl .nil)))))))))))) rfl ?_
  refine va 7 rfl (Val.pure rfl) rfl rfl rfl (.cons .here rfl (.cons .here rfl (.cons .here rfl (.cons .here rfl (.cons .here rfl (.cons .here rfl (.cons .here rfl (.cons .here rfl (.cons .here rfl (.cons .here rfl (.cons .here rfl (.cons .here rfl .nil)))))))))))) rfl ?_
  refine RunA.sure (dj := 96) true rfl (by rfl) ?_
  refine va 8 rfl (Val.load_agg rfl (.tail _ (.tail _ (.tail _ (.tail _ (.tail _ (.tail _ (.tail _ (.tail _ (.tail _ (.head _)))))))))) ty_34 rfl) rfl rfl rfl (.cons .here rfl (.cons .here rfl (.cons .here rfl (.cons .here rfl (.cons .here rfl (.cons .here rfl (.cons .here rfl (.cons .here rfl (.cons .here rfl (.cons .here rfl (.cons .here rfl (.cons .here rfl .nil)))))))))))) rfl ?_
  refine RunA.one (i := 9) (by kernel_rfl) (by kernel_rfl) ?_
  refine RunI.callN rfl (isCall_func rfl ent_29) rfl rfl rfl (fun w hm => cabinet_calls w) (fun b98 => (RunK.toA (.cons .here rfl (.cons .here rfl (.cons .here rfl (.cons .here rfl (.cons .here rfl (.cons .here rfl (.cons .here rfl (.cons .here rfl (.cons .here rfl (.cons .here rfl (.cons .here rfl (.cons .here rfl (.cons .here rfl (.cons .here rfl .nil)))))))))))))) (.cons (.there (.there .here)) rfl (.cons (.there (.there .here)) rfl (.cons (.there (.there .here)) rfl (.cons (.there (.there .here)) rfl (.cons (.there (.there .here)) rfl (.cons (.there (.there .here)) rfl (.cons (.there (.there .here)) rfl (.cons (.there (.there .here)) rfl (.cons (.there (.there .here)) rfl (.cons (.there (.there .here)) rfl (.cons (.there (.there .here)) rfl (.cons (.there (.there .here)) rfl .nil)))))))))))) rfl ?_))
  refine RunA.one (i := 10) (by kernel_rfl) (by kernel_rfl) ?_
  refine RunI.callP rfl (isCall_func rfl ent_16) rfl rfl rfl (fun w hm => (pure_true (sameCX_calls x76 o76 (exCA b98) (exCA_s b98) [] W w (hm.pick (news' := cbB x76 ++ []) (Pick.cnt fun x => by simp only [nC]; omega)) (exCA_ok hm)) p76)) (RunK.toA (.cons .here rfl (.cons .here rfl (.cons .here rfl (.cons .here rfl (.cons .here rfl (.cons .here rfl (.cons .here rfl (.cons .here rfl (.cons .here rfl (.cons .here rfl (.cons .here rfl (.cons .here rfl (.cons .here rfl (.cons .here rfl .nil)))))))))))))) (.cons .here rfl (.cons .here rfl (.cons .here rfl (.cons .here rfl (.cons .here rfl (.cons .here rfl (.cons .here rfl (.cons .here rfl (.cons .here rfl (.cons .here rfl (.cons .here rfl (.cons .here rfl (.cons .here rfl (.cons .here rfl .nil)))))))))))))) rfl ?_)
  refine va 11 rfl (Val.pure rfl) rfl rfl rfl (.cons .here rfl (.cons .here rfl (.cons .here rfl (.cons .here rfl (.cons .here rfl (.cons .here rfl (.cons .here rfl (.cons .here rfl (.cons .here rfl (.cons .here rfl (.cons .here rfl (.cons .here rfl (.cons .here rfl (.cons .here rfl .nil)))))))))))))) rfl ?_
  refine va 12 rfl (Val.pure rfl) rfl rfl rfl (.cons .here rfl (.cons .here rfl (.cons .here rfl (.cons .here rfl (.cons .here rfl (.cons .here rfl (.cons .here rfl (.cons .here rfl (.cons .here rfl (.cons .here rfl (.cons .here rfl (.cons .here rfl (.cons .here rfl (.cons .here rfl .nil)))))))))))))) rfl ?_
  refine RunA.sure (dj := 101) true rfl (by rfl) ?_
  refine va 13 rfl (Val.pure rfl) rfl rfl rfl (.cons .here rfl (.cons .here rfl (.cons .here rfl (.cons .here rfl (.cons .here rfl (.cons .here rfl (.cons .here rfl (.cons .here rfl (.cons .here rfl (.cons .here rfl (.cons .here rfl (.cons .here rfl (.cons .here rfl (.cons .here rfl .nil)))))))))))))) rfl ?_
  refine va 14 rfl (Val.pure rfl) rfl rfl rfl (.cons .here rfl (.cons .here rfl (.cons .here rfl (.cons .here rfl (.cons .here rfl (.cons .here rfl (.cons .here rfl (.cons .here rfl (.cons .here rfl (.cons .here rfl (.cons .here rfl (.cons .here rfl (.cons .here rfl (.cons .here rfl .nil)))))))))))))) rfl ?_
  refine va 15 rfl (Val.pure rfl) rfl rfl rfl (.cons .here rfl (.cons .here rfl (.cons .here rfl (.cons .here rfl (.cons .here rfl (.cons .here rfl (.cons .here rfl (.cons .here rfl (.cons .here rfl (.cons .here rfl (.cons .here rfl (.cons .here rfl (.cons .here rfl (.cons .here rfl .nil)))))))))))))) rfl ?_
  refine va 16 rfl (Val.pure rfl) rfl rfl rfl (.cons .here rfl (.cons .here rfl (.cons .here rfl (.cons .here rfl (.cons .here rfl (.cons .here rfl (.cons .here rfl (.cons .here rfl (.cons .here rfl (.cons .here rfl (.cons .here rfl (.cons .here rfl (.cons .here rfl (.cons .here rfl .nil)))))))))))))) rfl ?_
  refine RunA.sure (dj := 105) true rfl (by rfl) ?_
  refine va 17 rfl (Val.load_agg rfl (.tail _ (.tail _ (.tail _ (.tail _ (.tail _ (.tail _ (.tail _ (.tail _ (.tail _ (.tail _ (.head _))))))))))) ty_41 rfl) rfl rfl rfl (.cons .here rfl (.cons .here rfl (.cons .here rfl (.cons .here rfl (.cons .here rfl (.cons .here rfl (.cons .here rfl (.cons .here rfl (.cons .here rfl (.cons .here rfl (.cons .here rfl (.cons .here rfl (.cons .here rfl (.cons .here rfl .nil)))))))))))))) rfl ?_
  refine RunA.one (i := 18) (by kernel_rfl) (by kernel_rfl) ?_
  refine RunI.callN rfl (isCall_func rfl ent_30) rfl rfl rfl (fun w hm => royal_calls w) (fun b107 => (RunK.toA (.cons .here rfl (.cons .here rfl (.cons .here rfl (.cons .here rfl (.cons .here rfl (.cons .here rfl (.cons .here rfl (.cons .here rfl (.cons .here rfl (.cons .here rfl (.cons .here rfl (.cons .here rfl (.cons .here rfl (.cons .here rfl (.cons .here rfl (.cons .here rfl (.cons .here rfl (.cons .here rfl (.cons .here rfl (.cons .here rfl .nil)))))))))))))))))))) (.cons (.there (.there (.there (.there (.there (.there .here)))))) rfl (.cons (.there (.there (.there (.there (.there (.there .here)))))) rfl (.cons (.there (.there (.there (.there (.there (.there .here)))))) rfl (.cons (.there (.there (.there (.there (.there (.there .here)))))) rfl (.cons (.there (.there (.there (.there (.there (.there .here)))))) rfl (.cons (.there (.there (.there (.there (.there (.there .here)))))) rfl (.cons (.there (.there (.there (.there (.there (.there .here)))))) rfl (.cons (.there (.there (.there (.there (.there (.there .here)))))) rfl (.cons (.there (.there (.there (.there (.there (.there .here)))))) rfl (.cons (.there (.there (.there (.there (.there (.there .here)))))) rfl (.cons (.there (.there (.there (.there (.there (.there .here)))))) rfl (.cons (.there (.there (.there (.there (.there (.there .here)))))) rfl (.cons (.there (.there (.there (.there (.there (.there .here)))))) rfl (.cons (.there (.there (.there (.there (.there (.there .here)))))) rfl .nil)))))))))))))) rfl ?_))
  refine RunA.one (i := 19) (by kernel_rfl) (by kernel_rfl) ?_
  refine RunI.callP rfl (isCall_func rfl ent_18) rfl rfl rfl (fun w hm => (pure_true (sameRX_calls x81 o81 (exRA b107) (exRA_sm b107) [] W w (hm.pick (news' := ryB x81 ++ []) (Pick.cnt fun x => by simp only [nC]; omega)) (exRA_ok hm)) p81)) (RunK.toA (.cons .here rfl (.cons .here rfl (.cons .here rfl (.cons .here rfl (.cons .here rfl (.cons .here rfl (.cons .here rfl (.cons .here rfl (.cons .here rfl (.cons .here rfl (.cons .here rfl (.cons .here rfl (.cons .here rfl (.cons .here rfl (.cons .here rfl (.cons .here rfl (.cons .here rfl (.cons .here rfl (.cons .here rfl (.cons .here rfl .nil)))))))))))))))))))) (.cons .here rfl (.cons .here rfl (.cons .here rfl (.cons .here rfl (.cons .here rfl (.cons .here rfl (.cons .here rfl (.cons .here rfl (.cons .here rfl (.cons .here rfl (.cons .here rfl (.cons .here rfl (.cons .here rfl (.cons .here rfl (.cons .here rfl (.cons .here rfl (.cons .here rfl (.cons .here rfl (.cons .here rfl (.cons .here rfl .nil)))))))))))))))))))) rfl ?_)
  refine va 20 rfl (Val.pure rfl) rfl rfl rfl (.cons .here rfl (.cons .here rfl (.cons .here rfl (.cons .here rfl (.cons .here rfl (.cons .here rfl (.cons .here rfl (.cons .here rfl (.cons .here rfl (.cons .here rfl (.cons .here rfl (.cons .here rfl (.cons .here rfl (.cons .here rfl (.cons .here rfl (.cons .here rfl (.cons .here rfl (.cons .here rfl (.cons .here rfl (.cons .here rfl .nil)))))))))))))))))))) rfl ?_
  refine va 21 rfl (Val.pure rfl) rfl rfl rfl (.cons .here rfl (.cons .here rfl (.cons .here rfl (.cons .here rfl (.cons .here rfl (.cons .here rfl (.cons .here rfl (.cons .here rfl (.cons .here rfl (.cons .here rfl (.cons .here rfl (.cons .here rfl (.cons .here rfl (.cons .here rfl (.cons .here rfl (.cons .here rfl (.cons .here rfl (.cons .here rfl (.cons .here rfl (.cons .here rfl .nil)))))))))))))))))))) rfl ?_
  refine RunA.sure (dj := 110) true rfl (by rfl) ?_
  refine va 22 rfl (Val.pure rfl) rfl rfl rfl (.cons .here rfl (.cons .here rfl (.cons .here rfl (.cons .here rfl (.cons .here rfl (.cons .here rfl (.cons .here rfl (.cons .here rfl (.cons .here rfl (.cons .here rfl (.cons .here rfl (.cons .here rfl (.cons .here rfl (.cons .here rfl (.cons .here rfl (.cons .here rfl (.cons .here rfl (.cons .here rfl (.cons .here rfl (.cons .here rfl .nil)))))))))))))))))))) rfl ?_
  refine va 23 rfl (Val.pure rfl) rfl rfl rfl (.cons .here rfl (.cons .here rfl (.cons .here rfl (.cons .here rfl (.cons .here rfl (.cons .here rfl (.cons .here rfl (.cons .here rfl (.cons .here rfl (.cons .here rfl (.cons .here rfl (.cons .here rfl (.cons .here rfl (.cons .here rfl (.cons .here rfl (.cons .here rfl (.cons .here rfl (.cons .here rfl (.cons .here rfl (.cons .here rfl .nil)))))))))))))))))))) rfl ?_
  refine va 24 rfl (Val.pure rfl) rfl rfl rfl (.cons .here rfl (.cons .here rfl (.cons .here rfl (.cons .here rfl (.cons .here rfl (.cons .here rfl (.cons .here rfl (.cons .here rfl (.cons .here rfl (.cons .here rfl (.cons .here rfl (.cons .here rfl (.cons .here rfl (.cons .here rfl (.cons .here rfl (.cons .here rfl (.cons .here rfl (.cons .here rfl (.cons .here rfl (.cons .here rfl .nil)))))))))))))))))))) rfl ?_
  refine va 25 rfl (Val.pure rfl) rfl rfl rfl (.cons .here rfl (.cons .here rfl (.cons .here rfl (.cons .here rfl (.cons .here rfl (.cons .here rfl (.cons .here rfl (.cons .here rfl (.cons .here rfl (.cons .here rfl (.cons .here rfl (.cons .here rfl (.cons .here rfl (.cons .here rfl (.cons .here rfl (.cons .here rfl (.cons .here rfl (.cons .here rfl (.cons .here rfl (.cons .here rfl .nil)))))))))))))))))))) rfl ?_
  refine RunA.sure (dj := 114) true rfl (by rfl) ?_
  refine va 26 rfl (Val.load_agg rfl (.tail _ (.tail _ (.tail _ (.tail _ (.tail _ (.tail _ (.tail _ (.tail _ (.tail _ (.tail _ (.tail _ (.tail _ (.tail _ (.tail _ (.tail _ (.head _)))))))))))))))) ty_48 rfl) rfl rfl rfl (.cons .here rfl (.cons .here rfl (.cons .here rfl (.cons .here rfl (.cons .here rfl (.cons .here rfl (.cons .here rfl (.cons .here rfl (.cons .here rfl (.cons .here rfl (.cons .here rfl (.cons .here rfl (.cons .here rfl (.cons .here rfl (.cons .here rfl (.cons .here rfl (.cons .here rfl (.cons .here rfl (.cons .here rfl (.cons .here rfl .nil)))))))))))))))))))) rfl ?_
  refine RunA.one (i := 27) (by kernel_rfl) (by kernel_rfl) ?_
  refine RunI.callN rfl (isCall_func rfl ent_31) rfl rfl rfl (fun w hm => prints_calls w) (fun b116 => (RunK.toA (.cons .here rfl (.cons .here rfl (.cons .here rfl (.cons .here rfl (.cons .here rfl (.cons .here rfl (.cons .here rfl (.cons .here rfl (.cons .here rfl (.cons .here rfl (.cons .here rfl (.cons .here rfl (.cons .here rfl (.cons .here rfl (.cons .here rfl (.cons .here rfl (.cons .here rfl (.cons .here rfl (.cons .here rfl (.cons .here rfl (.cons .here rfl .nil))))))))))))))))))))) (.cons (.there .here) rfl (.cons (.there .here) rfl (.cons (.there .here) rfl (.cons (.there .here) rfl (.cons (.there .here) rfl (.cons (.there .here) rfl (.cons (.there .here) rfl (.cons (.there .here) rfl (.cons (.there .here) rfl (.cons (.there .here) rfl (.cons (.there .here) rfl (.cons (.there .here) rfl (.cons (.there .here) rfl (.cons (.there .here) rfl (.cons (.there .here) rfl (.cons (.there .here) rfl (.cons (.there .here) rfl (.cons (.there .here) rfl (.cons (.there .here) rfl (.cons (.there .here) rfl .nil)))))))))))))))))))) rfl ?_))
  refine RunA.toB (by kernel_rfl) ?_
  refine RunB.one (i := 28) (by kernel_rfl) ?_
  refine RunI.callP rfl (isCall_func rfl ent_21) rfl rfl rfl (fun w hm => (pure_true (samePX_calls x86 o86 (by have h9 := congrArg (fun q : Ps => q.cards.length) p86; have h8 : x86.cards.2.length = 1 := h9; omega) (exPA b116) (by show (1 : Nat) ≤ _; decide) [] W w (hm.pick (news' := ptB x86.cards ++ []) (Pick.cnt fun x => by simp only [nC]; omega)) (exPA_ok hm)) p86)) (RunK.toB ?_)
  refine RunB.one (i := 29) (by kernel_rfl) ?_
  refine RunI.val rfl (Val.pure rfl) rfl rfl rfl (RunK.toB ?_)
  refine RunB.one (i := 30) (by kernel_rfl) ?_
  refine RunI.val rfl (Val.pure rfl) rfl rfl rfl (RunK.toB ?_)
  refine RunB.sure (dj := 119) true rfl (by rfl) ?_
  refine RunB.one (i := 31) (by kernel_rfl) ?_
  refine RunI.val rfl (Val.pure rfl) rfl rfl rfl (RunK.toB ?_)
  refine RunB.one (i := 32) (by kernel_rfl) ?_
  refine RunI.val rfl (Val.pure rfl) rfl rfl rfl (RunK.toB ?_)
  refine RunB.one (i := 33) (by kernel_rfl) ?_
  refine RunI.val rfl (Val.pure rfl) rfl rfl rfl (RunK.toB ?_)
  refine RunB.one (i := 34) (by kernel_rfl) ?_
  refine RunI.val rfl (Val.pure rfl) rfl rfl rfl (RunK.toB ?_)
  refine RunB.done (by kernel_rfl) ?_
  refine RunE.next ?_
  refine RunC.ret ?_
  exact RunE.retP (.r1 rfl (.tmp rfl)) (by first | rfl | simp)
end Go.Proofs.YtleamcmljcdapabGreatDoor
namespace Go.Eng
open Go Go.RowKit Go.ChangeShapes Go.WideShapes Go.ChangeAt
/-- The plain wrap, with the world's shape and what is listed. -/
theorem handed_shaped_and {H : Type} {enc : TypeId × Value → H} {a : Assume} {C : Checked} {os : Os} {f : FuncId} {fn : Func} {s : ChangeSpec} {conds : List PathCond} {apart fresh handsOn again : Bool} {X : World → Array Value → Prop}
    (hX : ∀ (w w' : World) (args : Array Value), w.heap = w'.heap → X w args → X w' args)
    (own : ownKnob C.prog.godebug = none) (started : os.Started) (noInit : C.prog.inits.idxOf? f = none) (hfn : C.prog.funcs[f]? = some fn)
    (witness : ∃ (w : World) (tape : Tape) (i : Input), w.os = os ∧ (w.forCall tape i).Shaped C.prog ∧ i.vars = [] ∧ Input.okWide C.prog (w.forCall tape i) .any w.heap.size f i ∧
      ((s.pre enc C.prog fn conds apart (w.forCall tape i).memory i.args ∧ X (w.forCall tape i).memory i.args) ∧ sizedMet enc C.prog fn (OpenSpec.ofChange s) apart (w.forCall tape i).memory i.args) ∧ a.holds C.prog (lone (Frame.enter C.prog f i.args .normal) [] (w.forCall tape i)))
    (contract : ∀ (W : World) (base : Nat) (args : Array Value) (ds gs : List (DataW H)) (before : List MemPlace),
      (∀ (j : Nat) t v, fn.params[j]? = some t → args[j]? = some v → Value.okWide C.prog W .any base t v) →
      DataW.Whole enc C.prog fn.params.toList s.vars apart W args.toList ds gs before → W.ShapedOpen C.prog → X W args →
      Calls C.prog f args W fun e W' => ∃ v, e = .returned v ∧ s.post enc C.prog fn apart fresh handsOn again W args v W') :
    ReturnsInHanded a C os f .any (fun w args => (s.pre enc C.prog fn conds apart w args ∧ X w args) ∧ sizedMet enc C.prog fn (OpenSpec.ofChange s) apart w args) (s.post enc C.prog fn apart fresh handsOn again) := by
  refine returnsInHanded_of_calls own started noInit witness ?_
  intro w tape i _ hsh _ hok hpre hholds
  obtain ⟨_, _, _, fn', hfn', _, _, _, _, hval⟩ := hok
  have e : fn' = fn := Option.some.inj (hfn'.symm.trans hfn)
  subst e
  obtain ⟨⟨⟨ds, gs, before, hw, hc⟩, hx⟩, hz⟩ := hpre
  have hw' := DataW.Whole.of_heap (w' := w.forCall tape i) (by rfl) hw
  refine (contract (w.forCall tape i) w.heap.size i.args ds gs before hval hw' hsh (hX _ _ _ (by rfl) hx)).mono fun e W' ⟨v, he, hp⟩ => ?_
  subst he
  exact ChangeSpec.post_blind hp
/-- As law_contract, at one world. -/
theorem law_contractW {H : Type} {enc : TypeId × Value → H} {P : Program} {f : Func} {s : ChangeSpec} {n : Nat} {shs : List Sh} {tb : TypeId} {F : FuncId} (hl : laidOutB P = true) (hsh : f.params.toList.mapM (shapeB P n) = some shs)
    (hp : f.params.toList.all (fun t => P.readableRec t && decide (t < P.types.size)) = true) (hr : f.resultTypes = #[tb]) (hb : P.underlying tb = some .bool) (hvars : s.vars = [])
    (hfn : ∀ ds : List (DataW H), ds.length = f.params.toList.length → s.fn H (ds ++ []) = { results := [.lit (.bool true)], args := ds })
    {W : World} (walk : ∀ vs : List Value, RdAll W shs vs → Calls P F vs.toArray W (Pure (.bool true) W)) {base : Nat} {args : Array Value} {ds gs : List (DataW H)} {before : List MemPlace} (hval : ∀ (j : Nat) t v, f.params[j]? = some t → args[j]? = some v → Value.okWide P W .any base t v)
    (hW : DataW.Whole enc P f.params.toList s.vars false W args.toList ds gs before) :
    Calls P F args W fun e W' => ∃ v, e = .returned v ∧ s.post enc P f false true false false W args v W' := by
  have hW' := hW
  obtain ⟨p, q, hA, hV, rfl, hfz, hnd⟩ := hW
  rw [hvars] at hV
  obtain ⟨rfl, rfl⟩ := trodVars_none hV
  have hrd : RdAll W shs args.toList := rdAll_of hsh (fun j t v hj hv => hval j t v (by simpa using hj) (by simpa using hv)) hA
  have hlen : ds.length = f.params.toList.length := by
    clear hW' hval hrd hfn hp hsh hfz hnd hV
    generalize f.params.toList = ts at hA
    generalize args.toList = vs at hA
    induction ts generalizing vs ds p with
    | nil => obtain ⟨_, rfl, _⟩ := trodAll_nil hA; rfl
    | cons t ts ih =>
      obtain ⟨v, vs', d, ds', p, q, rfl, rfl, rfl, h0, hr⟩ := trodAll_cons hA
      simp [ih _ _ hr]
  refine (walk args.toList hrd).mono fun e W' ⟨he, hm⟩ => ?_
  subst he
  have bel := hm.below
  refine ⟨_, rfl, ds, [], p ++ [], [], p, [], hW', ?_, ?_, ?_, bel.frame _, fun h => by cases h⟩
  · rw [hfn ds hlen, hr]
    exact trodAll_mk1 (shut_bool hb _)
  · rw [hfn ds hlen]
    exact trodAll_below hl bel hp hA
  · rw [hvars, hfn ds hlen]
    rfl
/-- A listed error: the variable holds an interface value. -/
theorem laid_iface {P : Program} {n nm : String} {d : DataW Unit} {r : List (String × DataW Unit)} {W : World} {g : Nat} {ti : TypeId} {ms : Array (String × TypeId)}
    (h : laidMet P ((n, .iface nm d) :: r) W) (hg : P.globalNamed n = some g) (ht : (P.globals[g]?).map (·.type) = some ti) (hi : P.underlying ti = some (.interface ms)) : ∃ te pe, W.cell? ⟨g, 0, none⟩ = some (.iface te pe) := by
  obtain ⟨ps, ⟨g0, t0, cs0, f0, p0, q0, hg0, ht0, hv0, hd0, _, e0⟩, _, hrows⟩ := h
  obtain rfl := Option.some.inj (hg.symm.trans hg0)
  obtain rfl := Option.some.inj (ht.symm.trans ht0)
  obtain ⟨f', u, v, hcs, _, _⟩ := iface_of_trod hi hd0
  have h1 := World.var?_cell hg0 hv0 0
  have e : cs0 = #[.iface u v] := by
    obtain ⟨l⟩ := cs0
    simp only at hcs
    rw [hcs]
  rw [e] at h1
  exact ⟨u, v, by simpa using h1⟩
end Go.Eng
namespace Go.Proofs.YtleamcmljcdapabGreatDoor
open Go Go.Eng Go.Bk Go.RowKit

abbrev laidL : List (String × DataW Unit) := [("math/bits.deBruijn32tab", Rows.laid_math_bits_deBruijn32tab), ("math/bits.deBruijn64tab", Rows.laid_math_bits_deBruijn64tab), ("internal/strconv.uint64pow10", Rows.laid_internal_strconv_uint64pow10), ("unicode/utf8.acceptRanges", Rows.laid_unicode_utf8_acceptRanges), ("strconv.ErrRange", Rows.laid_strconv_ErrRange), ("strconv.ErrSyntax", Rows.laid_strconv_ErrSyntax), ("unicode/utf8.first", Rows.laid_unicode_utf8_first)]
theorem gMax : ((begin Tryz.prog (fun _ _ => 0) default).world.heap[0]?).bind Obj.row? = some (#[.int .i64 0], 3) := by kernel_rfl
theorem lw_of {W : World} (hsh : W.ShapedOpen Tryz.prog) (hL : laidMetH Tryz.prog laidL W) : Lw Tryz.prog W := by
  rw [MakeChecks.laidMetH_plain _ _ _ (by kernel_rfl)] at hL
  have h3 := hL.tail.tail
  have h5 := h3.tail.tail
  obtain ⟨te, pe, h1⟩ := laid_iface h5 (g := 3) (by kernel_rfl) (by kernel_rfl) Tryz.underlying141
  obtain ⟨te2, pe2, h2⟩ := laid_iface h5.tail (g := 2) (by kernel_rfl) (by kernel_rfl) Tryz.underlying141
  exact ⟨cell_of_shapedOpen_int hsh (by decide) gMax rfl (by kernel_rfl) (by kernel_rfl) Tryz.underlying3,
    Lib.tabIs_of_head (g := 1) (t := 235) (n := 20) (e := 221) (by kernel_rfl) (by kernel_rfl) (by kernel_rfl) (by kernel_rfl) (by kernel_rfl) (by kernel_rfl) h3,
    ⟨_, h2, .inr ⟨_, _, rfl⟩⟩, ⟨_, h1, .inr ⟨_, _, rfl⟩⟩⟩
theorem laid_fits (os : Os) : (World.holding Tryz.prog os ⟨#[], #[], []⟩).layFits Tryz.prog laidL [] = true := by kernel_rfl
theorem laid_ifaces (os : Os) : (World.holding Tryz.prog os ⟨#[], #[], []⟩).layIfaces Tryz.prog laidL (World.laidAll Tryz.prog os laidL) = true := by kernel_rfl
end Go.Proofs.YtleamcmljcdapabGreatDoor
namespace Go.Bk
open Go Go.Eng Go.RowKit
/-- The bytes that are written, if any. -/
def wpS (p : Ps) : Str := if printsX p = true then psS p else []
theorem wpS_ok {p : Ps} (h : printsX p = true) : wpS p = psS p := if_pos h
theorem wpS_no {p : Ps} (h : printsX p = false) : wpS p = [] := if_neg (by simp [h])
abbrev wpE (p : Ps) : Int := if printsX p = true then 0 else 1
end Go.Bk
namespace Go.Proofs.YtleamcmljcdapabGreatDoor
open Go Go.Eng Go.Bk Go.RowKit

theorem writePrints_any (p : PsA) (hl : p.cards.l.length ≤ 10000) (W : World) (hP : p.cards.ok Pt.cells 5 W) : Calls Tryz.prog 19 #[p.v] W (News (fun z : { y : Eng.Own // OwnOk 1 y (wpS p.pl).length (byc (wpS p.pl)) } => .tuple #[ownV z.1 (wpS p.pl).length, .int .i64 (wpE p.pl)]) (fun z => ownB 5 z.1 (byc (wpS p.pl)) ++ []) W) := by
  suffices h1 : Calls Tryz.prog 19 #[p.v] W (Grow W [] (fun y : Eng.Own => .tuple #[ownV y (wpS p.pl).length, .int .i64 (wpE p.pl)]) (fun y => ownB 5 y (byc (wpS p.pl)) ++ []) (fun y => OwnOk 1 y (wpS p.pl).length (byc (wpS p.pl)))) from grow_news h1
  cases h : printsX p.pl with
  | true =>
    have e : wpE p.pl = 0 := if_pos h
    rw [e, wpS_ok h]
    exact writePrints_ok p W hP h
  | false =>
    have e : wpE p.pl = 1 := if_neg (by simp [h])
    rw [e, wpS_no h]
    refine calls_mono (writePrints_no p hl W hP h) ?_
    rintro e w' ⟨rfl, hm⟩
    exact ⟨none, ol_nil (α := UInt8) (f := byC) (sz := 1), rfl, hm⟩
end Go.Proofs.YtleamcmljcdapabGreatDoor
namespace Go.Bk
open Go Go.Eng Go.RowKit
theorem cab_more {c : Cb} {l : Ln} : cabS { c with loans := c.loans ++ [l] } = cabS c ++ loanS l := by simp [cabS]
theorem roy_more {r : Ry} {l : Rp} : royalS { r with reports := r.reports ++ [l] } = royalS r ++ reportS l := by simp [royalS]
theorem loanS_pos (l : Ln) : 0 < (loanS l).length := by
  rw [loan_line]
  simp [lineS, nl]
theorem reportS_pos (l : Rp) : 0 < (reportS l).length := by simp [reportS, lineS, nl]
theorem cabX_more {c : Cb} {l : Ln} (h : cabX { c with loans := c.loans ++ [l] } = true) : cabX c = true := by
  unfold cabX at h ⊢
  simp only [Bool.and_eq_true, Bool.not_eq_true', decide_eq_true_eq] at h ⊢
  obtain ⟨⟨⟨⟨⟨h1, h2⟩, h3⟩, h4⟩, h5⟩, h6⟩ := h
  refine ⟨⟨⟨⟨⟨h1, h2⟩, h3⟩, ?_⟩, h5⟩, ?_⟩
  · rw [List.length_append] at h4; omega
  · rw [List.any_eq_false] at h6 ⊢
    exact fun x hx => h6 x (List.mem_append_left _ hx)
theorem royX_more {r : Ry} {l : Rp} (h : royalX { r with reports := r.reports ++ [l] } = true) : royalX r = true := by
  unfold royalX at h ⊢
  simp only [Bool.and_eq_true, Bool.not_eq_true', decide_eq_true_eq] at h ⊢
  obtain ⟨⟨⟨⟨⟨⟨⟨⟨⟨h1, h2⟩, h3⟩, h4⟩, h5⟩, h6⟩, h7⟩, h8⟩, h9⟩, h10⟩ := h
  refine ⟨⟨⟨⟨⟨⟨⟨⟨⟨h1, h2⟩, h3⟩, h4⟩, ?_⟩, h6⟩, h7⟩, h8⟩, h9⟩, ?_⟩
  · rw [List.length_append] at h5; omega
  · rw [List.any_eq_false] at h10 ⊢
    exact fun x hx => h10 x (List.mem_append_left _ hx)
theorem prefix_more (a b : Str) : Lib.hasPrefix (a ++ b) a = true := by
  unfold Lib.hasPrefix
  exact List.isPrefixOf_iff_prefix.2 ⟨b, rfl⟩
/-- What is said of a text, and of the longer one. -/
theorem grows_c {c : Cb} {l : Ln} (h : cabX { c with loans := c.loans ++ [l] } = true) : cabX c = true ∧ Lib.hasPrefix (cabS { c with loans := c.loans ++ [l] }) (cabS c) = true ∧ (cabS c).length < (cabS { c with loans := c.loans ++ [l] }).length := by
  refine ⟨cabX_more h, ?_, ?_⟩
  · rw [cab_more]; exact prefix_more _ _
  · rw [cab_more, List.length_append]; have := loanS_pos l; omega
theorem grows_r {r : Ry} {l : Rp} (h : royalX { r with reports := r.reports ++ [l] } = true) : royalX r = true ∧ Lib.hasPrefix (royalS { r with reports := r.reports ++ [l] }) (royalS r) = true ∧ (royalS r).length < (royalS { r with reports := r.reports ++ [l] }).length := by
  refine ⟨royX_more h, ?_, ?_⟩
  · rw [roy_more]; exact prefix_more _ _
  · rw [roy_more, List.length_append]; have := reportS_pos l; omega
theorem psS_inj {p z : Ps} (hp : printsX p = true) (hz : printsX z = true) : (psS p = psS z) = (p = z) := by
  refine propext ⟨fun h => ?_, fun h => by rw [h]⟩
  have h1 := readPs_ok hp
  rw [h, readPs_ok hz] at h1
  cases h1
  rfl
end Go.Bk
namespace Go.Bk
open Go Go.Eng Go.RowKit
abbrev iSh : Sh := .int .i64
abbrev spSh : Sh := .st [iSh, iSh]
abbrev lnSh : Sh := .st [iSh, iSh, iSh, iSh]
abbrev tmSh : Sh := .st [iSh, iSh, iSh]
abbrev ptSh : Sh := .st [spSh, spSh, iSh]
abbrev cbSh : Sh := .st [iSh, .sl iSh, iSh, .sl lnSh]
abbrev rySh : Sh := .st [.sl tmSh, .sl iSh, .sl (.sl iSh), .sl lnSh, .sl iSh]
abbrev psSh : Sh := .st [.sl ptSh, spSh, spSh]
theorem rd_cons {w : World} {s : Sh} {l : List Sh} {cs : List Value} (h : Rd w (.st (s :: l)) cs) : ∃ a b, cs = a ++ b ∧ Rd w s a ∧ Rd w (.st l) b := by
  cases h with
  | recS h1 h2 => exact ⟨_, _, rfl, h1, h2⟩
theorem rd_nil {w : World} {cs : List Value} (h : Rd w (.st []) cs) : cs = [] := by cases h; rfl
theorem rd_int {w : World} {cs : List Value} (h : Rd w iSh cs) : ∃ n : Int, cs = [.int .i64 n] ∧ True := by cases h; exact ⟨_, rfl, trivial⟩
theorem rd_sp {w : World} {cs : List Value} (h : Rd w spSh cs) : ∃ s : Sp, cs = s.cells ∧ True := by
  obtain ⟨a, b, rfl, h1, h⟩ := rd_cons h
  obtain ⟨c, d, rfl, h2, h⟩ := rd_cons h
  obtain rfl := rd_nil h
  obtain ⟨n, rfl, _⟩ := rd_int h1
  obtain ⟨m, rfl, _⟩ := rd_int h2
  exact ⟨⟨n, m⟩, rfl, trivial⟩
theorem rd_tm {w : World} {cs : List Value} (h : Rd w tmSh cs) : ∃ s : Tm, cs = s.cells ∧ True := by
  obtain ⟨a, b, rfl, h1, h⟩ := rd_cons h
  obtain ⟨c, d, rfl, h2, h⟩ := rd_cons h
  obtain ⟨e, f, rfl, h3, h⟩ := rd_cons h
  obtain rfl := rd_nil h
  obtain ⟨n, rfl, _⟩ := rd_int h1
  obtain ⟨m, rfl, _⟩ := rd_int h2
  obtain ⟨k, rfl, _⟩ := rd_int h3
  exact ⟨⟨n, m, k⟩, rfl, trivial⟩
theorem rd_four {w : World} {cs : List Value} (h : Rd w lnSh cs) : ∃ a b c d : Int, cs = [.int .i64 a, .int .i64 b, .int .i64 c, .int .i64 d] := by
  obtain ⟨a, b, rfl, h1, h⟩ := rd_cons h
  obtain ⟨c, d, rfl, h2, h⟩ := rd_cons h
  obtain ⟨e, f, rfl, h3, h⟩ := rd_cons h
  obtain ⟨i, j, rfl, h4, h⟩ := rd_cons h
  obtain rfl := rd_nil h
  obtain ⟨n, rfl, _⟩ := rd_int h1
  obtain ⟨m, rfl, _⟩ := rd_int h2
  obtain ⟨k, rfl, _⟩ := rd_int h3
  obtain ⟨l, rfl, _⟩ := rd_int h4
  exact ⟨n, m, k, l, rfl⟩
theorem rd_ln {w : World} {cs : List Value} (h : Rd w lnSh cs) : ∃ s : Ln, cs = s.cells ∧ True := by
  obtain ⟨a, b, c, d, rfl⟩ := rd_four h
  exact ⟨⟨a, b, c, d⟩, rfl, trivial⟩
theorem rd_rp {w : World} {cs : List Value} (h : Rd w lnSh cs) : ∃ s : Rp, cs = s.cells ∧ True := by
  obtain ⟨a, b, c, d, rfl⟩ := rd_four h
  exact ⟨⟨a, b, c, d⟩, rfl, trivial⟩
theorem rd_pt {w : World} {cs : List Value} (h : Rd w ptSh cs) : ∃ s : Pt, cs = s.cells ∧ True := by
  obtain ⟨a, b, rfl, h1, h⟩ := rd_cons h
  obtain ⟨c, d, rfl, h2, h⟩ := rd_cons h
  obtain ⟨e, f, rfl, h3, h⟩ := rd_cons h
  obtain rfl := rd_nil h
  obtain ⟨n, rfl, _⟩ := rd_sp h1
  obtain ⟨m, rfl, _⟩ := rd_sp h2
  obtain ⟨k, rfl, _⟩ := rd_int h3
  exact ⟨⟨n, m, k⟩, rfl, trivial⟩
theorem rowsH_of {α : Type} {f : α → List Value} {p : α → Prop} : ∀ {xs : List (List Value)}, (∀ x ∈ xs, ∃ a, x = f a ∧ p a) → ∃ l : List α, xs = l.map f ∧ ∀ a ∈ l, p a
  | [], _ => ⟨[], rfl, fun a h => by cases h⟩
  | x :: xs, h => by
    obtain ⟨a, rfl, ha⟩ := h x (by simp)
    obtain ⟨l, rfl, hl⟩ := rowsH_of (xs := xs) (fun y hy => h y (List.mem_cons_of_mem _ hy))
    exact ⟨a :: l, rfl, fun b hb => by rcases List.mem_cons.1 hb with rfl | hb; exact ha; exact hl b hb⟩
/-- What is known of a slice that comes in. -/
structure SaIn {α : Type} (f : α → List Value) (sz : Nat) (p : α → Prop) (w : World) (s : SA α) : Prop where
  ok : s.ok f sz w
  each : ∀ a ∈ s.l, p a
  cap : s.l.length ≤ s.c
  few : s.c ≤ maxLen
  nq : s.q = none → s.l.length = 0 ∧ s.c = 0
theorem rd_sa {α : Type} {f : α → List Value} {p : α → Prop} {w : World} {e : Sh} (hx : ∀ {x}, Rd w e x → ∃ a, x = f a ∧ p a) {cs : List Value} (h : Rd w (.sl e) cs) : ∃ s : SA α, cs = [s.v] ∧ SaIn f e.size p w s := by
  cases h with
  | slNil => exact ⟨⟨[], none, 0, 0, 0⟩, rfl, ⟨Sl.emp, (fun a h => by cases h), Nat.le_refl _, Nat.zero_le _, fun _ => ⟨rfl, rfl⟩⟩⟩
  | sl hs hl hc h =>
    obtain ⟨l, rfl, hl2⟩ := rowsH_of (f := f) (p := p) (fun x hx' => hx (h x hx'))
    rw [List.length_map] at hl
    exact ⟨⟨l, some _, _, _, _⟩, by rw [List.length_map]; rfl, ⟨hs, hl2, hl, hc, fun h => by cases h⟩⟩
theorem rd_ps {w : World} {cs : List Value} (h : Rd w psSh cs) : ∃ t : PsA, cs = t.cells ∧ SaIn Pt.cells 5 (fun _ => True) w t.cards := by
  obtain ⟨_, _, rfl, h1, h⟩ := rd_cons h
  obtain ⟨_, _, rfl, h2, h⟩ := rd_cons h
  obtain ⟨_, _, rfl, h3, h⟩ := rd_cons h
  obtain rfl := rd_nil h
  obtain ⟨a, rfl, ha⟩ := rd_sa rd_pt h1
  obtain ⟨b, rfl, _⟩ := rd_sp h2
  obtain ⟨c, rfl, _⟩ := rd_sp h3
  exact ⟨⟨a, b, c⟩, rfl, ha⟩
def nilTA : TrA := ⟨0, ⟨[], none, 0, 0, 0⟩, ⟨[], none, 0, 0, 0⟩, ⟨[], none, 0, 0, 0⟩, ⟨[], none, 0, 0, 0⟩⟩
theorem nilTA_ok (w : World) : TrOk w nilTA := ⟨Sl.emp, Sl.emp, (fun x h => by cases h), Sl.emp, Sl.emp, fun _ => ⟨rfl, rfl⟩⟩
theorem Few.sm {t : TrA} {c : CbA} {r : RyA} {p : PsA} (h : Few t.pl c.pl r.pl p.pl) : TrSm t ∧ CbS c ∧ RySm r ∧ p.cards.l.length ≤ 10000 := by
  obtain ⟨h1, h2, h3, h4, h5, h6, h7, h8, h9, h10, h11, h12, h13, h14⟩ := h
  have e1 : t.pl.ways.length = t.ways.l.length := by simp [TrA.pl]
  have e2 : r.pl.shares.length = r.shares.l.length := by simp [RyA.pl]
  rw [e1] at h2
  rw [e2] at h12
  refine ⟨⟨Nat.le_trans h1 (by decide), Nat.le_trans h2 (by decide), fun x hx => Nat.le_trans (h3 x.l (List.mem_map.2 ⟨x, hx, rfl⟩)) (by decide), Nat.le_trans h4 (by decide), Nat.le_trans h5 (by decide)⟩, ⟨Nat.le_trans h6 (by decide), Nat.le_trans h7 (by decide)⟩,
    ⟨Nat.le_trans h9 (by decide), Nat.le_trans h11 (by decide), Nat.le_trans h12 (by decide), fun x hx => Nat.le_trans (h13 x.l (List.mem_map.2 ⟨x, hx, rfl⟩)) (by decide), Nat.le_trans h14 (by decide), Nat.le_trans h10 (by decide)⟩, Nat.le_trans h8 (by decide)⟩
theorem ite_one {b : Bool} (h : (if b = true then (0 : Int) else 1) = 0) : b = true := by cases b <;> simp_all
end Go.Bk
namespace Go.Proofs.YtleamcmljcdapabGreatDoor
open Go Go.Eng
theorem boolB_4 : boolB Tryz.prog 4 = true := by kernel_rfl
theorem ent_8 : Enters Tryz.prog 8 := enters_of Tryz.func8 (by kernel_rfl) rfl
end Go.Proofs.YtleamcmljcdapabGreatDoor
namespace Go.Proofs.YtleamcmljcdapabGreatDoor
open Go Go.Eng
theorem ent_22 : Enters Tryz.prog 22 := enters_of Tryz.func22 (by kernel_rfl) rfl
end Go.Proofs.YtleamcmljcdapabGreatDoor
namespace Go.Eng
open Go Go.RowKit
end Go.Eng
namespace Go.Bk
open Go Go.Eng Go.RowKit
theorem sa_src {α : Type} {f : α → List Value} {sz : Nat} (hz : 0 < sz) {s : SA α} {W w : World} {news : Blks} (h : s.ok f sz W) (hm : Mem W [] news w) :
    ∀ j u, (s.l.map f).flatten[j]? = some u → ∃ ad, s.q = some ad ∧ w.cell? (ad.add j) = some u := (SA.ok.mono0 h hz hm).flat hz
theorem pt_one {l : List Pt} : ∀ u ∈ (l.map Pt.cells).flatten, u.oneCell' = true := fun u hu => by
  obtain ⟨a, ha, hu⟩ := List.mem_flatten.1 hu
  obtain ⟨x, _, rfl⟩ := List.mem_map.1 ha
  simp only [Pt.cells, List.mem_cons, List.not_mem_nil, or_false] at hu
  rcases hu with rfl | rfl | rfl | rfl | rfl <;> rfl
theorem pt_len {l : List Pt} : (l.map Pt.cells).flatten.length = l.length * 5 := flat_len (f := Pt.cells) (sz := 5) (fun _ => rfl) l
theorem ownB_some {e : TypeId} {b c : Nat} {r xs : List Value} : ownB e (some (b, c, r)) xs = [(b, .cells (xs ++ r).toArray e (0, 0))] := rfl
end Go.Bk
namespace Go.Proofs.YtleamcmljcdapabGreatDoor
open Go Go.Eng Go.Bk Go.RowKit

end Go.Proofs.YtleamcmljcdapabGreatDoor
namespace Go.Proofs
open Go.Shelf
def Tryz.lays99_ren : Go.Shelf.Ren := ⟨fun | 99 => 26 | 206 => 54 | n => n, fun | 9 => 9 | 4 => 4 | 3 => 3 | n => n, fun | n => n⟩
theorem Tryz.lays99 : Go.Proofs.Lays.n99 Tryz.prog Tryz.lays99_ren := {
  mixed := by kernel_rfl
  f99 := Tryz.func26.trans (congrArg some (by kernel_rfl))
  f206 := Tryz.func54.trans (congrArg some (by kernel_rfl))
  t3 := Tryz.underlying3
  a3 := Tryz.isAgg3
  z3 := Tryz.sizeOf3
  v3 := Tryz.zeroValue3
  t4 := Tryz.underlying4
  a4 := Tryz.isAgg4
  z4 := Tryz.sizeOf4
  v4 := Tryz.zeroValue4
  t9 := Tryz.underlying9
  a9 := Tryz.isAgg9
  z9 := Tryz.sizeOf9
  v9 := Tryz.zeroValue9 }
open Go.RowKit Go.Lib in
theorem Tryz.strings_HasPrefix (s p : ByteArray) (w : World) :
    Calls Tryz.prog 26 #[.string s, .string p] w fun e w' => e = .returned (.bool (Lib.hasPrefix s.data.toList p.data.toList)) ∧ w' = w := Any.strings_HasPrefix Tryz.lays99 s p w
end Go.Proofs
namespace Go.Proofs.YtleamcmljcdapabGreatDoor
open Go Go.Eng
theorem ent_26 : Enters Tryz.prog 26 := enters_of Tryz.func26 (by kernel_rfl) rfl
end Go.Proofs.YtleamcmljcdapabGreatDoor
