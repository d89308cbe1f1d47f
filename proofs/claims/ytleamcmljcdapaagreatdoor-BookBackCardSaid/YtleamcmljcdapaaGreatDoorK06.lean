/- Walks of the law of layer 14: BookBack. -/
import Derived.Test.YtleamcmljcdapaaGreatDoorK05
set_option linter.unusedSimpArgs false
set_option linter.unusedVariables false
namespace Go.Bk
open Go Go.Eng Go.RowKit
end Go.Bk
namespace Go.Proofs.YtleamcmljcdapaaGreatDoor
open Go Go.Eng Go.Bk Go.RowKit

set_option maxHeartbeats 2000000 in
theorem back_law (t : TrA) (c : CbA) (r : RyA) (p : PsA) (W : World) (hL : Lw Tryz.prog W) (hT : TrOk W t) (hC : CbOk W c) (hR : RyOk W r) (hP : p.cards.ok Pt.cells 5 W) (hn1 : t.ways.l.length ≤ 9223372036854775807) (hn2 : r.shares.l.length ≤ 9223372036854775807) : Calls Tryz.prog 7 #[t.v, c.v, r.v, p.v] W (Pure (.bool true) W) := by
  refine calls_start Tryz.func7 rfl rfl ?_
  refine csr ?_
  refine RunL.new (New.box rfl) rfl rfl rfl (fun b4 => ?_)
  refine RunL.new (New.box rfl) rfl rfl rfl (fun b5 => ?_)
  refine RunL.new (New.box rfl) rfl rfl rfl (fun b6 => ?_)
  refine RunL.new (New.box rfl) rfl rfl rfl (fun b7 => ?_)
  refine vp rfl rfl rfl rfl ?_
  refine nnx ?_
  refine RunC.seq ?_
  refine csr ?_
  refine RunL.val (Val.load_agg rfl (.tail _ (.tail _ (.tail _ (.head _)))) ty_25 rfl) rfl rfl rfl ?_
  refine RunL.val (Val.load_agg rfl (.tail _ (.tail _ (.head _))) ty_30 rfl) rfl rfl rfl ?_
  refine RunL.val (Val.load_agg rfl (.tail _ (.head _)) ty_35 rfl) rfl rfl rfl ?_
  refine RunL.val (Val.load_agg rfl (.head _) ty_40 rfl) rfl rfl rfl ?_
  refine RunL.callP (isCall_func rfl ent_8) rfl rfl rfl (fun w hm => great_calls t c r p w (hT.mono0 hm) (hR.mono0 hm) hn1 hn2) ?_
  refine nnx ?_
  refine RunC.cond rfl ?_ ?_
  ·intro c0
   have c0' := c0; clear c0
   try simp only [nH] at c0'
   refine csr ?_
   refine RunL.callP (isCall_func rfl ent_9) rfl rfl rfl (fun w hm => alive_calls w (hL.mono hm)) ?_
   refine vp rfl rfl rfl rfl ?_
   refine nnx ?_
   refine RunC.ret ?_
   refine RunE.pass_ret ?_
   exact RunE.retP (.r1 rfl (.tmp rfl)) (by first | rfl | simp)
  intro c0
  have c0' := c0; clear c0
  try simp only [nH] at c0'
  obtain ⟨hst, hsc, hsr, hsp⟩ := (few_of (by simpa using c0')).sm
  have hcr : cabX c.pl = (rcabX c.pl && c.loans.l.all plainL) := cab_r c.pl
  refine RunC.skip ?_
  refine RunE.next ?_
  refine csr ?_
  refine RunL.val (Val.load_agg rfl (.tail _ (.tail _ (.tail _ (.head _)))) ty_25 rfl) rfl rfl rfl ?_
  refine RunL.callP (isCall_func rfl ent_10) rfl rfl rfl (fun w hm => WriteTour_calls t hst w (hL.mono hm) (hT.mono0 hm)) ?_
  iterate 5 refine vp rfl rfl rfl rfl ?_
  refine nsr ?_
  refine RunL.val (Val.load_agg rfl (.tail _ (.tail _ (.head _))) ty_30 rfl) rfl rfl rfl ?_
  refine RunL.callP (isCall_func rfl ent_15) rfl rfl rfl (fun w hm => WriteCabinet_calls c hsc w (hL.mono hm) (hC.mono0 hm)) ?_
  iterate 5 refine vp rfl rfl rfl rfl ?_
  refine nsr ?_
  refine RunL.val (Val.load_agg rfl (.tail _ (.head _)) ty_35 rfl) rfl rfl rfl ?_
  refine RunL.callP (isCall_func rfl ent_19) rfl rfl rfl (fun w hm => WriteRoyal_calls r hsr w (hL.mono hm) (hR.mono0 hm)) ?_
  iterate 5 refine vp rfl rfl rfl rfl ?_
  refine nsr ?_
  refine RunL.val (Val.load_agg rfl (.head _) ty_40 rfl) rfl rfl rfl ?_
  refine RunL.callNT (isCall_func rfl ent_25) rfl rfl rfl (fun w hm => (writePrints_any p hsp w (SA.ok.mono0 hP (by decide) hm))) (fun z48 => ?_)
  obtain ⟨y48, hy48⟩ := z48
  dsimp only
  iterate 5 refine vp rfl rfl rfl rfl ?_
  refine nnx ?_
  refine RunC.seq ?_
  refine csr ?_
  refine vp rfl rfl rfl rfl ?_
  refine vp rfl rfl rfl rfl ?_
  refine RunL.val (Val.load_agg rfl (.tail _ (.tail _ (.tail _ (.head _)))) ty_25 rfl) rfl rfl rfl ?_
  refine RunL.callP (isCall_func rfl ent_32) rfl rfl rfl (fun w hm => rTour_calls t hst w (hT.mono0 hm)) ?_
  refine RunL.val (Val.neq_bool rfl rfl boolB_4) rfl rfl rfl ?_
  refine vp rfl rfl rfl rfl ?_
  refine RunL.orPart (dj := 56) (dp := 66) 10 rfl (fun g56 => by
    have g56' := g56
    try simp only [nH] at g56'
    refine vp rfl rfl rfl rfl ?_
    refine vp rfl rfl rfl rfl ?_
    refine RunL.val (Val.load_agg rfl (.tail _ (.tail _ (.head _))) ty_30 rfl) rfl rfl rfl ?_
    refine RunL.callP (isCall_func rfl ent_33) rfl rfl rfl (fun w hm => rCabinet_calls c hsc w (hC.mono0 hm)) ?_
    refine vp rfl rfl rfl rfl ?_
    refine RunL.andPart (dj := 61) (dp := 64) 3 rfl (fun g61 => by
      have g61' := g61
      try simp only [nH] at g61'
      refine RunL.val (Val.load_agg rfl (.tail _ (.tail _ (.head _))) ty_30 rfl) rfl rfl rfl ?_
      refine RunL.callP (isCall_func rfl ent_34) rfl rfl rfl (fun w hm => rplain_calls c hsc w (hC.mono0 hm)) ?_
      refine vp rfl rfl rfl rfl ?_
      exact RunL.segEnd (Sub.cons rfl (Sub.skip rfl (Sub.skip rfl (Sub.skip rfl (Sub.same rfl (by rw [g61]) (Sub.refl _)))))) (List.Sublist.refl _)
    ) (fun g61 => by
      have g61' := g61
      try simp only [nH] at g61'
      refine RunL.no rfl rfl rfl ?_
      refine RunL.no rfl rfl rfl ?_
      refine vp rfl rfl rfl rfl ?_
      exact RunL.segEnd (Sub.cons rfl (Sub.skip rfl (Sub.skip rfl (Sub.skip rfl (Sub.same rfl (by rw [g61]) (Sub.refl _)))))) (List.Sublist.refl _)
    ) ?_
    refine RunL.val (Val.neq_bool rfl rfl boolB_4) rfl rfl rfl ?_
    refine vp rfl rfl rfl rfl ?_
    exact RunL.segEnd (Sub.cons rfl (Sub.skip rfl (Sub.skip rfl (Sub.skip rfl (Sub.skip rfl (Sub.skip rfl (Sub.skip rfl (Sub.skip rfl (Sub.skip rfl (Sub.same rfl (by rw [g56]) (Sub.refl _))))))))))) (List.Sublist.refl _)
  ) (fun g56 => by
    have g56' := g56
    try simp only [nH] at g56'
    iterate 9 refine RunL.no rfl rfl rfl ?_
    refine vp rfl rfl rfl rfl ?_
    exact RunL.segEnd (Sub.cons rfl (Sub.skip rfl (Sub.skip rfl (Sub.skip rfl (Sub.skip rfl (Sub.skip rfl (Sub.skip rfl (Sub.skip rfl (Sub.skip rfl (Sub.skip rfl (Sub.skip rfl (Sub.same rfl (by rw [g56]) (Sub.refl _))))))))))))) (List.Sublist.refl _)
  ) ?_
  refine vp rfl rfl rfl rfl ?_
  refine RunL.orPart (dj := 67) (dp := 73) 6 rfl (fun g67 => by
    have g67' := g67
    try simp only [nH] at g67'
    refine vp rfl rfl rfl rfl ?_
    refine vp rfl rfl rfl rfl ?_
    refine RunL.val (Val.load_agg rfl (.tail _ (.head _)) ty_35 rfl) rfl rfl rfl ?_
    refine RunL.callP (isCall_func rfl ent_35) rfl rfl rfl (fun w hm => rRoyal_calls r hsr w (hR.mono0 hm)) ?_
    refine RunL.val (Val.neq_bool rfl rfl boolB_4) rfl rfl rfl ?_
    refine vp rfl rfl rfl rfl ?_
    exact RunL.segEnd (Sub.cons rfl (Sub.skip rfl (Sub.skip rfl (Sub.skip rfl (Sub.skip rfl (Sub.skip rfl (Sub.skip rfl (Sub.same rfl (by rw [g67]) (Sub.refl _))))))))) (List.Sublist.refl _)
  ) (fun g67 => by
    have g67' := g67
    try simp only [nH] at g67'
    iterate 5 refine RunL.no rfl rfl rfl ?_
    refine vp rfl rfl rfl rfl ?_
    exact RunL.segEnd (Sub.cons rfl (Sub.skip rfl (Sub.skip rfl (Sub.skip rfl (Sub.skip rfl (Sub.skip rfl (Sub.skip rfl (Sub.same rfl (by rw [g67]) (Sub.refl _))))))))) (List.Sublist.refl _)
  ) ?_
  refine vp rfl rfl rfl rfl ?_
  refine RunL.orPart (dj := 74) (dp := 80) 6 rfl (fun g74 => by
    have g74' := g74
    try simp only [nH] at g74'
    refine vp rfl rfl rfl rfl ?_
    refine vp rfl rfl rfl rfl ?_
    refine RunL.val (Val.load_agg rfl (.head _) ty_40 rfl) rfl rfl rfl ?_
    refine RunL.callP (isCall_func rfl ent_36) rfl rfl rfl (fun w hm => rPrints_calls p hsp w (SA.ok.mono0 hP (by decide) hm)) ?_
    refine RunL.val (Val.neq_bool rfl rfl boolB_4) rfl rfl rfl ?_
    refine vp rfl rfl rfl rfl ?_
    exact RunL.segEnd (Sub.cons rfl (Sub.skip rfl (Sub.skip rfl (Sub.skip rfl (Sub.skip rfl (Sub.skip rfl (Sub.skip rfl (Sub.same rfl (by rw [g74]) (Sub.refl _))))))))) (List.Sublist.refl _)
  ) (fun g74 => by
    have g74' := g74
    try simp only [nH] at g74'
    iterate 5 refine RunL.no rfl rfl rfl ?_
    refine vp rfl rfl rfl rfl ?_
    exact RunL.segEnd (Sub.cons rfl (Sub.skip rfl (Sub.skip rfl (Sub.skip rfl (Sub.skip rfl (Sub.skip rfl (Sub.skip rfl (Sub.same rfl (by rw [g74]) (Sub.refl _))))))))) (List.Sublist.refl _)
  ) ?_
  refine nnx ?_
  refine RunC.cond rfl (fun h => absurd h (by rw [hcr]; unfold wpE; cases tourX t.pl <;> cases rcabX c.pl <;> cases c.loans.l.all plainL <;> cases royalX r.pl <;> cases printsX p.pl <;> simp)) ?_
  intro c1
  clear c1
  refine RunC.skip ?_
  refine RunE.next ?_
  refine RunC.seq ?_
  refine csr ?_
  iterate 3 refine vp rfl rfl rfl rfl ?_
  refine RunL.andPart (dj := 83) (dp := 90) 7 rfl (fun g83 => by
    have g83' := g83
    try simp only [nH] at g83'
    iterate 3 refine vp rfl rfl rfl rfl ?_
    refine RunL.orPart (dj := 86) (dp := 89) 3 rfl (fun g86 => by
      have g86' := g86
      try simp only [nH] at g86'
      refine vp rfl rfl rfl rfl ?_
      refine RunL.val (Val.neqStr rfl rfl) rfl rfl rfl ?_
      refine vp rfl rfl rfl rfl ?_
      exact RunL.segEnd (Sub.cons rfl (Sub.skip rfl (Sub.skip rfl (Sub.skip rfl (Sub.same rfl (by rw [g86]) (Sub.refl _)))))) (List.Sublist.refl _)
    ) (fun g86 => by
      have g86' := g86
      try simp only [nH] at g86'
      refine RunL.no rfl rfl rfl ?_
      refine RunL.no rfl rfl rfl ?_
      refine vp rfl rfl rfl rfl ?_
      exact RunL.segEnd (Sub.cons rfl (Sub.skip rfl (Sub.skip rfl (Sub.skip rfl (Sub.same rfl (by rw [g86]) (Sub.refl _)))))) (List.Sublist.refl _)
    ) ?_
    refine vp rfl rfl rfl rfl ?_
    exact RunL.segEnd (Sub.cons rfl (Sub.skip rfl (Sub.skip rfl (Sub.skip rfl (Sub.skip rfl (Sub.skip rfl (Sub.same rfl (by rw [g83]) (Sub.refl _)))))))) (List.Sublist.refl _)
  ) (fun g83 => by
    have g83' := g83
    try simp only [nH] at g83'
    iterate 6 refine RunL.no rfl rfl rfl ?_
    refine vp rfl rfl rfl rfl ?_
    exact RunL.segEnd (Sub.cons rfl (Sub.skip rfl (Sub.skip rfl (Sub.skip rfl (Sub.skip rfl (Sub.skip rfl (Sub.skip rfl (Sub.skip rfl (Sub.same rfl (by rw [g83]) (Sub.refl _)))))))))) (List.Sublist.refl _)
  ) ?_
  refine vp rfl rfl rfl rfl ?_
  refine RunL.orPart (dj := 91) (dp := 102) 11 rfl (fun g91 => by
    have g91' := g91
    try simp only [nH] at g91'
    iterate 3 refine vp rfl rfl rfl rfl ?_
    refine RunL.andPart (dj := 94) (dp := 101) 7 rfl (fun g94 => by
      have g94' := g94
      try simp only [nH] at g94'
      iterate 3 refine vp rfl rfl rfl rfl ?_
      refine RunL.orPart (dj := 97) (dp := 100) 3 rfl (fun g97 => by
        have g97' := g97
        try simp only [nH] at g97'
        refine vp rfl rfl rfl rfl ?_
        refine RunL.val (Val.neqStr rfl rfl) rfl rfl rfl ?_
        refine vp rfl rfl rfl rfl ?_
        exact RunL.segEnd (Sub.cons rfl (Sub.skip rfl (Sub.skip rfl (Sub.skip rfl (Sub.same rfl (by rw [g97]) (Sub.refl _)))))) (List.Sublist.refl _)
      ) (fun g97 => by
        have g97' := g97
        try simp only [nH] at g97'
        refine RunL.no rfl rfl rfl ?_
        refine RunL.no rfl rfl rfl ?_
        refine vp rfl rfl rfl rfl ?_
        exact RunL.segEnd (Sub.cons rfl (Sub.skip rfl (Sub.skip rfl (Sub.skip rfl (Sub.same rfl (by rw [g97]) (Sub.refl _)))))) (List.Sublist.refl _)
      ) ?_
      refine vp rfl rfl rfl rfl ?_
      exact RunL.segEnd (Sub.cons rfl (Sub.skip rfl (Sub.skip rfl (Sub.skip rfl (Sub.skip rfl (Sub.skip rfl (Sub.same rfl (by rw [g94]) (Sub.refl _)))))))) (List.Sublist.refl _)
    ) (fun g94 => by
      have g94' := g94
      try simp only [nH] at g94'
      iterate 6 refine RunL.no rfl rfl rfl ?_
      refine vp rfl rfl rfl rfl ?_
      exact RunL.segEnd (Sub.cons rfl (Sub.skip rfl (Sub.skip rfl (Sub.skip rfl (Sub.skip rfl (Sub.skip rfl (Sub.skip rfl (Sub.skip rfl (Sub.same rfl (by rw [g94]) (Sub.refl _)))))))))) (List.Sublist.refl _)
    ) ?_
    refine vp rfl rfl rfl rfl ?_
    exact RunL.segEnd (Sub.cons rfl (Sub.skip rfl (Sub.skip rfl (Sub.skip rfl (Sub.skip rfl (Sub.skip rfl (Sub.same rfl (by rw [g91]) (Sub.refl _)))))))) (List.Sublist.refl _)
  ) (fun g91 => by
    have g91' := g91
    try simp only [nH] at g91'
    iterate 10 refine RunL.no rfl rfl rfl ?_
    refine vp rfl rfl rfl rfl ?_
    exact RunL.segEnd (Sub.cons rfl (Sub.skip rfl (Sub.skip rfl (Sub.skip rfl (Sub.skip rfl (Sub.skip rfl (Sub.skip rfl (Sub.skip rfl (Sub.skip rfl (Sub.skip rfl (Sub.skip rfl (Sub.skip rfl (Sub.same rfl (by rw [g91]) (Sub.refl _)))))))))))))) (List.Sublist.refl _)
  ) ?_
  refine vp rfl rfl rfl rfl ?_
  refine RunL.orPart (dj := 103) (dp := 114) 11 rfl (fun g103 => by
    have g103' := g103
    try simp only [nH] at g103'
    iterate 3 refine vp rfl rfl rfl rfl ?_
    refine RunL.andPart (dj := 106) (dp := 113) 7 rfl (fun g106 => by
      have g106' := g106
      try simp only [nH] at g106'
      iterate 3 refine vp rfl rfl rfl rfl ?_
      refine RunL.orPart (dj := 109) (dp := 112) 3 rfl (fun g109 => by
        have g109' := g109
        try simp only [nH] at g109'
        refine vp rfl rfl rfl rfl ?_
        refine RunL.val (Val.neqStr rfl rfl) rfl rfl rfl ?_
        refine vp rfl rfl rfl rfl ?_
        exact RunL.segEnd (Sub.cons rfl (Sub.skip rfl (Sub.skip rfl (Sub.skip rfl (Sub.same rfl (by rw [g109]) (Sub.refl _)))))) (List.Sublist.refl _)
      ) (fun g109 => by
        have g109' := g109
        try simp only [nH] at g109'
        refine RunL.no rfl rfl rfl ?_
        refine RunL.no rfl rfl rfl ?_
        refine vp rfl rfl rfl rfl ?_
        exact RunL.segEnd (Sub.cons rfl (Sub.skip rfl (Sub.skip rfl (Sub.skip rfl (Sub.same rfl (by rw [g109]) (Sub.refl _)))))) (List.Sublist.refl _)
      ) ?_
      refine vp rfl rfl rfl rfl ?_
      exact RunL.segEnd (Sub.cons rfl (Sub.skip rfl (Sub.skip rfl (Sub.skip rfl (Sub.skip rfl (Sub.skip rfl (Sub.same rfl (by rw [g106]) (Sub.refl _)))))))) (List.Sublist.refl _)
    ) (fun g106 => by
      have g106' := g106
      try simp only [nH] at g106'
      iterate 6 refine RunL.no rfl rfl rfl ?_
      refine vp rfl rfl rfl rfl ?_
      exact RunL.segEnd (Sub.cons rfl (Sub.skip rfl (Sub.skip rfl (Sub.skip rfl (Sub.skip rfl (Sub.skip rfl (Sub.skip rfl (Sub.skip rfl (Sub.same rfl (by rw [g106]) (Sub.refl _)))))))))) (List.Sublist.refl _)
    ) ?_
    refine vp rfl rfl rfl rfl ?_
    exact RunL.segEnd (Sub.cons rfl (Sub.skip rfl (Sub.skip rfl (Sub.skip rfl (Sub.skip rfl (Sub.skip rfl (Sub.same rfl (by rw [g103]) (Sub.refl _)))))))) (List.Sublist.refl _)
  ) (fun g103 => by
    have g103' := g103
    try simp only [nH] at g103'
    iterate 10 refine RunL.no rfl rfl rfl ?_
    refine vp rfl rfl rfl rfl ?_
    exact RunL.segEnd (Sub.cons rfl (Sub.skip rfl (Sub.skip rfl (Sub.skip rfl (Sub.skip rfl (Sub.skip rfl (Sub.skip rfl (Sub.skip rfl (Sub.skip rfl (Sub.skip rfl (Sub.skip rfl (Sub.skip rfl (Sub.same rfl (by rw [g103]) (Sub.refl _)))))))))))))) (List.Sublist.refl _)
  ) ?_
  refine vp rfl rfl rfl rfl ?_
  refine RunL.orPart (dj := 115) (dp := 127) 12 rfl (fun g115 => by
    have g115' := g115
    try simp only [nH] at g115'
    iterate 3 refine vp rfl rfl rfl rfl ?_
    refine RunL.andPart (dj := 118) (dp := 126) 8 rfl (fun g118 => by
      have g118' := g118
      try simp only [nH] at g118'
      iterate 3 refine vp rfl rfl rfl rfl ?_
      refine RunL.orPart (dj := 121) (dp := 125) 4 rfl (fun g121 => by
        have g121' := g121
        try simp only [nH] at g121'
        refine vp rfl rfl rfl rfl ?_
        refine RunL.val (Val.len_own rfl sl_58 hy48) rfl rfl rfl ?_
        refine vp rfl rfl rfl rfl ?_
        refine vp rfl rfl rfl rfl ?_
        exact RunL.segEnd (Sub.cons rfl (Sub.skip rfl (Sub.skip rfl (Sub.skip rfl (Sub.skip rfl (Sub.same rfl (by rw [g121]) (Sub.refl _))))))) (List.Sublist.refl _)
      ) (fun g121 => by
        have g121' := g121
        try simp only [nH] at g121'
        iterate 3 refine RunL.no rfl rfl rfl ?_
        refine vp rfl rfl rfl rfl ?_
        exact RunL.segEnd (Sub.cons rfl (Sub.skip rfl (Sub.skip rfl (Sub.skip rfl (Sub.skip rfl (Sub.same rfl (by rw [g121]) (Sub.refl _))))))) (List.Sublist.refl _)
      ) ?_
      refine vp rfl rfl rfl rfl ?_
      exact RunL.segEnd (Sub.cons rfl (Sub.skip rfl (Sub.skip rfl (Sub.skip rfl (Sub.skip rfl (Sub.skip rfl (Sub.same rfl (by rw [g118]) (Sub.refl _)))))))) (List.Sublist.refl _)
    ) (fun g118 => by
      have g118' := g118
      try simp only [nH] at g118'
      iterate 7 refine RunL.no rfl rfl rfl ?_
      refine vp rfl rfl rfl rfl ?_
      exact RunL.segEnd (Sub.cons rfl (Sub.skip rfl (Sub.skip rfl (Sub.skip rfl (Sub.skip rfl (Sub.skip rfl (Sub.skip rfl (Sub.skip rfl (Sub.skip rfl (Sub.same rfl (by rw [g118]) (Sub.refl _))))))))))) (List.Sublist.refl _)
    ) ?_
    refine vp rfl rfl rfl rfl ?_
    exact RunL.segEnd (Sub.cons rfl (Sub.skip rfl (Sub.skip rfl (Sub.skip rfl (Sub.skip rfl (Sub.skip rfl (Sub.same rfl (by rw [g115]) (Sub.refl _)))))))) (List.Sublist.refl _)
  ) (fun g115 => by
    have g115' := g115
    try simp only [nH] at g115'
    iterate 11 refine RunL.no rfl rfl rfl ?_
    refine vp rfl rfl rfl rfl ?_
    exact RunL.segEnd (Sub.cons rfl (Sub.skip rfl (Sub.skip rfl (Sub.skip rfl (Sub.skip rfl (Sub.skip rfl (Sub.skip rfl (Sub.skip rfl (Sub.skip rfl (Sub.skip rfl (Sub.skip rfl (Sub.skip rfl (Sub.skip rfl (Sub.same rfl (by rw [g115]) (Sub.refl _))))))))))))))) (List.Sublist.refl _)
  ) ?_
  refine nnx ?_
  refine RunC.cond rfl (fun h => absurd h (by unfold wpS wpE; cases tourX t.pl <;> cases cabX c.pl <;> cases royalX r.pl <;> cases printsX p.pl <;> simp)) ?_
  intro c2
  clear c2
  refine RunC.skip ?_
  refine RunE.next ?_
  refine RunC.seqJ (X := Unit) (n0 := [(b4, _), (b5, _), (b6, _), (b7, _)]) (fun x q => q) (fun x => []) (fun x => []) (fun x => ownB 5 y48 (byc (wpS p.pl)) ++ []) (fun x => True) (Sub.cons (t := 4) rfl (Sub.cons (t := 5) rfl (Sub.cons (t := 6) rfl (Sub.cons (t := 7) rfl (Sub.cons (t := 11) rfl (Sub.cons (t := 12) rfl (Sub.cons (t := 13) rfl (Sub.cons (t := 14) rfl (Sub.cons (t := 15) rfl (Sub.cons (t := 16) rfl (Sub.nil _))))))))))) (.cons (.there (.there (.there .here))) rfl (.cons (.there (.there .here)) rfl (.cons (.there .here) rfl (.cons .here rfl .nil)))) ?_ ?_
  ·refine csr ?_
   refine vp rfl rfl rfl rfl ?_
   refine vp rfl rfl rfl rfl ?_
   refine nnx ?_
   refine RunC.cond rfl ?_ ?_
   ·intro c3
    have c3' := c3; clear c3
    try simp only [nH] at c3'
    have hTX := ite_one (by simpa using c3')
    have eT : (if tourX t.pl = true then tourS t.pl else []) = tourS t.pl := if_pos hTX
    refine csr ?_
    refine vp rfl rfl rfl rfl ?_
    refine RunL.callNA [(b7, _), (b6, _), (b5, _), (b4, _)] _ rfl (isCall_func rfl ent_12) rfl rfl rfl (fun w hm => grow_news (ReadTour_calls (if tourX t.pl = true then tourS t.pl else []) w (hL.mono hm) (by rw [eT]; exact Nat.le_trans (tour_small hTX) (by decide)))) (fun z132 => ?_)
    obtain ⟨⟨x132, e132⟩, h132⟩ := z132
    rw [eT] at h132
    obtain ⟨p132, e1132, o132⟩ := rd_ok h132 (tour_back hTX)
    subst e1132
    dsimp only
    iterate 3 refine vp rfl rfl rfl rfl ?_
    refine RunL.new (New.alloc zero_25) rfl rfl rfl (fun b17 => ?_)
    refine RunL.sto (Sto.store (cs := zsrdT) (cs' := x132.cells) rfl rfl .here ty_25 rfl (paste_over rfl (one_trX _))) rfl rfl ?_
    refine vp rfl rfl rfl rfl ?_
    refine nsr ?_
    iterate 3 refine vp rfl rfl rfl rfl ?_
    refine RunL.orPart (dj := 137) (dp := 142) 5 rfl (fun g137 => by
      have g137' := g137
      try simp only [nH] at g137'
      refine RunL.val (Val.load_agg rfl (.head _) ty_25 rfl) rfl rfl rfl ?_
      refine RunL.val (Val.load_agg rfl (.tail _ (.tail _ (.tail _ (.tail _ (.head _))))) ty_25 rfl) rfl rfl rfl ?_
      refine RunL.callP (isCall_func rfl ent_14) rfl rfl rfl (fun w hm => (pure_true (sameTX_calls x132 o132 t hst [] W w (hm.pick (news' := trB x132 ++ []) (Pick.cnt fun x => by simp only [nC]; omega)) (hT.mono0 hm)) p132)) ?_
      refine vp rfl rfl rfl rfl ?_
      refine vp rfl rfl rfl rfl ?_
      exact RunL.segEnd (Sub.cons rfl (Sub.skip rfl (Sub.skip rfl (Sub.skip rfl (Sub.skip rfl (Sub.skip rfl (Sub.same rfl (by rw [g137]) (Sub.refl _)))))))) (List.Sublist.refl _)
    ) (fun g137 => by
      have g137' := g137
      try simp only [nH] at g137'
      iterate 4 refine RunL.no rfl rfl rfl ?_
      refine vp rfl rfl rfl rfl ?_
      exact RunL.segEnd (Sub.cons rfl (Sub.skip rfl (Sub.skip rfl (Sub.skip rfl (Sub.skip rfl (Sub.skip rfl (Sub.same rfl (by rw [g137]) (Sub.refl _)))))))) (List.Sublist.refl _)
    ) ?_
    refine nnx ?_
    refine RunC.cond rfl (fun h => absurd h (by simp)) ?_
    intro c4
    clear c4
    refine RunC.skip ?_
    exact RunE.meet () trivial rfl (Sub.cons (t := 4) rfl (Sub.cons (t := 5) rfl (Sub.cons (t := 6) rfl (Sub.cons (t := 7) rfl (Sub.cons (t := 11) rfl (Sub.cons (t := 12) rfl (Sub.cons (t := 13) rfl (Sub.cons (t := 14) rfl (Sub.cons (t := 15) rfl (Sub.cons (t := 16) rfl (Sub.nil _))))))))))) (.cons (.there (.there (.there (.there .here)))) rfl (.cons (.there (.there (.there .here))) rfl (.cons (.there (.there .here)) rfl (.cons (.there .here) rfl (Pick.cnt fun x => by simp only [nC]; omega)))))
   intro c3
   have c3' := c3; clear c3
   try simp only [nH] at c3'
   refine RunC.skip ?_
   exact RunE.meet () trivial rfl (Sub.cons (t := 4) rfl (Sub.cons (t := 5) rfl (Sub.cons (t := 6) rfl (Sub.cons (t := 7) rfl (Sub.cons (t := 11) rfl (Sub.cons (t := 12) rfl (Sub.cons (t := 13) rfl (Sub.cons (t := 14) rfl (Sub.cons (t := 15) rfl (Sub.cons (t := 16) rfl (Sub.nil _))))))))))) (.cons (.there (.there (.there .here))) rfl (.cons (.there (.there .here)) rfl (.cons (.there .here) rfl (.cons .here rfl (Pick.same rfl)))))
  intro x xI
  refine RunC.seqJ (X := Unit) (n0 := [(b4, _), (b5, _), (b6, _), (b7, _)]) (fun x q => q) (fun x => []) (fun x => []) (fun x => ownB 5 y48 (byc (wpS p.pl)) ++ []) (fun x => True) (Sub.cons (t := 4) rfl (Sub.cons (t := 5) rfl (Sub.cons (t := 6) rfl (Sub.cons (t := 7) rfl (Sub.cons (t := 13) rfl (Sub.cons (t := 14) rfl (Sub.cons (t := 15) rfl (Sub.cons (t := 16) rfl (Sub.nil _))))))))) (.cons .here rfl (.cons .here rfl (.cons .here rfl (.cons .here rfl .nil)))) ?_ ?_
  ·refine csr ?_
   refine vp rfl rfl rfl rfl ?_
   refine vp rfl rfl rfl rfl ?_
   refine nnx ?_
   refine RunC.cond rfl ?_ ?_
   ·intro c5
    have c5' := c5; clear c5
    try simp only [nH] at c5'
    have hCX := ite_one (by simpa using c5')
    have eC : (if cabX c.pl = true then cabS c.pl else []) = cabS c.pl := if_pos hCX
    refine csr ?_
    refine vp rfl rfl rfl rfl ?_
    refine RunL.callNA [(b4, _), (b5, _), (b6, _), (b7, _)] _ rfl (isCall_func rfl ent_17) rfl rfl rfl (fun w hm => grow_news (ReadCabinet_calls (if cabX c.pl = true then cabS c.pl else []) w (hL.mono hm) (by rw [eC]; exact Nat.le_trans (cab_small hCX) (by decide)))) (fun z147 => ?_)
    obtain ⟨⟨x147, e147⟩, h147⟩ := z147
    rw [eC] at h147
    obtain ⟨p147, e1147, o147⟩ := rd_ok h147 (cab_back hCX)
    subst e1147
    dsimp only
    iterate 3 refine vp rfl rfl rfl rfl ?_
    refine RunL.new (New.alloc zero_30) rfl rfl rfl (fun b19 => ?_)
    refine RunL.sto (Sto.store (cs := zsrdC) (cs' := x147.cells) rfl rfl .here ty_30 rfl (paste_over rfl (one_cbX _))) rfl rfl ?_
    refine vp rfl rfl rfl rfl ?_
    refine nsr ?_
    iterate 3 refine vp rfl rfl rfl rfl ?_
    refine RunL.orPart (dj := 152) (dp := 157) 5 rfl (fun g152 => by
      have g152' := g152
      try simp only [nH] at g152'
      refine RunL.val (Val.load_agg rfl (.head _) ty_30 rfl) rfl rfl rfl ?_
      refine RunL.val (Val.load_agg rfl (.tail _ (.tail _ (.head _))) ty_30 rfl) rfl rfl rfl ?_
      refine RunL.callP (isCall_func rfl ent_23) rfl rfl rfl (fun w hm => (pure_true (sameCX_calls x147 o147 c hsc [] W w (hm.pick (news' := cbB x147 ++ []) (Pick.cnt fun x => by simp only [nC]; omega)) (hC.mono0 hm)) p147)) ?_
      refine vp rfl rfl rfl rfl ?_
      refine vp rfl rfl rfl rfl ?_
      exact RunL.segEnd (Sub.cons rfl (Sub.skip rfl (Sub.skip rfl (Sub.skip rfl (Sub.skip rfl (Sub.skip rfl (Sub.same rfl (by rw [g152]) (Sub.refl _)))))))) (List.Sublist.refl _)
    ) (fun g152 => by
      have g152' := g152
      try simp only [nH] at g152'
      iterate 4 refine RunL.no rfl rfl rfl ?_
      refine vp rfl rfl rfl rfl ?_
      exact RunL.segEnd (Sub.cons rfl (Sub.skip rfl (Sub.skip rfl (Sub.skip rfl (Sub.skip rfl (Sub.skip rfl (Sub.same rfl (by rw [g152]) (Sub.refl _)))))))) (List.Sublist.refl _)
    ) ?_
    refine nnx ?_
    refine RunC.cond rfl (fun h => absurd h (by simp)) ?_
    intro c6
    clear c6
    refine RunC.skip ?_
    exact RunE.meet () trivial rfl (Sub.cons (t := 4) rfl (Sub.cons (t := 5) rfl (Sub.cons (t := 6) rfl (Sub.cons (t := 7) rfl (Sub.cons (t := 13) rfl (Sub.cons (t := 14) rfl (Sub.cons (t := 15) rfl (Sub.cons (t := 16) rfl (Sub.nil _))))))))) (.cons (.there .here) rfl (.cons (.there .here) rfl (.cons (.there .here) rfl (.cons (.there .here) rfl (Pick.cnt fun x => by simp only [nC]; omega)))))
   intro c5
   have c5' := c5; clear c5
   try simp only [nH] at c5'
   refine RunC.skip ?_
   exact RunE.meet () trivial rfl (Sub.cons (t := 4) rfl (Sub.cons (t := 5) rfl (Sub.cons (t := 6) rfl (Sub.cons (t := 7) rfl (Sub.cons (t := 13) rfl (Sub.cons (t := 14) rfl (Sub.cons (t := 15) rfl (Sub.cons (t := 16) rfl (Sub.nil _))))))))) (.cons .here rfl (.cons .here rfl (.cons .here rfl (.cons .here rfl (Pick.same rfl)))))
  intro x xI
  refine RunC.seqJ (X := Unit) (n0 := [(b4, _), (b5, _), (b6, _), (b7, _)]) (fun x q => q) (fun x => []) (fun x => []) (fun x => ownB 5 y48 (byc (wpS p.pl)) ++ []) (fun x => True) (Sub.cons (t := 4) rfl (Sub.cons (t := 5) rfl (Sub.cons (t := 6) rfl (Sub.cons (t := 7) rfl (Sub.cons (t := 15) rfl (Sub.cons (t := 16) rfl (Sub.nil _))))))) (.cons .here rfl (.cons .here rfl (.cons .here rfl (.cons .here rfl .nil)))) ?_ ?_
  ·refine csr ?_
   refine vp rfl rfl rfl rfl ?_
   refine vp rfl rfl rfl rfl ?_
   refine nnx ?_
   refine RunC.cond rfl ?_ ?_
   ·intro c7
    have c7' := c7; clear c7
    try simp only [nH] at c7'
    have hRX := ite_one (by simpa using c7')
    have eR : (if royalX r.pl = true then royalS r.pl else []) = royalS r.pl := if_pos hRX
    refine csr ?_
    refine vp rfl rfl rfl rfl ?_
    refine RunL.callNA [(b4, _), (b5, _), (b6, _), (b7, _)] _ rfl (isCall_func rfl ent_21) rfl rfl rfl (fun w hm => grow_news (ReadRoyal_calls (if royalX r.pl = true then royalS r.pl else []) w (hL.mono hm) (by rw [eR]; exact Nat.le_trans (roy_small hRX) (by decide)))) (fun z162 => ?_)
    obtain ⟨⟨x162, e162⟩, h162⟩ := z162
    rw [eR] at h162
    obtain ⟨p162, e1162, o162⟩ := rd_ok h162 (roy_back hRX)
    subst e1162
    dsimp only
    iterate 3 refine vp rfl rfl rfl rfl ?_
    refine RunL.new (New.alloc zero_35) rfl rfl rfl (fun b21 => ?_)
    refine RunL.sto (Sto.store (cs := zsrdR) (cs' := x162.cells) rfl rfl .here ty_35 rfl (paste_over rfl (one_ryX _))) rfl rfl ?_
    refine vp rfl rfl rfl rfl ?_
    refine nsr ?_
    iterate 3 refine vp rfl rfl rfl rfl ?_
    refine RunL.orPart (dj := 167) (dp := 172) 5 rfl (fun g167 => by
      have g167' := g167
      try simp only [nH] at g167'
      refine RunL.val (Val.load_agg rfl (.head _) ty_35 rfl) rfl rfl rfl ?_
      refine RunL.val (Val.load_agg rfl (.tail _ (.tail _ (.tail _ (.head _)))) ty_35 rfl) rfl rfl rfl ?_
      refine RunL.callP (isCall_func rfl ent_24) rfl rfl rfl (fun w hm => (pure_true (sameRX_calls x162 o162 r hsr [] W w (hm.pick (news' := ryB x162 ++ []) (Pick.cnt fun x => by simp only [nC]; omega)) (hR.mono0 hm)) p162)) ?_
      refine vp rfl rfl rfl rfl ?_
      refine vp rfl rfl rfl rfl ?_
      exact RunL.segEnd (Sub.cons rfl (Sub.skip rfl (Sub.skip rfl (Sub.skip rfl (Sub.skip rfl (Sub.skip rfl (Sub.same rfl (by rw [g167]) (Sub.refl _)))))))) (List.Sublist.refl _)
    ) (fun g167 => by
      have g167' := g167
      try simp only [nH] at g167'
      iterate 4 refine RunL.no rfl rfl rfl ?_
      refine vp rfl rfl rfl rfl ?_
      exact RunL.segEnd (Sub.cons rfl (Sub.skip rfl (Sub.skip rfl (Sub.skip rfl (Sub.skip rfl (Sub.skip rfl (Sub.same rfl (by rw [g167]) (Sub.refl _)))))))) (List.Sublist.refl _)
    ) ?_
    refine nnx ?_
    refine RunC.cond rfl (fun h => absurd h (by simp)) ?_
    intro c8
    clear c8
    refine RunC.skip ?_
    exact RunE.meet () trivial rfl (Sub.cons (t := 4) rfl (Sub.cons (t := 5) rfl (Sub.cons (t := 6) rfl (Sub.cons (t := 7) rfl (Sub.cons (t := 15) rfl (Sub.cons (t := 16) rfl (Sub.nil _))))))) (.cons (.there .here) rfl (.cons (.there .here) rfl (.cons (.there .here) rfl (.cons (.there .here) rfl (Pick.cnt fun x => by simp only [nC]; omega)))))
   intro c7
   have c7' := c7; clear c7
   try simp only [nH] at c7'
   refine RunC.skip ?_
   exact RunE.meet () trivial rfl (Sub.cons (t := 4) rfl (Sub.cons (t := 5) rfl (Sub.cons (t := 6) rfl (Sub.cons (t := 7) rfl (Sub.cons (t := 15) rfl (Sub.cons (t := 16) rfl (Sub.nil _))))))) (.cons .here rfl (.cons .here rfl (.cons .here rfl (.cons .here rfl (Pick.same rfl)))))
  intro x xI
  refine RunC.seqJ (X := Unit) (n0 := [(b4, _)]) (fun x q => q) (fun x => []) (fun x => []) (fun x => []) (fun x => True) (Sub.cons (t := 4) rfl (Sub.nil _)) (.cons .here rfl .nil) ?_ ?_
  ·refine csr ?_
   refine vp rfl rfl rfl rfl ?_
   refine vp rfl rfl rfl rfl ?_
   refine nnx ?_
   refine RunC.cond rfl ?_ ?_
   ·intro c9
    have c9' := c9; clear c9
    try simp only [nH] at c9'
    have hPX : printsX p.pl = true := ite_one (by simpa using c9')
    refine csr ?_
    refine vp rfl rfl rfl rfl ?_
    refine RunL.callNA [(b4, _), (b5, _), (b6, _), (b7, _)] _ rfl (isCall_func rfl ent_27) rfl rfl rfl (fun w hm => (by rw [ownV_slice hy48]; exact grow_news (ReadPrints_calls (wpS p.pl) (ownQ y48) (ownK y48) 0 (ownC y48) w (own_bytes hy48 (fun b o h => hm.at (.tail _ (.tail _ (.tail _ (.tail _ ((by first | exact List.mem_append_left _ h | exact List.mem_append_right _ (List.mem_append_left _ h))))))))) (by rw [wpS_ok hPX]; exact Nat.le_trans (psS_len hPX).2 (by decide))))) (fun z177 => ?_)
    obtain ⟨⟨x177, e177⟩, h177⟩ := z177
    rw [wpS_ok hPX] at h177
    obtain ⟨p177, e1177, o177⟩ := rd_ok h177 (readPs_ok hPX)
    subst e1177
    dsimp only
    iterate 3 refine vp rfl rfl rfl rfl ?_
    refine RunL.new (New.alloc zero_40) rfl rfl rfl (fun b23 => ?_)
    refine RunL.sto (Sto.store (cs := zeroPX.cells) (cs' := x177.cells) rfl rfl .here ty_40 rfl (paste_over rfl (one_psX _))) rfl rfl ?_
    refine vp rfl rfl rfl rfl ?_
    refine nsr ?_
    iterate 3 refine vp rfl rfl rfl rfl ?_
    refine RunL.orPart (dj := 182) (dp := 187) 5 rfl (fun g182 => by
      have g182' := g182
      try simp only [nH] at g182'
      refine RunL.val (Val.load_agg rfl (.head _) ty_40 rfl) rfl rfl rfl ?_
      refine RunL.val (Val.load_agg rfl (.tail _ (.tail _ (.tail _ (.tail _ (.head _))))) ty_40 rfl) rfl rfl rfl ?_
      refine RunL.callP (isCall_func rfl ent_30) rfl rfl rfl (fun w hm => (pure_true (samePX_calls x177 o177 (by have h9 := congrArg (fun q : Ps => q.cards.length) p177; exact Nat.le_trans (Nat.le_of_eq h9) (Nat.le_trans hsp (by decide))) p (Nat.le_trans hsp (by decide)) [] W w (hm.pick (news' := ptB x177.cards ++ []) (Pick.cnt fun x => by simp only [nC]; omega)) (SA.ok.mono0 hP (by decide) hm)) p177)) ?_
      refine vp rfl rfl rfl rfl ?_
      refine vp rfl rfl rfl rfl ?_
      exact RunL.segEnd (Sub.cons rfl (Sub.skip rfl (Sub.skip rfl (Sub.skip rfl (Sub.skip rfl (Sub.skip rfl (Sub.same rfl (by rw [g182]) (Sub.refl _)))))))) (List.Sublist.refl _)
    ) (fun g182 => by
      have g182' := g182
      try simp only [nH] at g182'
      iterate 4 refine RunL.no rfl rfl rfl ?_
      refine vp rfl rfl rfl rfl ?_
      exact RunL.segEnd (Sub.cons rfl (Sub.skip rfl (Sub.skip rfl (Sub.skip rfl (Sub.skip rfl (Sub.skip rfl (Sub.same rfl (by rw [g182]) (Sub.refl _)))))))) (List.Sublist.refl _)
    ) ?_
    refine nnx ?_
    refine RunC.cond rfl (fun h => absurd h (by simp)) ?_
    intro c10
    clear c10
    refine RunC.skip ?_
    exact RunE.meet () trivial rfl (Sub.cons (t := 4) rfl (Sub.nil _)) (.cons (.there .here) rfl .nil)
   intro c9
   have c9' := c9; clear c9
   try simp only [nH] at c9'
   refine RunC.skip ?_
   exact RunE.meet () trivial rfl (Sub.cons (t := 4) rfl (Sub.nil _)) (.cons .here rfl .nil)
  intro x xI
  refine csr ?_
  refine RunL.callP (isCall_func rfl ent_9) rfl rfl rfl (fun w hm => alive_calls w (hL.mono hm)) ?_
  refine vp rfl rfl rfl rfl ?_
  refine nnx ?_
  refine RunC.ret ?_
  exact RunE.retP (.r1 rfl (.tmp rfl)) (by first | rfl | simp)
theorem bookBack_walk (W : World) (vs : List Value) (hL : Lw Tryz.prog W) (h : RdAll W [trSh, cbSh, rySh, psSh] vs) : Calls Tryz.prog 7 vs.toArray W (Pure (.bool true) W) := by
  cases h with
  | cons h1 h =>
  cases h with
  | cons h2 h =>
  cases h with
  | cons h3 h =>
  cases h with
  | cons h4 h =>
  cases h
  obtain ⟨t, rfl, ht, hn1⟩ := rd_tr h1
  obtain ⟨c, rfl, hc⟩ := rd_cb h2
  obtain ⟨r, rfl, hr, hn2⟩ := rd_ry h3
  obtain ⟨p, rfl, hp⟩ := rd_ps h4
  exact back_law t c r p W hL ht hc hr hp.ok (Nat.le_trans hn1 (by decide)) (Nat.le_trans hn2 (by decide))
end Go.Proofs.YtleamcmljcdapaaGreatDoor
