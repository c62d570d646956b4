/- What functions of the program answer, and that the law answers true at every input; no condition -/
import Derived.Test.YtlcanbihlfncoaaPiC
set_option linter.all false
/- Functions of the program, in plain Lean. -/
namespace Go.Pi.Ytlcanbihlfncoaa.CompareOffers
open Go Go.Pi
set_option maxRecDepth 100000
set_option linter.all false
def wfInt (x : Int) : Prop := -9223372036854775808 ≤ x ∧ x ≤ 9223372036854775807
def wfLInt (x : (List Int)) : Prop := x.length ≤ 9223372036854775807 ∧ ∀ y ∈ x, wfInt y
structure Attrs where
  origin : Int
  path : (List Int)
  next : Int
  med : Int
  pref : Int
  comms : (List Int)
  deriving Inhabited, DecidableEq
def wfAttrs (x : Attrs) : Prop := wfInt x.origin ∧ wfLInt x.path ∧ wfInt x.next ∧ wfInt x.med ∧ wfInt x.pref ∧ wfLInt x.comms
structure Offer where
  peer : Int
  attrs : Attrs
  deriving Inhabited, DecidableEq
def wfOffer (x : Offer) : Prop := wfInt x.peer ∧ wfAttrs x.attrs
def wfBool (x : Bool) : Prop := True
def wfLOffer (x : (List Offer)) : Prop := x.length ≤ 9223372036854775807 ∧ ∀ y ∈ x, wfOffer y
-- f78 laws.szIntS
noncomputable def m78 (a0 : (List Int)) (a1 : Int) : Option Int :=
  br (ltI (wsub .i64 a1 (↑a0.length : Int)) 0) (
    some (-1)) (
    some (wsub .i64 a1 (↑a0.length : Int)))
-- f51 laws.szAttrs
noncomputable def m51 (a0 : Attrs) (a1 : Int) : Option Int :=
  bnd (m78 a0.path a1) fun r3 =>
  br (ltI r3 0) (
    some (-1)) (
    bnd (m78 a0.comms r3) fun r7 =>
    br (ltI r7 0) (
      some (-1)) (
      some r7))
-- f17 laws.szOffer
noncomputable def m17 (a0 : Offer) (a1 : Int) : Option Int :=
  bnd (m51 a0.attrs a1) fun r3 =>
  br (ltI r3 0) (
    some (-1)) (
    some r3)
-- f80 laws.toIntS
noncomputable def m80_1b (a0 : (List Int)) (p : (Int × List Int)) : Option (Ctl (Int × List Int) (List Int)) :=
  sel2 p fun s14 s15 =>
  br (ltI s14 (↑a0.length : Int)) (
    bnd (idx a0 s14) fun x17 =>
    bnd (idx s15 s14) fun x22 =>
    some (.nxt (wadd .i64 s14 1, s15.set s14.toNat x17))) (
    some (.out s15))
noncomputable def m80 (a0 : (List Int)) : Option (List Int) :=
  ck (0 ≤ (↑a0.length : Int) ∧ (↑a0.length : Int) ≤ (↑a0.length : Int) ∧ (↑a0.length : Int) ≤ 4294967296) <|
  bnd (loopP (m80_1b a0) (0, List.replicate a0.length 0)) fun v29 =>
  some v29
-- f53 laws.toAttrs
noncomputable def m53 (a0 : Attrs) : Option Attrs :=
  bnd (m80 a0.path) fun r3 =>
  bnd (m80 a0.comms) fun r6 =>
  some (⟨a0.origin, r3, a0.next, a0.med, a0.pref, r6⟩ : Attrs)
-- f19 laws.toOffer
noncomputable def m19 (a0 : Offer) : Option Offer :=
  bnd (m53 a0.attrs) fun r3 =>
  some (⟨a0.peer, r3⟩ : Offer)
-- f48 spec.l1In
noncomputable def m48_1 (a0 : Int) (a1 : Int) (a2 : Int) : Option Bool :=
  br (leI a1 a0) (
    some (leI a0 a2)) (
    some false)
noncomputable def m48 (a0 : Int) (a1 : Int) (a2 : Int) : Option Bool :=
  bnd (m48_1 a0 a1 a2) fun v4 =>
  some v4
-- f75 spec.l1Addr
noncomputable def m75 (a0 : Int) : Option Bool :=
  bnd (m48 a0 0 4294967295) fun r3 =>
  some r3
-- f49 spec.GoodAttrs
noncomputable def m49_1b (a0 : Attrs) (p1 : Int) (s12 : Int) : Option (Ctl Int (Unit ⊕ Unit)) :=
  br (ltI s12 p1) (
    bnd (idx a0.path s12) fun x14 =>
    bnd (m48 x14 1 65535) fun r21 =>
    br r21 (
      some (.nxt (wadd .i64 s12 1))) (
      some (.out (.inr ())))) (
    some (.out (.inl ())))
noncomputable def m49_4 (s46 : Int) (x48 : Int) (a0 : Attrs) : Option Bool :=
  bnd (m48 x48 0 1000000) fun r55 =>
  br r55 (
    br (ltI 0 s46) (
      bnd (idx a0.comms (wsub .i64 s46 1)) fun x58 =>
      some (leI x48 x58)) (
      some false)) (
    some true)
noncomputable def m49_2b (a0 : Attrs) (p25 : Int) (s46 : Int) : Option (Ctl Int (Unit ⊕ Unit)) :=
  br (ltI s46 p25) (
    bnd (idx a0.comms s46) fun x48 =>
    bnd (m49_4 s46 x48 a0) fun v65 =>
    br v65 (
      some (.out (.inr ()))) (
      some (.nxt (wadd .i64 s46 1)))) (
    some (.out (.inl ())))
noncomputable def m49_5 (a0 : Attrs) : Option Bool :=
  bnd (m48 a0.origin 0 2) fun r71 =>
  br r71 (
    br (leI (↑a0.path.length : Int) 10) (
      bnd (m75 a0.next) fun r76 =>
      br r76 (
        bnd (m48 a0.med 0 1000000) fun r80 =>
        br r80 (
          bnd (m48 a0.pref 0 1000000) fun r84 =>
          br r84 (
            some (leI (↑a0.comms.length : Int) 6)) (
            some false)) (
          some false)) (
        some false)) (
      some false)) (
    some false)
noncomputable def m49 (a0 : Attrs) : Option Bool :=
  bnd (loopP (m49_1b a0 (↑a0.path.length : Int)) 0) fun o => selS o (fun _ =>
    bnd (loopP (m49_2b a0 (↑a0.comms.length : Int)) 0) fun o => selS o (fun _ =>
      bnd (m49_5 a0) fun v88 =>
      some v88) (fun _ =>
      some false)) (fun _ =>
    some false)
-- f13 spec.GoodOffers
noncomputable def m13_3 (a0 : (List Offer)) (s26 : Int) (x28 : Offer) : Option Bool :=
  bnd (m48 x28.peer 0 5) fun r35 =>
  br r35 (
    bnd (m49 x28.attrs) fun r39 =>
    br r39 (
      br (ltI 0 s26) (
        bnd (idx a0 (wsub .i64 s26 1)) fun x42 =>
        some (leI x28.peer x42.peer)) (
        some false)) (
      some true)) (
    some true)
noncomputable def m13_1b (a0 : (List Offer)) (p1 : Int) (s26 : Int) : Option (Ctl Int (Unit ⊕ Unit)) :=
  br (ltI s26 p1) (
    bnd (idx a0 s26) fun x28 =>
    bnd (m13_3 a0 s26 x28) fun v49 =>
    br v49 (
      some (.out (.inr ()))) (
      some (.nxt (wadd .i64 s26 1)))) (
    some (.out (.inl ())))
noncomputable def m13 (a0 : (List Offer)) : Option Bool :=
  bnd (loopP (m13_1b a0 (↑a0.length : Int)) 0) fun o => selS o (fun _ =>
    some true) (fun _ =>
    some false)
-- f79 spec.l8By
noncomputable def m79 (a0 : Int) (a1 : Int) : Option Int :=
  br (ltI a0 a1) (
    some (-1)) (
    br (ltI a1 a0) (
      some 1) (
      some 0))
-- f52 spec.l8Compare
noncomputable def m52_1b (p17 : List Int) (s25 : Int) : Option (Ctl Int (Unit ⊕ Int)) :=
  br (ltI s25 5) (
    bnd (idx p17 s25) fun x27 =>
    br (eqI x27 0) (
      some (.nxt (wadd .i64 s25 1))) (
      some (.out (.inr x27)))) (
    some (.out (.inl ())))
noncomputable def m52 (a0 : Offer) (a1 : Offer) : Option Int :=
  br (eqI a0.peer a1.peer) (
    some 0) (
    bnd (m79 a1.attrs.pref a0.attrs.pref) fun r4 =>
    bnd (m79 (↑a0.attrs.path.length : Int) (↑a1.attrs.path.length : Int)) fun r7 =>
    bnd (m79 a0.attrs.origin a1.attrs.origin) fun r10 =>
    bnd (m79 a0.attrs.med a1.attrs.med) fun r13 =>
    bnd (m79 a0.attrs.next a1.attrs.next) fun r16 =>
    bnd (loopP (m52_1b [r4, r7, r10, r13, r16]) 0) fun o => selS o (fun _ =>
      bnd (m79 a0.peer a1.peer) fun r37 =>
      some r37) (fun v38 =>
      some v38))
-- f18 spec.CompareOffers
noncomputable def m18_1 (a0 : Offer) (a1 : Offer) : Option Bool :=
  bnd (m13 [a0]) fun r3 =>
  br r3 (
    bnd (m13 [a1]) fun r7 =>
    some (!r7)) (
    some true)
noncomputable def m18 (a0 : Offer) (a1 : Offer) : Option (Int × Bool) :=
  bnd (m18_1 a0 a1) fun v10 =>
  br v10 (
    some (0, false)) (
    bnd (m52 a0 a1) fun r14 =>
    some (r14, true))
-- f91 impl.within
noncomputable def m91_1 (a0 : Int) (a1 : Int) (a2 : Int) : Option Bool :=
  br (leI a1 a0) (
    some (leI a0 a2)) (
    some false)
noncomputable def m91 (a0 : Int) (a1 : Int) (a2 : Int) : Option Bool :=
  bnd (m91_1 a0 a1 a2) fun v4 =>
  some v4
-- f76 impl.isPeer
noncomputable def m76 (a0 : Int) : Option Bool :=
  bnd (m91 a0 0 5) fun r3 =>
  some r3
-- f115 slices.IndexFunc[[]int,int]
noncomputable def m115_1b (a0 : (List Int)) (p1 : Int) (a1 : (Int → Option Bool)) (s12 : Int) : Option (Ctl Int (Unit ⊕ Int)) :=
  br (ltI s12 p1) (
    bnd (idx a0 s12) fun x14 =>
    bnd (a1 x14) fun r19 =>
    br r19 (
      some (.out (.inr s12))) (
      some (.nxt (wadd .i64 s12 1)))) (
    some (.out (.inl ())))
noncomputable def m115 (a0 : (List Int)) (a1 : (Int → Option Bool)) : Option Int :=
  bnd (loopP (m115_1b a0 (↑a0.length : Int) a1) 0) fun o => selS o (fun _ =>
    some (-1)) (fun v25 =>
    some v25)
-- f109 slices.ContainsFunc[[]int,int]
noncomputable def m109 (a0 : (List Int)) (a1 : (Int → Option Bool)) : Option Bool :=
  bnd (m115 a0 a1) fun r3 =>
  some (leI 0 r3)
-- f66 impl.isAsn
noncomputable def m66 (a0 : Int) : Option Bool :=
  bnd (m91 a0 1 65535) fun r3 =>
  some r3
-- f110 impl.isPath$1
noncomputable def m110 (a0 : Int) : Option Bool :=
  bnd (m66 a0) fun r3 =>
  some (!r3)
-- f98 impl.isPath
noncomputable def m98_1 (a0 : (List Int)) : Option Bool :=
  br (leI (↑a0.length : Int) 10) (
    bnd (m109 a0 (fun y0 => m110 y0)) fun r4 =>
    some (!r4)) (
    some false)
noncomputable def m98 (a0 : (List Int)) : Option Bool :=
  bnd (m98_1 a0) fun v7 =>
  some v7
-- f99 impl.isAddr
noncomputable def m99 (a0 : Int) : Option Bool :=
  bnd (m91 a0 0 4294967295) fun r3 =>
  some r3
-- f100 impl.isValue
noncomputable def m100 (a0 : Int) : Option Bool :=
  bnd (m91 a0 0 1000000) fun r3 =>
  some r3
-- f101 impl.areComms
noncomputable def m101_3 (a0 : (List Int)) (s22 : Int) (x24 : Int) : Option Bool :=
  bnd (m100 x24) fun r31 =>
  br r31 (
    br (ltI 0 s22) (
      bnd (idx a0 (wsub .i64 s22 1)) fun x34 =>
      some (leI x24 x34)) (
      some false)) (
    some true)
noncomputable def m101_1b (a0 : (List Int)) (p1 : Int) (s22 : Int) : Option (Ctl Int (Unit ⊕ Unit)) :=
  br (ltI s22 p1) (
    bnd (idx a0 s22) fun x24 =>
    bnd (m101_3 a0 s22 x24) fun v41 =>
    br v41 (
      some (.out (.inr ()))) (
      some (.nxt (wadd .i64 s22 1)))) (
    some (.out (.inl ())))
noncomputable def m101 (a0 : (List Int)) : Option Bool :=
  bnd (loopP (m101_1b a0 (↑a0.length : Int)) 0) fun o => selS o (fun _ =>
    some (leI (↑a0.length : Int) 6)) (fun _ =>
    some false)
-- f77 impl.GoodAttrs
noncomputable def m77_1 (a0 : Attrs) : Option Bool :=
  bnd (m91 a0.origin 0 2) fun r3 =>
  br r3 (
    bnd (m98 a0.path) fun r7 =>
    br r7 (
      bnd (m99 a0.next) fun r11 =>
      br r11 (
        bnd (m100 a0.med) fun r15 =>
        br r15 (
          bnd (m100 a0.pref) fun r19 =>
          br r19 (
            bnd (m101 a0.comms) fun r23 =>
            some r23) (
            some false)) (
          some false)) (
        some false)) (
      some false)) (
    some false)
noncomputable def m77 (a0 : Attrs) : Option Bool :=
  bnd (m77_1 a0) fun v26 =>
  some v26
-- f50 impl.isOffer
noncomputable def m50_1 (a0 : Offer) : Option Bool :=
  bnd (m76 a0.peer) fun r3 =>
  br r3 (
    bnd (m77 a0.attrs) fun r7 =>
    some r7) (
    some false)
noncomputable def m50 (a0 : Offer) : Option Bool :=
  bnd (m50_1 a0) fun v10 =>
  some v10
-- f102 cmp.isNaN[int]
noncomputable def m102 (a0 : Int) : Option Bool :=
  some (!(eqI a0 a0))
-- f82 cmp.Compare[int]
noncomputable def m82 (a0 : Int) (a1 : Int) : Option Int :=
  bnd (m102 a0) fun r3 =>
  bnd (m102 a1) fun r6 =>
  br r3 (
    br r6 (
      some 0) (
      some (-1))) (
    br r6 (
      some 1) (
      br (ltI a0 a1) (
        some (-1)) (
        br (ltI a1 a0) (
          some 1) (
          some 0))))
-- f81 cmp.Or[int]
noncomputable def m81_1b (a0 : (List Int)) (p1 : Int) (s9 : Int) : Option (Ctl Int (Unit ⊕ Int)) :=
  br (ltI s9 p1) (
    bnd (idx a0 s9) fun x11 =>
    br (eqI x11 0) (
      some (.nxt (wadd .i64 s9 1))) (
      some (.out (.inr x11)))) (
    some (.out (.inl ())))
noncomputable def m81 (a0 : (List Int)) : Option Int :=
  bnd (loopP (m81_1b a0 (↑a0.length : Int)) 0) fun o => selS o (fun _ =>
    some 0) (fun v19 =>
    some v19)
-- f54 impl.order
noncomputable def m54 (a0 : Offer) (a1 : Offer) : Option Int :=
  br (eqI a0.peer a1.peer) (
    some 0) (
    bnd (m82 a1.attrs.pref a0.attrs.pref) fun r4 =>
    bnd (m82 (↑a0.attrs.path.length : Int) (↑a1.attrs.path.length : Int)) fun r7 =>
    bnd (m82 a0.attrs.origin a1.attrs.origin) fun r10 =>
    bnd (m82 a0.attrs.med a1.attrs.med) fun r13 =>
    bnd (m82 a0.attrs.next a1.attrs.next) fun r16 =>
    bnd (m82 a0.peer a1.peer) fun r19 =>
    bnd (m81 [r4, r7, r10, r13, r16, r19]) fun r22 =>
    some r22)
-- f20 impl.CompareOffers
noncomputable def m20_1 (a0 : Offer) (a1 : Offer) : Option Bool :=
  bnd (m50 a0) fun r3 =>
  br r3 (
    bnd (m50 a1) fun r7 =>
    some (!r7)) (
    some true)
noncomputable def m20 (a0 : Offer) (a1 : Offer) : Option (Int × Bool) :=
  bnd (m20_1 a0 a1) fun v10 =>
  br v10 (
    some (0, false)) (
    bnd (m54 a0 a1) fun r14 =>
    some (r14, true))
-- f33 laws.eqIntS
noncomputable def m33_1b (a0 : (List Int)) (a1 : (List Int)) (s14 : Int) : Option (Ctl Int (Unit ⊕ Unit)) :=
  br (ltI s14 (↑a0.length : Int)) (
    bnd (idx a0 s14) fun x16 =>
    bnd (idx a1 s14) fun x21 =>
    br (eqI x16 x21) (
      some (.nxt (wadd .i64 s14 1))) (
      some (.out (.inr ())))) (
    some (.out (.inl ())))
noncomputable def m33 (a0 : (List Int)) (a1 : (List Int)) : Option Bool :=
  br (eqI (↑a0.length : Int) (↑a1.length : Int)) (
    bnd (loopP (m33_1b a0 a1) 0) fun o => selS o (fun _ =>
      some true) (fun _ =>
      some false)) (
    some false)
-- f55 laws.eqAttrs
noncomputable def m55 (a0 : Attrs) (a1 : Attrs) : Option Bool :=
  br (eqI a0.origin a1.origin) (
    bnd (m33 a0.path a1.path) fun r4 =>
    br r4 (
      br (eqI a0.next a1.next) (
        br (eqI a0.med a1.med) (
          br (eqI a0.pref a1.pref) (
            bnd (m33 a0.comms a1.comms) fun r11 =>
            br r11 (
              some true) (
              some false)) (
            some false)) (
          some false)) (
        some false)) (
      some false)) (
    some false)
-- f21 laws.eqOffer
noncomputable def m21 (a0 : Offer) (a1 : Offer) : Option Bool :=
  br (eqI a0.peer a1.peer) (
    bnd (m55 a0.attrs a1.attrs) fun r4 =>
    br r4 (
      some true) (
      some false)) (
    some false)
-- f4 laws.FnExactCompareOffers
noncomputable def m4_1 (r17 : Int) (r18 : Bool) (r25 : Int) (r26 : Bool) : Option Bool :=
  br (eqI r25 r17) (
    some (!eqB r26 r18)) (
    some true)
noncomputable def m4 (a0 : Offer) (a1 : Offer) : Option Bool :=
  bnd (m17 a0 1048576) fun r3 =>
  br (ltI r3 0) (
    some true) (
    bnd (m17 a1 r3) fun r7 =>
    br (ltI r7 0) (
      some true) (
      bnd (m19 a0) fun r11 =>
      bnd (m19 a1) fun r14 =>
      bnd (m18 r11 r14) fun p => sel2 p fun r17 r18 =>
      bnd (m20 r11 r14) fun p => sel2 p fun r25 r26 =>
      bnd (m4_1 r17 r18 r25 r26) fun v30 =>
      br v30 (
        some false) (
        bnd (m21 r11 r11) fun r36 =>
        br r36 (
          bnd (m21 r14 r14) fun r42 =>
          br r42 (
            some true) (
            some false)) (
          some false))))
end Go.Pi.Ytlcanbihlfncoaa.CompareOffers
