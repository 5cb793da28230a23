/- DATA OF A STRUCT's TYPE LIE AS THE LAYOUT SAYS (printed by reads.py). -/
import Derived.Test.YtngmpkoobdkeiaaGreatDoorRow
namespace Go.Pk
open Go Go.RowKit
theorem reads_Place {P : Program} {W : World} {t : TypeId} {fs : Array Field} (hu : P.underlying t = some (.struct fs)) (hc : P.cellsOf t = 3) {f0 : Field} (h0 : fs[0]? = some f0) (o0 : f0.offset = 0) (n0 : P.cellsOf f0.type = 1) (r0 : Reads P W f0.type LInt) {f1 : Field} (h1 : fs[1]? = some f1) (o1 : f1.offset = 1) (n1 : P.cellsOf f1.type = 1) (r1 : Reads P W f1.type LInt) {f2 : Field} (h2 : fs[2]? = some f2) (o2 : f2.offset = 2) (n2 : P.cellsOf f2.type = 1) (r2 : Reads P W f2.type LInt) : Reads P W t LPlace := by
  intro H enc sp held fuel cs d ps h hw
  obtain ⟨hl, hf⟩ := reads_fields hu hc h hw
  match cs, hl with
  | [c0, c1, c2], _ =>
  obtain ⟨x0, e0⟩ := hf 0 f0 h0 r0
  rw [o0, n0] at e0
  simp only [List.drop_succ_cons, List.drop_zero, List.take_succ_cons, List.take_zero] at e0
  cases (show [c0] = [_] from e0)
  obtain ⟨x1, e1⟩ := hf 1 f1 h1 r1
  rw [o1, n1] at e1
  simp only [List.drop_succ_cons, List.drop_zero, List.take_succ_cons, List.take_zero] at e1
  cases (show [c1] = [_] from e1)
  obtain ⟨x2, e2⟩ := hf 2 f2 h2 r2
  rw [o2, n2] at e2
  simp only [List.drop_succ_cons, List.drop_zero, List.take_succ_cons, List.take_zero] at e2
  cases (show [c2] = [_] from e2)
  exact ⟨⟨x0, x1, x2⟩, rfl⟩
theorem reads_Chapter {P : Program} {W : World} {t : TypeId} {fs : Array Field} (hu : P.underlying t = some (.struct fs)) (hc : P.cellsOf t = 2) {f0 : Field} (h0 : fs[0]? = some f0) (o0 : f0.offset = 0) (n0 : P.cellsOf f0.type = 1) (r0 : Reads P W f0.type LInt) {f1 : Field} (h1 : fs[1]? = some f1) (o1 : f1.offset = 1) (n1 : P.cellsOf f1.type = 1) (r1 : Reads P W f1.type (LSl (LSl LStr))) : Reads P W t LChapter := by
  intro H enc sp held fuel cs d ps h hw
  obtain ⟨hl, hf⟩ := reads_fields hu hc h hw
  match cs, hl with
  | [c0, c1], _ =>
  obtain ⟨x0, e0⟩ := hf 0 f0 h0 r0
  rw [o0, n0] at e0
  simp only [List.drop_succ_cons, List.drop_zero, List.take_succ_cons, List.take_zero] at e0
  cases (show [c0] = [_] from e0)
  obtain ⟨x1, e1⟩ := hf 1 f1 h1 r1
  rw [o1, n1] at e1
  simp only [List.drop_succ_cons, List.drop_zero, List.take_succ_cons, List.take_zero] at e1
  obtain ⟨v1, q1, g1⟩ := e1
  cases q1
  exact ⟨⟨x0, x1⟩, ⟨_, rfl, g1⟩⟩
theorem reads_Text {P : Program} {W : World} {t : TypeId} {fs : Array Field} (hu : P.underlying t = some (.struct fs)) (hc : P.cellsOf t = 1) {f0 : Field} (h0 : fs[0]? = some f0) (o0 : f0.offset = 0) (n0 : P.cellsOf f0.type = 1) (r0 : Reads P W f0.type (LSl LChapter)) : Reads P W t LText := by
  intro H enc sp held fuel cs d ps h hw
  obtain ⟨hl, hf⟩ := reads_fields hu hc h hw
  match cs, hl with
  | [c0], _ =>
  obtain ⟨x0, e0⟩ := hf 0 f0 h0 r0
  rw [o0, n0] at e0
  simp only [List.drop_succ_cons, List.drop_zero, List.take_succ_cons, List.take_zero] at e0
  obtain ⟨v0, q0, g0⟩ := e0
  cases q0
  exact ⟨⟨x0⟩, ⟨_, rfl, g0⟩⟩
theorem reads_Head {P : Program} {W : World} {t : TypeId} {fs : Array Field} (hu : P.underlying t = some (.struct fs)) (hc : P.cellsOf t = 2) {f0 : Field} (h0 : fs[0]? = some f0) (o0 : f0.offset = 0) (n0 : P.cellsOf f0.type = 1) (r0 : Reads P W f0.type LStr) {f1 : Field} (h1 : fs[1]? = some f1) (o1 : f1.offset = 1) (n1 : P.cellsOf f1.type = 1) (r1 : Reads P W f1.type LU8) : Reads P W t LHead := by
  intro H enc sp held fuel cs d ps h hw
  obtain ⟨hl, hf⟩ := reads_fields hu hc h hw
  match cs, hl with
  | [c0, c1], _ =>
  obtain ⟨x0, e0⟩ := hf 0 f0 h0 r0
  rw [o0, n0] at e0
  simp only [List.drop_succ_cons, List.drop_zero, List.take_succ_cons, List.take_zero] at e0
  obtain ⟨q0, g0⟩ := e0
  cases q0
  obtain ⟨x1, e1⟩ := hf 1 f1 h1 r1
  rw [o1, n1] at e1
  simp only [List.drop_succ_cons, List.drop_zero, List.take_succ_cons, List.take_zero] at e1
  obtain ⟨q1, g1⟩ := e1
  cases q1
  exact ⟨⟨x0, x1⟩, ⟨rfl, g0, g1⟩⟩
theorem reads_Rule {P : Program} {W : World} {t : TypeId} {fs : Array Field} (hu : P.underlying t = some (.struct fs)) (hc : P.cellsOf t = 3) {f0 : Field} (h0 : fs[0]? = some f0) (o0 : f0.offset = 0) (n0 : P.cellsOf f0.type = 1) (r0 : Reads P W f0.type LStr) {f1 : Field} (h1 : fs[1]? = some f1) (o1 : f1.offset = 1) (n1 : P.cellsOf f1.type = 1) (r1 : Reads P W f1.type LStr) {f2 : Field} (h2 : fs[2]? = some f2) (o2 : f2.offset = 2) (n2 : P.cellsOf f2.type = 1) (r2 : Reads P W f2.type LInt) : Reads P W t LRule := by
  intro H enc sp held fuel cs d ps h hw
  obtain ⟨hl, hf⟩ := reads_fields hu hc h hw
  match cs, hl with
  | [c0, c1, c2], _ =>
  obtain ⟨x0, e0⟩ := hf 0 f0 h0 r0
  rw [o0, n0] at e0
  simp only [List.drop_succ_cons, List.drop_zero, List.take_succ_cons, List.take_zero] at e0
  obtain ⟨q0, g0⟩ := e0
  cases q0
  obtain ⟨x1, e1⟩ := hf 1 f1 h1 r1
  rw [o1, n1] at e1
  simp only [List.drop_succ_cons, List.drop_zero, List.take_succ_cons, List.take_zero] at e1
  obtain ⟨q1, g1⟩ := e1
  cases q1
  obtain ⟨x2, e2⟩ := hf 2 f2 h2 r2
  rw [o2, n2] at e2
  simp only [List.drop_succ_cons, List.drop_zero, List.take_succ_cons, List.take_zero] at e2
  cases (show [c2] = [_] from e2)
  exact ⟨⟨x0, x1, x2⟩, ⟨rfl, g0, g1⟩⟩
theorem reads_Decision {P : Program} {W : World} {t : TypeId} {fs : Array Field} (hu : P.underlying t = some (.struct fs)) (hc : P.cellsOf t = 9) {f0 : Field} (h0 : fs[0]? = some f0) (o0 : f0.offset = 0) (n0 : P.cellsOf f0.type = 1) (r0 : Reads P W f0.type LInt) {f1 : Field} (h1 : fs[1]? = some f1) (o1 : f1.offset = 1) (n1 : P.cellsOf f1.type = 1) (r1 : Reads P W f1.type LU8) {f2 : Field} (h2 : fs[2]? = some f2) (o2 : f2.offset = 2) (n2 : P.cellsOf f2.type = 1) (r2 : Reads P W f2.type LStr) {f3 : Field} (h3 : fs[3]? = some f3) (o3 : f3.offset = 3) (n3 : P.cellsOf f3.type = 3) (r3 : Reads P W f3.type LPlace) {f4 : Field} (h4 : fs[4]? = some f4) (o4 : f4.offset = 6) (n4 : P.cellsOf f4.type = 2) (r4 : Reads P W f4.type LHead) {f5 : Field} (h5 : fs[5]? = some f5) (o5 : f5.offset = 8) (n5 : P.cellsOf f5.type = 1) (r5 : Reads P W f5.type LInt) : Reads P W t LDecision := by
  intro H enc sp held fuel cs d ps h hw
  obtain ⟨hl, hf⟩ := reads_fields hu hc h hw
  match cs, hl with
  | [c0, c1, c2, c3, c4, c5, c6, c7, c8], _ =>
  obtain ⟨x0, e0⟩ := hf 0 f0 h0 r0
  rw [o0, n0] at e0
  simp only [List.drop_succ_cons, List.drop_zero, List.take_succ_cons, List.take_zero] at e0
  cases (show [c0] = [_] from e0)
  obtain ⟨x1, e1⟩ := hf 1 f1 h1 r1
  rw [o1, n1] at e1
  simp only [List.drop_succ_cons, List.drop_zero, List.take_succ_cons, List.take_zero] at e1
  obtain ⟨q1, g1⟩ := e1
  cases q1
  obtain ⟨x2, e2⟩ := hf 2 f2 h2 r2
  rw [o2, n2] at e2
  simp only [List.drop_succ_cons, List.drop_zero, List.take_succ_cons, List.take_zero] at e2
  obtain ⟨q2, g2⟩ := e2
  cases q2
  obtain ⟨x3, e3⟩ := hf 3 f3 h3 r3
  rw [o3, n3] at e3
  simp only [List.drop_succ_cons, List.drop_zero, List.take_succ_cons, List.take_zero] at e3
  have q3 := e3
  cases (show [c3, c4, c5] = _ from q3)
  obtain ⟨x4, e4⟩ := hf 4 f4 h4 r4
  rw [o4, n4] at e4
  simp only [List.drop_succ_cons, List.drop_zero, List.take_succ_cons, List.take_zero] at e4
  obtain ⟨q4, g4_0, g4_1⟩ := e4
  cases (show [c6, c7] = _ from q4)
  obtain ⟨x5, e5⟩ := hf 5 f5 h5 r5
  rw [o5, n5] at e5
  simp only [List.drop_succ_cons, List.drop_zero, List.take_succ_cons, List.take_zero] at e5
  cases (show [c8] = [_] from e5)
  exact ⟨⟨x0, x1, x2, x3, x4, x5⟩, ⟨rfl, g1, g2, g4_0, g4_1⟩⟩
theorem reads_Lexicon {P : Program} {W : World} {t : TypeId} {fs : Array Field} (hu : P.underlying t = some (.struct fs)) (hc : P.cellsOf t = 2) {f0 : Field} (h0 : fs[0]? = some f0) (o0 : f0.offset = 0) (n0 : P.cellsOf f0.type = 1) (r0 : Reads P W f0.type (LSl LRule)) {f1 : Field} (h1 : fs[1]? = some f1) (o1 : f1.offset = 1) (n1 : P.cellsOf f1.type = 1) (r1 : Reads P W f1.type (LSl LDecision)) : Reads P W t LLexicon := by
  intro H enc sp held fuel cs d ps h hw
  obtain ⟨hl, hf⟩ := reads_fields hu hc h hw
  match cs, hl with
  | [c0, c1], _ =>
  obtain ⟨x0, e0⟩ := hf 0 f0 h0 r0
  rw [o0, n0] at e0
  simp only [List.drop_succ_cons, List.drop_zero, List.take_succ_cons, List.take_zero] at e0
  obtain ⟨v0, q0, g0⟩ := e0
  cases q0
  obtain ⟨x1, e1⟩ := hf 1 f1 h1 r1
  rw [o1, n1] at e1
  simp only [List.drop_succ_cons, List.drop_zero, List.take_succ_cons, List.take_zero] at e1
  obtain ⟨v1, q1, g1⟩ := e1
  cases q1
  exact ⟨⟨x0, x1⟩, ⟨_, _, rfl, g0, g1⟩⟩
theorem reads_Question {P : Program} {W : World} {t : TypeId} {fs : Array Field} (hu : P.underlying t = some (.struct fs)) (hc : P.cellsOf t = 4) {f0 : Field} (h0 : fs[0]? = some f0) (o0 : f0.offset = 0) (n0 : P.cellsOf f0.type = 3) (r0 : Reads P W f0.type LPlace) {f1 : Field} (h1 : fs[1]? = some f1) (o1 : f1.offset = 3) (n1 : P.cellsOf f1.type = 1) (r1 : Reads P W f1.type (LSl LHead)) : Reads P W t LQuestion := by
  intro H enc sp held fuel cs d ps h hw
  obtain ⟨hl, hf⟩ := reads_fields hu hc h hw
  match cs, hl with
  | [c0, c1, c2, c3], _ =>
  obtain ⟨x0, e0⟩ := hf 0 f0 h0 r0
  rw [o0, n0] at e0
  simp only [List.drop_succ_cons, List.drop_zero, List.take_succ_cons, List.take_zero] at e0
  have q0 := e0
  cases (show [c0, c1, c2] = _ from q0)
  obtain ⟨x1, e1⟩ := hf 1 f1 h1 r1
  rw [o1, n1] at e1
  simp only [List.drop_succ_cons, List.drop_zero, List.take_succ_cons, List.take_zero] at e1
  obtain ⟨v1, q1, g1⟩ := e1
  cases q1
  exact ⟨⟨x0, x1⟩, ⟨_, rfl, g1⟩⟩
theorem reads_Voter {P : Program} {W : World} {t : TypeId} {fs : Array Field} (hu : P.underlying t = some (.struct fs)) (hc : P.cellsOf t = 3) {f0 : Field} (h0 : fs[0]? = some f0) (o0 : f0.offset = 0) (n0 : P.cellsOf f0.type = 1) (r0 : Reads P W f0.type LInt) {f1 : Field} (h1 : fs[1]? = some f1) (o1 : f1.offset = 1) (n1 : P.cellsOf f1.type = 1) (r1 : Reads P W f1.type LInt) {f2 : Field} (h2 : fs[2]? = some f2) (o2 : f2.offset = 2) (n2 : P.cellsOf f2.type = 1) (r2 : Reads P W f2.type (LSl LInt)) : Reads P W t LVoter := by
  intro H enc sp held fuel cs d ps h hw
  obtain ⟨hl, hf⟩ := reads_fields hu hc h hw
  match cs, hl with
  | [c0, c1, c2], _ =>
  obtain ⟨x0, e0⟩ := hf 0 f0 h0 r0
  rw [o0, n0] at e0
  simp only [List.drop_succ_cons, List.drop_zero, List.take_succ_cons, List.take_zero] at e0
  cases (show [c0] = [_] from e0)
  obtain ⟨x1, e1⟩ := hf 1 f1 h1 r1
  rw [o1, n1] at e1
  simp only [List.drop_succ_cons, List.drop_zero, List.take_succ_cons, List.take_zero] at e1
  cases (show [c1] = [_] from e1)
  obtain ⟨x2, e2⟩ := hf 2 f2 h2 r2
  rw [o2, n2] at e2
  simp only [List.drop_succ_cons, List.drop_zero, List.take_succ_cons, List.take_zero] at e2
  obtain ⟨v2, q2, g2⟩ := e2
  cases q2
  exact ⟨⟨x0, x1, x2⟩, ⟨_, rfl, g2⟩⟩
theorem reads_Poll {P : Program} {W : World} {t : TypeId} {fs : Array Field} (hu : P.underlying t = some (.struct fs)) (hc : P.cellsOf t = 5) {f0 : Field} (h0 : fs[0]? = some f0) (o0 : f0.offset = 0) (n0 : P.cellsOf f0.type = 1) (r0 : Reads P W f0.type LText) {f1 : Field} (h1 : fs[1]? = some f1) (o1 : f1.offset = 1) (n1 : P.cellsOf f1.type = 2) (r1 : Reads P W f1.type LLexicon) {f2 : Field} (h2 : fs[2]? = some f2) (o2 : f2.offset = 3) (n2 : P.cellsOf f2.type = 1) (r2 : Reads P W f2.type (LSl LQuestion)) {f3 : Field} (h3 : fs[3]? = some f3) (o3 : f3.offset = 4) (n3 : P.cellsOf f3.type = 1) (r3 : Reads P W f3.type (LSl LVoter)) : Reads P W t LPoll := by
  intro H enc sp held fuel cs d ps h hw
  obtain ⟨hl, hf⟩ := reads_fields hu hc h hw
  match cs, hl with
  | [c0, c1, c2, c3, c4], _ =>
  obtain ⟨x0, e0⟩ := hf 0 f0 h0 r0
  rw [o0, n0] at e0
  simp only [List.drop_succ_cons, List.drop_zero, List.take_succ_cons, List.take_zero] at e0
  obtain ⟨w0_0, q0, g0_0⟩ := e0
  cases (show [c0] = _ from q0)
  obtain ⟨x1, e1⟩ := hf 1 f1 h1 r1
  rw [o1, n1] at e1
  simp only [List.drop_succ_cons, List.drop_zero, List.take_succ_cons, List.take_zero] at e1
  obtain ⟨w1_0, w1_1, q1, g1_0, g1_1⟩ := e1
  cases (show [c1, c2] = _ from q1)
  obtain ⟨x2, e2⟩ := hf 2 f2 h2 r2
  rw [o2, n2] at e2
  simp only [List.drop_succ_cons, List.drop_zero, List.take_succ_cons, List.take_zero] at e2
  obtain ⟨v2, q2, g2⟩ := e2
  cases q2
  obtain ⟨x3, e3⟩ := hf 3 f3 h3 r3
  rw [o3, n3] at e3
  simp only [List.drop_succ_cons, List.drop_zero, List.take_succ_cons, List.take_zero] at e3
  obtain ⟨v3, q3, g3⟩ := e3
  cases q3
  exact ⟨⟨x0, x1, x2, x3⟩, ⟨_, _, _, _, _, rfl, g0_0, g1_0, g1_1, g2, g3⟩⟩
theorem reads_Span {P : Program} {W : World} {t : TypeId} {fs : Array Field} (hu : P.underlying t = some (.struct fs)) (hc : P.cellsOf t = 2) {f0 : Field} (h0 : fs[0]? = some f0) (o0 : f0.offset = 0) (n0 : P.cellsOf f0.type = 1) (r0 : Reads P W f0.type LInt) {f1 : Field} (h1 : fs[1]? = some f1) (o1 : f1.offset = 1) (n1 : P.cellsOf f1.type = 1) (r1 : Reads P W f1.type LInt) : Reads P W t LSpan := by
  intro H enc sp held fuel cs d ps h hw
  obtain ⟨hl, hf⟩ := reads_fields hu hc h hw
  match cs, hl with
  | [c0, c1], _ =>
  obtain ⟨x0, e0⟩ := hf 0 f0 h0 r0
  rw [o0, n0] at e0
  simp only [List.drop_succ_cons, List.drop_zero, List.take_succ_cons, List.take_zero] at e0
  cases (show [c0] = [_] from e0)
  obtain ⟨x1, e1⟩ := hf 1 f1 h1 r1
  rw [o1, n1] at e1
  simp only [List.drop_succ_cons, List.drop_zero, List.take_succ_cons, List.take_zero] at e1
  cases (show [c1] = [_] from e1)
  exact ⟨⟨x0, x1⟩, rfl⟩
end Go.Pk
