/- THE DATA OF THE PROGRAM ITSELF (printed by data.py). -/
import Derived.Test.YtngmpkoobdkeiaaGreatDoorData
import Derived.Test.YtngmpkoobdkeiaaGreatDoorMap2
namespace Go.Pk
open Go Go.RowKit
/-- a frozen map whose values are structs -/
def FML {κ υ : Type} (ek : κ → Value) (eu : υ → List Value) (L : Lay υ) (h : Heap) (m : List (κ × υ)) (v : Value) : Prop := FM ek (fun x => .agg (eu x).toArray) h m v ∧ ∀ p ∈ m, L.R h (eu p.2) p.2
theorem FML.up {κ υ : Type} {ek : κ → Value} {eu : υ → List Value} {L : Lay υ} {h h' : Heap} {m : List (κ × υ)} {v : Value} (f : FML ek eu L h m v) (l : Le h h') : FML ek eu L h' m v := ⟨f.1.up l, fun p hp => L.up (f.2 p hp) l⟩
theorem FML.one {κ υ : Type} {ek : κ → Value} {eu : υ → List Value} {L : Lay υ} {h : Heap} {m : List (κ × υ)} {v : Value} (f : FML ek eu L h m v) : v.oneCell' = true := f.1.one
theorem FML.to {κ υ : Type} {ek : κ → Value} {eu : υ → List Value} {L : Lay υ} {h : Heap} {m m' : List (κ × υ)} {v : Value} (f : FML ek eu L h m v) (e : m = m') : FML ek eu L h m' v := e ▸ f
structure Office where
  lex : Lexicon
  text : Text
  stands : (List (Int × Decision))
  deriving DecidableEq
def LOffice : Lay Office := { size := 4, R := fun h vs x => ∃ v0 v1 v2 v3, vs = [v0, v1, v2, v3] ∧ Sl LRule h v0 x.lex.rules ∧ Sl LDecision h v1 x.lex.decisions ∧ Sl LChapter h v2 x.text.chapters ∧ FML (fun n : Int => .int .i64 n) (fun x : Decision => [.int .i64 x.number, .int .u8 x.kind, strV x.form, .int .i64 x.at_.chapter, .int .i64 x.at_.line, .int .i64 x.at_.word, strV x.to.stem, .int .u8 x.to.mark, .int .i64 x.of_]) LDecision h x.stands v3, up := (by rintro _ _ _ _ ⟨v0, v1, v2, v3, rfl, f0, f1, f2, f3⟩ hl; exact ⟨v0, v1, v2, v3, rfl, f0.up hl, f1.up hl, f2.up hl, f3.up hl⟩), len := (by rintro _ _ _ ⟨_, _, _, _, rfl, _, _, _, _⟩; rfl), one := (by rintro _ _ _ ⟨v0, v1, v2, v3, rfl, f0, f1, f2, f3⟩ u hu; simp only [List.mem_cons, List.not_mem_nil, or_false] at hu; rcases hu with rfl | rfl | rfl | rfl <;> first | rfl | exact Sl.one (by assumption) | exact FML.one (by assumption)) }
structure Entry where
  at_ : Place
  word : Str
  head : Head
  deriving DecidableEq
def LEntry : Lay Entry := { size := 6, R := fun _ vs x => vs = [.int .i64 x.at_.chapter, .int .i64 x.at_.line, .int .i64 x.at_.word, strV x.word, strV x.head.stem, .int .u8 x.head.mark] ∧ x.word.length ≤ big ∧ x.head.stem.length ≤ big ∧ (0 ≤ x.head.mark ∧ x.head.mark ≤ 255), up := fun h _ => h, len := (by rintro _ _ _ ⟨rfl, _, _, _⟩; rfl), one := (by rintro _ _ _ ⟨rfl, f0, f1, f2⟩ u hu; simp only [List.mem_cons, List.not_mem_nil, or_false] at hu; rcases hu with rfl | rfl | rfl | rfl | rfl | rfl <;> first | rfl | exact Sl.one (by assumption)) }
end Go.Pk
