/- THE DATA, AND HOW THEY LIE (printed by data.py). -/
import Derived.Test.YtngmpkoobdkeiaaGreatDoorMap
namespace Go.Pk
open Go Go.RowKit
structure Place where
  chapter : Int
  line : Int
  word : Int
  deriving DecidableEq
def LPlace : Lay Place := { size := 3, R := fun _ vs x => vs = [.int .i64 x.chapter, .int .i64 x.line, .int .i64 x.word], up := fun h _ => h, len := (by rintro _ _ _ rfl; rfl), one := (by rintro _ _ _ rfl u hu; simp only [List.mem_cons, List.not_mem_nil, or_false] at hu; rcases hu with rfl | rfl | rfl <;> first | rfl | exact Sl.one (by assumption)) }
structure Chapter where
  id : Int
  lines : (List (List Str))
  deriving DecidableEq
def LChapter : Lay Chapter := { size := 2, R := fun h vs x => ∃ v0, vs = [.int .i64 x.id, v0] ∧ Sl (LSl LStr) h v0 x.lines, up := (by rintro _ _ _ _ ⟨v0, rfl, f0⟩ hl; exact ⟨v0, rfl, f0.up hl⟩), len := (by rintro _ _ _ ⟨_, rfl, _⟩; rfl), one := (by rintro _ _ _ ⟨v0, rfl, f0⟩ u hu; simp only [List.mem_cons, List.not_mem_nil, or_false] at hu; rcases hu with rfl | rfl <;> first | rfl | exact Sl.one (by assumption)) }
structure Text where
  chapters : (List Chapter)
  deriving DecidableEq
def LText : Lay Text := { size := 1, R := fun h vs x => ∃ v0, vs = [v0] ∧ Sl LChapter h v0 x.chapters, up := (by rintro _ _ _ _ ⟨v0, rfl, f0⟩ hl; exact ⟨v0, rfl, f0.up hl⟩), len := (by rintro _ _ _ ⟨_, rfl, _⟩; rfl), one := (by rintro _ _ _ ⟨v0, rfl, f0⟩ u hu; simp only [List.mem_cons, List.not_mem_nil, or_false] at hu; rcases hu with rfl <;> first | rfl | exact Sl.one (by assumption)) }
structure Head where
  stem : Str
  mark : Int
  deriving DecidableEq
def LHead : Lay Head := { size := 2, R := fun _ vs x => vs = [strV x.stem, .int .u8 x.mark] ∧ x.stem.length ≤ big ∧ (0 ≤ x.mark ∧ x.mark ≤ 255), up := fun h _ => h, len := (by rintro _ _ _ ⟨rfl, _, _⟩; rfl), one := (by rintro _ _ _ ⟨rfl, f0, f1⟩ u hu; simp only [List.mem_cons, List.not_mem_nil, or_false] at hu; rcases hu with rfl | rfl <;> first | rfl | exact Sl.one (by assumption)) }
structure Rule where
  cut : Str
  put : Str
  least : Int
  deriving DecidableEq
def LRule : Lay Rule := { size := 3, R := fun _ vs x => vs = [strV x.cut, strV x.put, .int .i64 x.least] ∧ x.cut.length ≤ big ∧ x.put.length ≤ big, up := fun h _ => h, len := (by rintro _ _ _ ⟨rfl, _, _⟩; rfl), one := (by rintro _ _ _ ⟨rfl, f0, f1⟩ u hu; simp only [List.mem_cons, List.not_mem_nil, or_false] at hu; rcases hu with rfl | rfl | rfl <;> first | rfl | exact Sl.one (by assumption)) }
structure Decision where
  number : Int
  kind : Int
  form : Str
  at_ : Place
  to : Head
  of_ : Int
  deriving DecidableEq
def LDecision : Lay Decision := { size := 9, R := fun _ vs x => vs = [.int .i64 x.number, .int .u8 x.kind, strV x.form, .int .i64 x.at_.chapter, .int .i64 x.at_.line, .int .i64 x.at_.word, strV x.to.stem, .int .u8 x.to.mark, .int .i64 x.of_] ∧ (0 ≤ x.kind ∧ x.kind ≤ 255) ∧ x.form.length ≤ big ∧ x.to.stem.length ≤ big ∧ (0 ≤ x.to.mark ∧ x.to.mark ≤ 255), up := fun h _ => h, len := (by rintro _ _ _ ⟨rfl, _, _, _, _⟩; rfl), one := (by rintro _ _ _ ⟨rfl, f0, f1, f2, f3⟩ u hu; simp only [List.mem_cons, List.not_mem_nil, or_false] at hu; rcases hu with rfl | rfl | rfl | rfl | rfl | rfl | rfl | rfl | rfl <;> first | rfl | exact Sl.one (by assumption)) }
structure Lexicon where
  rules : (List Rule)
  decisions : (List Decision)
  deriving DecidableEq
def LLexicon : Lay Lexicon := { size := 2, R := fun h vs x => ∃ v0 v1, vs = [v0, v1] ∧ Sl LRule h v0 x.rules ∧ Sl LDecision h v1 x.decisions, up := (by rintro _ _ _ _ ⟨v0, v1, rfl, f0, f1⟩ hl; exact ⟨v0, v1, rfl, f0.up hl, f1.up hl⟩), len := (by rintro _ _ _ ⟨_, _, rfl, _, _⟩; rfl), one := (by rintro _ _ _ ⟨v0, v1, rfl, f0, f1⟩ u hu; simp only [List.mem_cons, List.not_mem_nil, or_false] at hu; rcases hu with rfl | rfl <;> first | rfl | exact Sl.one (by assumption)) }
structure Question where
  at_ : Place
  heads : (List Head)
  deriving DecidableEq
def LQuestion : Lay Question := { size := 4, R := fun h vs x => ∃ v0, vs = [.int .i64 x.at_.chapter, .int .i64 x.at_.line, .int .i64 x.at_.word, v0] ∧ Sl LHead h v0 x.heads, up := (by rintro _ _ _ _ ⟨v0, rfl, f0⟩ hl; exact ⟨v0, rfl, f0.up hl⟩), len := (by rintro _ _ _ ⟨_, rfl, _⟩; rfl), one := (by rintro _ _ _ ⟨v0, rfl, f0⟩ u hu; simp only [List.mem_cons, List.not_mem_nil, or_false] at hu; rcases hu with rfl | rfl | rfl | rfl <;> first | rfl | exact Sl.one (by assumption)) }
structure Voter where
  id : Int
  wrong : Int
  votes : (List Int)
  deriving DecidableEq
def LVoter : Lay Voter := { size := 3, R := fun h vs x => ∃ v0, vs = [.int .i64 x.id, .int .i64 x.wrong, v0] ∧ Sl LInt h v0 x.votes, up := (by rintro _ _ _ _ ⟨v0, rfl, f0⟩ hl; exact ⟨v0, rfl, f0.up hl⟩), len := (by rintro _ _ _ ⟨_, rfl, _⟩; rfl), one := (by rintro _ _ _ ⟨v0, rfl, f0⟩ u hu; simp only [List.mem_cons, List.not_mem_nil, or_false] at hu; rcases hu with rfl | rfl | rfl <;> first | rfl | exact Sl.one (by assumption)) }
structure Poll where
  text : Text
  lexicon : Lexicon
  questions : (List Question)
  voters : (List Voter)
  deriving DecidableEq
def LPoll : Lay Poll := { size := 5, R := fun h vs x => ∃ v0 v1 v2 v3 v4, vs = [v0, v1, v2, v3, v4] ∧ Sl LChapter h v0 x.text.chapters ∧ Sl LRule h v1 x.lexicon.rules ∧ Sl LDecision h v2 x.lexicon.decisions ∧ Sl LQuestion h v3 x.questions ∧ Sl LVoter h v4 x.voters, up := (by rintro _ _ _ _ ⟨v0, v1, v2, v3, v4, rfl, f0, f1, f2, f3, f4⟩ hl; exact ⟨v0, v1, v2, v3, v4, rfl, f0.up hl, f1.up hl, f2.up hl, f3.up hl, f4.up hl⟩), len := (by rintro _ _ _ ⟨_, _, _, _, _, rfl, _, _, _, _, _⟩; rfl), one := (by rintro _ _ _ ⟨v0, v1, v2, v3, v4, rfl, f0, f1, f2, f3, f4⟩ u hu; simp only [List.mem_cons, List.not_mem_nil, or_false] at hu; rcases hu with rfl | rfl | rfl | rfl | rfl <;> first | rfl | exact Sl.one (by assumption)) }
structure Span where
  lo : Int
  hi : Int
  deriving DecidableEq
def LSpan : Lay Span := { size := 2, R := fun _ vs x => vs = [.int .i64 x.lo, .int .i64 x.hi], up := fun h _ => h, len := (by rintro _ _ _ rfl; rfl), one := (by rintro _ _ _ rfl u hu; simp only [List.mem_cons, List.not_mem_nil, or_false] at hu; rcases hu with rfl | rfl <;> first | rfl | exact Sl.one (by assumption)) }
end Go.Pk
