import PyProof.Rows.All
import PyProof.Rows.News
import PyProof.DictWalks
import PyProof.Cells
import PyProof.ForAny
import PyProof.DictItems
import PyProof.CompFree
import PyProof.SetKind
import PyProof.TupleIter
import PyProof.Ns1
import PyProof.Rules3
import PyProof.Calls
import PyProof.Rows.Frame
import PyProof.Rows.Globals
import PyProof.EvalArms
import PyProof.Rules2
import PyProof.LetGo
import PyProof.RulesAssignMore
import PyProof.NeKinds
import PyProof.PureInt
import PyProof.ListTruth
import PyProof.ListIndexNeg
import PyProof.TupleOps
import PyProof.ListOps
import PyProof.SetRoads
import PyProof.IsRules
import PyProof.DictStraight
import PyProof.Rows.IntRules
import PyProof.Rows.RuleB_floordiv
import PyProof.WalksMore
import PyProof.ListCopy
import PyProof.Methods
import PyProof.SetNew
import PyProof.SeqI2
import PyProof.TypeOfCall
import PyProof.Rows.Exc
import PyProof.Rows.SortStr
import PyProof.CallType
import PyProof.Rows.SetFrom
import KE.KDictOf
import PyProof.AttrMissSeq
import PyProof.DictList
import PyProof.CallRoads
import PyProof.MeetsSeq
import PyProof.MeetsDict
import PyProof.SeqRoads2
import PyProof.FactsAll.set_3
import PyProof.RulesDel
import PyProof.RulesDelMore
import PyProof.ListIndex
import PyProof.ObjNew
import PyProof.InstLoad
import PyProof.InstStoreFacts
import PyProof.Rows.PlainObj
import PyProof.SliceList
import PyProof.SliceSyntax
import PyProof.Rows.SortWalk
import PyProof.CollectWalk
import PyProof.ListNew
import PyProof.Rows.StrRules
import PyProof.Rows.StrMeet
import Wide.All
import Open.Line
import OpenK.KWalk
import Wide.FinOn
import PySem.Challenge.RW_sx_r111_1
set_option Elab.async false
set_option linter.all false
noncomputable section
namespace Mine
theorem I11.{u0} {α : Sort u0} {p0 : α → Prop} (x0 : α) (a0 : p0 x0) : ∃ x0, p0 x0 := ⟨x0, a0⟩
theorem I21.{u0, u1} {α : Sort u0} {β : Sort u1} {p0 : α → β → Prop} (x0 : α) (x1 : β) (a0 : p0 x0 x1) : ∃ x0 x1, p0 x0 x1 := ⟨x0, x1, a0⟩
theorem I31.{u0, u1, u2} {α : Sort u0} {β : Sort u1} {γ : Sort u2} {p0 : α → β → γ → Prop} (x0 : α) (x1 : β) (x2 : γ) (a0 : p0 x0 x1 x2) : ∃ x0 x1 x2, p0 x0 x1 x2 := ⟨x0, x1, x2, a0⟩
theorem I41.{u0, u1, u2, u3} {α : Sort u0} {β : Sort u1} {γ : Sort u2} {δ : Sort u3} {p0 : α → β → γ → δ → Prop} (x0 : α) (x1 : β) (x2 : γ) (x3 : δ) (a0 : p0 x0 x1 x2 x3) : ∃ x0 x1 x2 x3, p0 x0 x1 x2 x3 := ⟨x0, x1, x2, x3, a0⟩
theorem I02  {p0 p1 : Prop}  (a0 : p0) (a1 : p1) : p0 ∧ p1 := ⟨a0, a1⟩
theorem I12.{u0} {α : Sort u0} {p0 p1 : α → Prop} (x0 : α) (a0 : p0 x0) (a1 : p1 x0) : ∃ x0, p0 x0 ∧ p1 x0 := ⟨x0, a0, a1⟩
theorem I22.{u0, u1} {α : Sort u0} {β : Sort u1} {p0 p1 : α → β → Prop} (x0 : α) (x1 : β) (a0 : p0 x0 x1) (a1 : p1 x0 x1) : ∃ x0 x1, p0 x0 x1 ∧ p1 x0 x1 := ⟨x0, x1, a0, a1⟩
theorem I32.{u0, u1, u2} {α : Sort u0} {β : Sort u1} {γ : Sort u2} {p0 p1 : α → β → γ → Prop} (x0 : α) (x1 : β) (x2 : γ) (a0 : p0 x0 x1 x2) (a1 : p1 x0 x1 x2) : ∃ x0 x1 x2, p0 x0 x1 x2 ∧ p1 x0 x1 x2 := ⟨x0, x1, x2, a0, a1⟩
theorem I42.{u0, u1, u2, u3} {α : Sort u0} {β : Sort u1} {γ : Sort u2} {δ : Sort u3} {p0 p1 : α → β → γ → δ → Prop} (x0 : α) (x1 : β) (x2 : γ) (x3 : δ) (a0 : p0 x0 x1 x2 x3) (a1 : p1 x0 x1 x2 x3) : ∃ x0 x1 x2 x3, p0 x0 x1 x2 x3 ∧ p1 x0 x1 x2 x3 := ⟨x0, x1, x2, x3, a0, a1⟩
theorem I52.{u0, u1, u2, u3, u4} {α : Sort u0} {β : Sort u1} {γ : Sort u2} {δ : Sort u3} {ε : Sort u4} {p0 p1 : α → β → γ → δ → ε → Prop} (x0 : α) (x1 : β) (x2 : γ) (x3 : δ) (x4 : ε) (a0 : p0 x0 x1 x2 x3 x4) (a1 : p1 x0 x1 x2 x3 x4) : ∃ x0 x1 x2 x3 x4, p0 x0 x1 x2 x3 x4 ∧ p1 x0 x1 x2 x3 x4 := ⟨x0, x1, x2, x3, x4, a0, a1⟩
theorem I03  {p0 p1 p2 : Prop}  (a0 : p0) (a1 : p1) (a2 : p2) : p0 ∧ p1 ∧ p2 := ⟨a0, a1, a2⟩
theorem I13.{u0} {α : Sort u0} {p0 p1 p2 : α → Prop} (x0 : α) (a0 : p0 x0) (a1 : p1 x0) (a2 : p2 x0) : ∃ x0, p0 x0 ∧ p1 x0 ∧ p2 x0 := ⟨x0, a0, a1, a2⟩
theorem I23.{u0, u1} {α : Sort u0} {β : Sort u1} {p0 p1 p2 : α → β → Prop} (x0 : α) (x1 : β) (a0 : p0 x0 x1) (a1 : p1 x0 x1) (a2 : p2 x0 x1) : ∃ x0 x1, p0 x0 x1 ∧ p1 x0 x1 ∧ p2 x0 x1 := ⟨x0, x1, a0, a1, a2⟩
theorem I33.{u0, u1, u2} {α : Sort u0} {β : Sort u1} {γ : Sort u2} {p0 p1 p2 : α → β → γ → Prop} (x0 : α) (x1 : β) (x2 : γ) (a0 : p0 x0 x1 x2) (a1 : p1 x0 x1 x2) (a2 : p2 x0 x1 x2) : ∃ x0 x1 x2, p0 x0 x1 x2 ∧ p1 x0 x1 x2 ∧ p2 x0 x1 x2 := ⟨x0, x1, x2, a0, a1, a2⟩
theorem I43.{u0, u1, u2, u3} {α : Sort u0} {β : Sort u1} {γ : Sort u2} {δ : Sort u3} {p0 p1 p2 : α → β → γ → δ → Prop} (x0 : α) (x1 : β) (x2 : γ) (x3 : δ) (a0 : p0 x0 x1 x2 x3) (a1 : p1 x0 x1 x2 x3) (a2 : p2 x0 x1 x2 x3) : ∃ x0 x1 x2 x3, p0 x0 x1 x2 x3 ∧ p1 x0 x1 x2 x3 ∧ p2 x0 x1 x2 x3 := ⟨x0, x1, x2, x3, a0, a1, a2⟩
theorem I63.{u0, u1, u2, u3, u4, u5} {α : Sort u0} {β : Sort u1} {γ : Sort u2} {δ : Sort u3} {ε : Sort u4} {ζ : Sort u5} {p0 p1 p2 : α → β → γ → δ → ε → ζ → Prop} (x0 : α) (x1 : β) (x2 : γ) (x3 : δ) (x4 : ε) (x5 : ζ) (a0 : p0 x0 x1 x2 x3 x4 x5) (a1 : p1 x0 x1 x2 x3 x4 x5) (a2 : p2 x0 x1 x2 x3 x4 x5) : ∃ x0 x1 x2 x3 x4 x5, p0 x0 x1 x2 x3 x4 x5 ∧ p1 x0 x1 x2 x3 x4 x5 ∧ p2 x0 x1 x2 x3 x4 x5 := ⟨x0, x1, x2, x3, x4, x5, a0, a1, a2⟩
theorem I04  {p0 p1 p2 p3 : Prop}  (a0 : p0) (a1 : p1) (a2 : p2) (a3 : p3) : p0 ∧ p1 ∧ p2 ∧ p3 := ⟨a0, a1, a2, a3⟩
theorem I14.{u0} {α : Sort u0} {p0 p1 p2 p3 : α → Prop} (x0 : α) (a0 : p0 x0) (a1 : p1 x0) (a2 : p2 x0) (a3 : p3 x0) : ∃ x0, p0 x0 ∧ p1 x0 ∧ p2 x0 ∧ p3 x0 := ⟨x0, a0, a1, a2, a3⟩
theorem I24.{u0, u1} {α : Sort u0} {β : Sort u1} {p0 p1 p2 p3 : α → β → Prop} (x0 : α) (x1 : β) (a0 : p0 x0 x1) (a1 : p1 x0 x1) (a2 : p2 x0 x1) (a3 : p3 x0 x1) : ∃ x0 x1, p0 x0 x1 ∧ p1 x0 x1 ∧ p2 x0 x1 ∧ p3 x0 x1 := ⟨x0, x1, a0, a1, a2, a3⟩
theorem I34.{u0, u1, u2} {α : Sort u0} {β : Sort u1} {γ : Sort u2} {p0 p1 p2 p3 : α → β → γ → Prop} (x0 : α) (x1 : β) (x2 : γ) (a0 : p0 x0 x1 x2) (a1 : p1 x0 x1 x2) (a2 : p2 x0 x1 x2) (a3 : p3 x0 x1 x2) : ∃ x0 x1 x2, p0 x0 x1 x2 ∧ p1 x0 x1 x2 ∧ p2 x0 x1 x2 ∧ p3 x0 x1 x2 := ⟨x0, x1, x2, a0, a1, a2, a3⟩
theorem I44.{u0, u1, u2, u3} {α : Sort u0} {β : Sort u1} {γ : Sort u2} {δ : Sort u3} {p0 p1 p2 p3 : α → β → γ → δ → Prop} (x0 : α) (x1 : β) (x2 : γ) (x3 : δ) (a0 : p0 x0 x1 x2 x3) (a1 : p1 x0 x1 x2 x3) (a2 : p2 x0 x1 x2 x3) (a3 : p3 x0 x1 x2 x3) : ∃ x0 x1 x2 x3, p0 x0 x1 x2 x3 ∧ p1 x0 x1 x2 x3 ∧ p2 x0 x1 x2 x3 ∧ p3 x0 x1 x2 x3 := ⟨x0, x1, x2, x3, a0, a1, a2, a3⟩
theorem I05  {p0 p1 p2 p3 p4 : Prop}  (a0 : p0) (a1 : p1) (a2 : p2) (a3 : p3) (a4 : p4) : p0 ∧ p1 ∧ p2 ∧ p3 ∧ p4 := ⟨a0, a1, a2, a3, a4⟩
theorem I25.{u0, u1} {α : Sort u0} {β : Sort u1} {p0 p1 p2 p3 p4 : α → β → Prop} (x0 : α) (x1 : β) (a0 : p0 x0 x1) (a1 : p1 x0 x1) (a2 : p2 x0 x1) (a3 : p3 x0 x1) (a4 : p4 x0 x1) : ∃ x0 x1, p0 x0 x1 ∧ p1 x0 x1 ∧ p2 x0 x1 ∧ p3 x0 x1 ∧ p4 x0 x1 := ⟨x0, x1, a0, a1, a2, a3, a4⟩
theorem I35.{u0, u1, u2} {α : Sort u0} {β : Sort u1} {γ : Sort u2} {p0 p1 p2 p3 p4 : α → β → γ → Prop} (x0 : α) (x1 : β) (x2 : γ) (a0 : p0 x0 x1 x2) (a1 : p1 x0 x1 x2) (a2 : p2 x0 x1 x2) (a3 : p3 x0 x1 x2) (a4 : p4 x0 x1 x2) : ∃ x0 x1 x2, p0 x0 x1 x2 ∧ p1 x0 x1 x2 ∧ p2 x0 x1 x2 ∧ p3 x0 x1 x2 ∧ p4 x0 x1 x2 := ⟨x0, x1, x2, a0, a1, a2, a3, a4⟩
theorem I45.{u0, u1, u2, u3} {α : Sort u0} {β : Sort u1} {γ : Sort u2} {δ : Sort u3} {p0 p1 p2 p3 p4 : α → β → γ → δ → Prop} (x0 : α) (x1 : β) (x2 : γ) (x3 : δ) (a0 : p0 x0 x1 x2 x3) (a1 : p1 x0 x1 x2 x3) (a2 : p2 x0 x1 x2 x3) (a3 : p3 x0 x1 x2 x3) (a4 : p4 x0 x1 x2 x3) : ∃ x0 x1 x2 x3, p0 x0 x1 x2 x3 ∧ p1 x0 x1 x2 x3 ∧ p2 x0 x1 x2 x3 ∧ p3 x0 x1 x2 x3 ∧ p4 x0 x1 x2 x3 := ⟨x0, x1, x2, x3, a0, a1, a2, a3, a4⟩
theorem I65.{u0, u1, u2, u3, u4, u5} {α : Sort u0} {β : Sort u1} {γ : Sort u2} {δ : Sort u3} {ε : Sort u4} {ζ : Sort u5} {p0 p1 p2 p3 p4 : α → β → γ → δ → ε → ζ → Prop} (x0 : α) (x1 : β) (x2 : γ) (x3 : δ) (x4 : ε) (x5 : ζ) (a0 : p0 x0 x1 x2 x3 x4 x5) (a1 : p1 x0 x1 x2 x3 x4 x5) (a2 : p2 x0 x1 x2 x3 x4 x5) (a3 : p3 x0 x1 x2 x3 x4 x5) (a4 : p4 x0 x1 x2 x3 x4 x5) : ∃ x0 x1 x2 x3 x4 x5, p0 x0 x1 x2 x3 x4 x5 ∧ p1 x0 x1 x2 x3 x4 x5 ∧ p2 x0 x1 x2 x3 x4 x5 ∧ p3 x0 x1 x2 x3 x4 x5 ∧ p4 x0 x1 x2 x3 x4 x5 := ⟨x0, x1, x2, x3, x4, x5, a0, a1, a2, a3, a4⟩
theorem I06  {p0 p1 p2 p3 p4 p5 : Prop}  (a0 : p0) (a1 : p1) (a2 : p2) (a3 : p3) (a4 : p4) (a5 : p5) : p0 ∧ p1 ∧ p2 ∧ p3 ∧ p4 ∧ p5 := ⟨a0, a1, a2, a3, a4, a5⟩
theorem I56.{u0, u1, u2, u3, u4} {α : Sort u0} {β : Sort u1} {γ : Sort u2} {δ : Sort u3} {ε : Sort u4} {p0 p1 p2 p3 p4 p5 : α → β → γ → δ → ε → Prop} (x0 : α) (x1 : β) (x2 : γ) (x3 : δ) (x4 : ε) (a0 : p0 x0 x1 x2 x3 x4) (a1 : p1 x0 x1 x2 x3 x4) (a2 : p2 x0 x1 x2 x3 x4) (a3 : p3 x0 x1 x2 x3 x4) (a4 : p4 x0 x1 x2 x3 x4) (a5 : p5 x0 x1 x2 x3 x4) : ∃ x0 x1 x2 x3 x4, p0 x0 x1 x2 x3 x4 ∧ p1 x0 x1 x2 x3 x4 ∧ p2 x0 x1 x2 x3 x4 ∧ p3 x0 x1 x2 x3 x4 ∧ p4 x0 x1 x2 x3 x4 ∧ p5 x0 x1 x2 x3 x4 := ⟨x0, x1, x2, x3, x4, a0, a1, a2, a3, a4, a5⟩
theorem I67.{u0, u1, u2, u3, u4, u5} {α : Sort u0} {β : Sort u1} {γ : Sort u2} {δ : Sort u3} {ε : Sort u4} {ζ : Sort u5} {p0 p1 p2 p3 p4 p5 p6 : α → β → γ → δ → ε → ζ → Prop} (x0 : α) (x1 : β) (x2 : γ) (x3 : δ) (x4 : ε) (x5 : ζ) (a0 : p0 x0 x1 x2 x3 x4 x5) (a1 : p1 x0 x1 x2 x3 x4 x5) (a2 : p2 x0 x1 x2 x3 x4 x5) (a3 : p3 x0 x1 x2 x3 x4 x5) (a4 : p4 x0 x1 x2 x3 x4 x5) (a5 : p5 x0 x1 x2 x3 x4 x5) (a6 : p6 x0 x1 x2 x3 x4 x5) : ∃ x0 x1 x2 x3 x4 x5, p0 x0 x1 x2 x3 x4 x5 ∧ p1 x0 x1 x2 x3 x4 x5 ∧ p2 x0 x1 x2 x3 x4 x5 ∧ p3 x0 x1 x2 x3 x4 x5 ∧ p4 x0 x1 x2 x3 x4 x5 ∧ p5 x0 x1 x2 x3 x4 x5 ∧ p6 x0 x1 x2 x3 x4 x5 := ⟨x0, x1, x2, x3, x4, x5, a0, a1, a2, a3, a4, a5, a6⟩
theorem I48.{u0, u1, u2, u3} {α : Sort u0} {β : Sort u1} {γ : Sort u2} {δ : Sort u3} {p0 p1 p2 p3 p4 p5 p6 p7 : α → β → γ → δ → Prop} (x0 : α) (x1 : β) (x2 : γ) (x3 : δ) (a0 : p0 x0 x1 x2 x3) (a1 : p1 x0 x1 x2 x3) (a2 : p2 x0 x1 x2 x3) (a3 : p3 x0 x1 x2 x3) (a4 : p4 x0 x1 x2 x3) (a5 : p5 x0 x1 x2 x3) (a6 : p6 x0 x1 x2 x3) (a7 : p7 x0 x1 x2 x3) : ∃ x0 x1 x2 x3, p0 x0 x1 x2 x3 ∧ p1 x0 x1 x2 x3 ∧ p2 x0 x1 x2 x3 ∧ p3 x0 x1 x2 x3 ∧ p4 x0 x1 x2 x3 ∧ p5 x0 x1 x2 x3 ∧ p6 x0 x1 x2 x3 ∧ p7 x0 x1 x2 x3 := ⟨x0, x1, x2, x3, a0, a1, a2, a3, a4, a5, a6, a7⟩
theorem I510.{u0, u1, u2, u3, u4} {α : Sort u0} {β : Sort u1} {γ : Sort u2} {δ : Sort u3} {ε : Sort u4} {p0 p1 p2 p3 p4 p5 p6 p7 p8 p9 : α → β → γ → δ → ε → Prop} (x0 : α) (x1 : β) (x2 : γ) (x3 : δ) (x4 : ε) (a0 : p0 x0 x1 x2 x3 x4) (a1 : p1 x0 x1 x2 x3 x4) (a2 : p2 x0 x1 x2 x3 x4) (a3 : p3 x0 x1 x2 x3 x4) (a4 : p4 x0 x1 x2 x3 x4) (a5 : p5 x0 x1 x2 x3 x4) (a6 : p6 x0 x1 x2 x3 x4) (a7 : p7 x0 x1 x2 x3 x4) (a8 : p8 x0 x1 x2 x3 x4) (a9 : p9 x0 x1 x2 x3 x4) : ∃ x0 x1 x2 x3 x4, p0 x0 x1 x2 x3 x4 ∧ p1 x0 x1 x2 x3 x4 ∧ p2 x0 x1 x2 x3 x4 ∧ p3 x0 x1 x2 x3 x4 ∧ p4 x0 x1 x2 x3 x4 ∧ p5 x0 x1 x2 x3 x4 ∧ p6 x0 x1 x2 x3 x4 ∧ p7 x0 x1 x2 x3 x4 ∧ p8 x0 x1 x2 x3 x4 ∧ p9 x0 x1 x2 x3 x4 := ⟨x0, x1, x2, x3, x4, a0, a1, a2, a3, a4, a5, a6, a7, a8, a9⟩
theorem E11.{u0} {α : Sort u0} {p0 : α → Prop} {G : Prop} (h : ∃ x0, p0 x0) (k : ∀ x0, p0 x0 → G) : G := h.elim k
theorem E21.{u0, u1} {α : Sort u0} {β : Sort u1} {p0 : α → β → Prop} {G : Prop} (h : ∃ x0 x1, p0 x0 x1) (k : ∀ x0 x1, p0 x0 x1 → G) : G := h.elim fun x h => E11 h (k x)
theorem E31.{u0, u1, u2} {α : Sort u0} {β : Sort u1} {γ : Sort u2} {p0 : α → β → γ → Prop} {G : Prop} (h : ∃ x0 x1 x2, p0 x0 x1 x2) (k : ∀ x0 x1 x2, p0 x0 x1 x2 → G) : G := h.elim fun x h => E21 h (k x)
theorem E41.{u0, u1, u2, u3} {α : Sort u0} {β : Sort u1} {γ : Sort u2} {δ : Sort u3} {p0 : α → β → γ → δ → Prop} {G : Prop} (h : ∃ x0 x1 x2 x3, p0 x0 x1 x2 x3) (k : ∀ x0 x1 x2 x3, p0 x0 x1 x2 x3 → G) : G := h.elim fun x h => E31 h (k x)
theorem E51.{u0, u1, u2, u3, u4} {α : Sort u0} {β : Sort u1} {γ : Sort u2} {δ : Sort u3} {ε : Sort u4} {p0 : α → β → γ → δ → ε → Prop} {G : Prop} (h : ∃ x0 x1 x2 x3 x4, p0 x0 x1 x2 x3 x4) (k : ∀ x0 x1 x2 x3 x4, p0 x0 x1 x2 x3 x4 → G) : G := h.elim fun x h => E41 h (k x)
theorem E02  {p0 p1 : Prop} {G : Prop} (h : p0 ∧ p1) (k : p0 → p1 → G) : G := k h.1 h.2
theorem E12.{u0} {α : Sort u0} {p0 p1 : α → Prop} {G : Prop} (h : ∃ x0, p0 x0 ∧ p1 x0) (k : ∀ x0, p0 x0 → p1 x0 → G) : G := h.elim fun x h => E02 h (k x)
theorem E22.{u0, u1} {α : Sort u0} {β : Sort u1} {p0 p1 : α → β → Prop} {G : Prop} (h : ∃ x0 x1, p0 x0 x1 ∧ p1 x0 x1) (k : ∀ x0 x1, p0 x0 x1 → p1 x0 x1 → G) : G := h.elim fun x h => E12 h (k x)
theorem E32.{u0, u1, u2} {α : Sort u0} {β : Sort u1} {γ : Sort u2} {p0 p1 : α → β → γ → Prop} {G : Prop} (h : ∃ x0 x1 x2, p0 x0 x1 x2 ∧ p1 x0 x1 x2) (k : ∀ x0 x1 x2, p0 x0 x1 x2 → p1 x0 x1 x2 → G) : G := h.elim fun x h => E22 h (k x)
theorem E42.{u0, u1, u2, u3} {α : Sort u0} {β : Sort u1} {γ : Sort u2} {δ : Sort u3} {p0 p1 : α → β → γ → δ → Prop} {G : Prop} (h : ∃ x0 x1 x2 x3, p0 x0 x1 x2 x3 ∧ p1 x0 x1 x2 x3) (k : ∀ x0 x1 x2 x3, p0 x0 x1 x2 x3 → p1 x0 x1 x2 x3 → G) : G := h.elim fun x h => E32 h (k x)
theorem E52.{u0, u1, u2, u3, u4} {α : Sort u0} {β : Sort u1} {γ : Sort u2} {δ : Sort u3} {ε : Sort u4} {p0 p1 : α → β → γ → δ → ε → Prop} {G : Prop} (h : ∃ x0 x1 x2 x3 x4, p0 x0 x1 x2 x3 x4 ∧ p1 x0 x1 x2 x3 x4) (k : ∀ x0 x1 x2 x3 x4, p0 x0 x1 x2 x3 x4 → p1 x0 x1 x2 x3 x4 → G) : G := h.elim fun x h => E42 h (k x)
theorem E03  {p0 p1 p2 : Prop} {G : Prop} (h : p0 ∧ p1 ∧ p2) (k : p0 → p1 → p2 → G) : G := k h.1 h.2.1 h.2.2
theorem E13.{u0} {α : Sort u0} {p0 p1 p2 : α → Prop} {G : Prop} (h : ∃ x0, p0 x0 ∧ p1 x0 ∧ p2 x0) (k : ∀ x0, p0 x0 → p1 x0 → p2 x0 → G) : G := h.elim fun x h => E03 h (k x)
theorem E23.{u0, u1} {α : Sort u0} {β : Sort u1} {p0 p1 p2 : α → β → Prop} {G : Prop} (h : ∃ x0 x1, p0 x0 x1 ∧ p1 x0 x1 ∧ p2 x0 x1) (k : ∀ x0 x1, p0 x0 x1 → p1 x0 x1 → p2 x0 x1 → G) : G := h.elim fun x h => E13 h (k x)
theorem E33.{u0, u1, u2} {α : Sort u0} {β : Sort u1} {γ : Sort u2} {p0 p1 p2 : α → β → γ → Prop} {G : Prop} (h : ∃ x0 x1 x2, p0 x0 x1 x2 ∧ p1 x0 x1 x2 ∧ p2 x0 x1 x2) (k : ∀ x0 x1 x2, p0 x0 x1 x2 → p1 x0 x1 x2 → p2 x0 x1 x2 → G) : G := h.elim fun x h => E23 h (k x)
theorem E43.{u0, u1, u2, u3} {α : Sort u0} {β : Sort u1} {γ : Sort u2} {δ : Sort u3} {p0 p1 p2 : α → β → γ → δ → Prop} {G : Prop} (h : ∃ x0 x1 x2 x3, p0 x0 x1 x2 x3 ∧ p1 x0 x1 x2 x3 ∧ p2 x0 x1 x2 x3) (k : ∀ x0 x1 x2 x3, p0 x0 x1 x2 x3 → p1 x0 x1 x2 x3 → p2 x0 x1 x2 x3 → G) : G := h.elim fun x h => E33 h (k x)
theorem E53.{u0, u1, u2, u3, u4} {α : Sort u0} {β : Sort u1} {γ : Sort u2} {δ : Sort u3} {ε : Sort u4} {p0 p1 p2 : α → β → γ → δ → ε → Prop} {G : Prop} (h : ∃ x0 x1 x2 x3 x4, p0 x0 x1 x2 x3 x4 ∧ p1 x0 x1 x2 x3 x4 ∧ p2 x0 x1 x2 x3 x4) (k : ∀ x0 x1 x2 x3 x4, p0 x0 x1 x2 x3 x4 → p1 x0 x1 x2 x3 x4 → p2 x0 x1 x2 x3 x4 → G) : G := h.elim fun x h => E43 h (k x)
theorem E63.{u0, u1, u2, u3, u4, u5} {α : Sort u0} {β : Sort u1} {γ : Sort u2} {δ : Sort u3} {ε : Sort u4} {ζ : Sort u5} {p0 p1 p2 : α → β → γ → δ → ε → ζ → Prop} {G : Prop} (h : ∃ x0 x1 x2 x3 x4 x5, p0 x0 x1 x2 x3 x4 x5 ∧ p1 x0 x1 x2 x3 x4 x5 ∧ p2 x0 x1 x2 x3 x4 x5) (k : ∀ x0 x1 x2 x3 x4 x5, p0 x0 x1 x2 x3 x4 x5 → p1 x0 x1 x2 x3 x4 x5 → p2 x0 x1 x2 x3 x4 x5 → G) : G := h.elim fun x h => E53 h (k x)
theorem E04  {p0 p1 p2 p3 : Prop} {G : Prop} (h : p0 ∧ p1 ∧ p2 ∧ p3) (k : p0 → p1 → p2 → p3 → G) : G := k h.1 h.2.1 h.2.2.1 h.2.2.2
theorem E14.{u0} {α : Sort u0} {p0 p1 p2 p3 : α → Prop} {G : Prop} (h : ∃ x0, p0 x0 ∧ p1 x0 ∧ p2 x0 ∧ p3 x0) (k : ∀ x0, p0 x0 → p1 x0 → p2 x0 → p3 x0 → G) : G := h.elim fun x h => E04 h (k x)
theorem E24.{u0, u1} {α : Sort u0} {β : Sort u1} {p0 p1 p2 p3 : α → β → Prop} {G : Prop} (h : ∃ x0 x1, p0 x0 x1 ∧ p1 x0 x1 ∧ p2 x0 x1 ∧ p3 x0 x1) (k : ∀ x0 x1, p0 x0 x1 → p1 x0 x1 → p2 x0 x1 → p3 x0 x1 → G) : G := h.elim fun x h => E14 h (k x)
theorem E34.{u0, u1, u2} {α : Sort u0} {β : Sort u1} {γ : Sort u2} {p0 p1 p2 p3 : α → β → γ → Prop} {G : Prop} (h : ∃ x0 x1 x2, p0 x0 x1 x2 ∧ p1 x0 x1 x2 ∧ p2 x0 x1 x2 ∧ p3 x0 x1 x2) (k : ∀ x0 x1 x2, p0 x0 x1 x2 → p1 x0 x1 x2 → p2 x0 x1 x2 → p3 x0 x1 x2 → G) : G := h.elim fun x h => E24 h (k x)
theorem E44.{u0, u1, u2, u3} {α : Sort u0} {β : Sort u1} {γ : Sort u2} {δ : Sort u3} {p0 p1 p2 p3 : α → β → γ → δ → Prop} {G : Prop} (h : ∃ x0 x1 x2 x3, p0 x0 x1 x2 x3 ∧ p1 x0 x1 x2 x3 ∧ p2 x0 x1 x2 x3 ∧ p3 x0 x1 x2 x3) (k : ∀ x0 x1 x2 x3, p0 x0 x1 x2 x3 → p1 x0 x1 x2 x3 → p2 x0 x1 x2 x3 → p3 x0 x1 x2 x3 → G) : G := h.elim fun x h => E34 h (k x)
theorem E05  {p0 p1 p2 p3 p4 : Prop} {G : Prop} (h : p0 ∧ p1 ∧ p2 ∧ p3 ∧ p4) (k : p0 → p1 → p2 → p3 → p4 → G) : G := k h.1 h.2.1 h.2.2.1 h.2.2.2.1 h.2.2.2.2
theorem E15.{u0} {α : Sort u0} {p0 p1 p2 p3 p4 : α → Prop} {G : Prop} (h : ∃ x0, p0 x0 ∧ p1 x0 ∧ p2 x0 ∧ p3 x0 ∧ p4 x0) (k : ∀ x0, p0 x0 → p1 x0 → p2 x0 → p3 x0 → p4 x0 → G) : G := h.elim fun x h => E05 h (k x)
theorem E25.{u0, u1} {α : Sort u0} {β : Sort u1} {p0 p1 p2 p3 p4 : α → β → Prop} {G : Prop} (h : ∃ x0 x1, p0 x0 x1 ∧ p1 x0 x1 ∧ p2 x0 x1 ∧ p3 x0 x1 ∧ p4 x0 x1) (k : ∀ x0 x1, p0 x0 x1 → p1 x0 x1 → p2 x0 x1 → p3 x0 x1 → p4 x0 x1 → G) : G := h.elim fun x h => E15 h (k x)
theorem E35.{u0, u1, u2} {α : Sort u0} {β : Sort u1} {γ : Sort u2} {p0 p1 p2 p3 p4 : α → β → γ → Prop} {G : Prop} (h : ∃ x0 x1 x2, p0 x0 x1 x2 ∧ p1 x0 x1 x2 ∧ p2 x0 x1 x2 ∧ p3 x0 x1 x2 ∧ p4 x0 x1 x2) (k : ∀ x0 x1 x2, p0 x0 x1 x2 → p1 x0 x1 x2 → p2 x0 x1 x2 → p3 x0 x1 x2 → p4 x0 x1 x2 → G) : G := h.elim fun x h => E25 h (k x)
theorem E45.{u0, u1, u2, u3} {α : Sort u0} {β : Sort u1} {γ : Sort u2} {δ : Sort u3} {p0 p1 p2 p3 p4 : α → β → γ → δ → Prop} {G : Prop} (h : ∃ x0 x1 x2 x3, p0 x0 x1 x2 x3 ∧ p1 x0 x1 x2 x3 ∧ p2 x0 x1 x2 x3 ∧ p3 x0 x1 x2 x3 ∧ p4 x0 x1 x2 x3) (k : ∀ x0 x1 x2 x3, p0 x0 x1 x2 x3 → p1 x0 x1 x2 x3 → p2 x0 x1 x2 x3 → p3 x0 x1 x2 x3 → p4 x0 x1 x2 x3 → G) : G := h.elim fun x h => E35 h (k x)
theorem E55.{u0, u1, u2, u3, u4} {α : Sort u0} {β : Sort u1} {γ : Sort u2} {δ : Sort u3} {ε : Sort u4} {p0 p1 p2 p3 p4 : α → β → γ → δ → ε → Prop} {G : Prop} (h : ∃ x0 x1 x2 x3 x4, p0 x0 x1 x2 x3 x4 ∧ p1 x0 x1 x2 x3 x4 ∧ p2 x0 x1 x2 x3 x4 ∧ p3 x0 x1 x2 x3 x4 ∧ p4 x0 x1 x2 x3 x4) (k : ∀ x0 x1 x2 x3 x4, p0 x0 x1 x2 x3 x4 → p1 x0 x1 x2 x3 x4 → p2 x0 x1 x2 x3 x4 → p3 x0 x1 x2 x3 x4 → p4 x0 x1 x2 x3 x4 → G) : G := h.elim fun x h => E45 h (k x)
theorem E65.{u0, u1, u2, u3, u4, u5} {α : Sort u0} {β : Sort u1} {γ : Sort u2} {δ : Sort u3} {ε : Sort u4} {ζ : Sort u5} {p0 p1 p2 p3 p4 : α → β → γ → δ → ε → ζ → Prop} {G : Prop} (h : ∃ x0 x1 x2 x3 x4 x5, p0 x0 x1 x2 x3 x4 x5 ∧ p1 x0 x1 x2 x3 x4 x5 ∧ p2 x0 x1 x2 x3 x4 x5 ∧ p3 x0 x1 x2 x3 x4 x5 ∧ p4 x0 x1 x2 x3 x4 x5) (k : ∀ x0 x1 x2 x3 x4 x5, p0 x0 x1 x2 x3 x4 x5 → p1 x0 x1 x2 x3 x4 x5 → p2 x0 x1 x2 x3 x4 x5 → p3 x0 x1 x2 x3 x4 x5 → p4 x0 x1 x2 x3 x4 x5 → G) : G := h.elim fun x h => E55 h (k x)
theorem E06  {p0 p1 p2 p3 p4 p5 : Prop} {G : Prop} (h : p0 ∧ p1 ∧ p2 ∧ p3 ∧ p4 ∧ p5) (k : p0 → p1 → p2 → p3 → p4 → p5 → G) : G := k h.1 h.2.1 h.2.2.1 h.2.2.2.1 h.2.2.2.2.1 h.2.2.2.2.2
theorem E16.{u0} {α : Sort u0} {p0 p1 p2 p3 p4 p5 : α → Prop} {G : Prop} (h : ∃ x0, p0 x0 ∧ p1 x0 ∧ p2 x0 ∧ p3 x0 ∧ p4 x0 ∧ p5 x0) (k : ∀ x0, p0 x0 → p1 x0 → p2 x0 → p3 x0 → p4 x0 → p5 x0 → G) : G := h.elim fun x h => E06 h (k x)
theorem E26.{u0, u1} {α : Sort u0} {β : Sort u1} {p0 p1 p2 p3 p4 p5 : α → β → Prop} {G : Prop} (h : ∃ x0 x1, p0 x0 x1 ∧ p1 x0 x1 ∧ p2 x0 x1 ∧ p3 x0 x1 ∧ p4 x0 x1 ∧ p5 x0 x1) (k : ∀ x0 x1, p0 x0 x1 → p1 x0 x1 → p2 x0 x1 → p3 x0 x1 → p4 x0 x1 → p5 x0 x1 → G) : G := h.elim fun x h => E16 h (k x)
theorem E36.{u0, u1, u2} {α : Sort u0} {β : Sort u1} {γ : Sort u2} {p0 p1 p2 p3 p4 p5 : α → β → γ → Prop} {G : Prop} (h : ∃ x0 x1 x2, p0 x0 x1 x2 ∧ p1 x0 x1 x2 ∧ p2 x0 x1 x2 ∧ p3 x0 x1 x2 ∧ p4 x0 x1 x2 ∧ p5 x0 x1 x2) (k : ∀ x0 x1 x2, p0 x0 x1 x2 → p1 x0 x1 x2 → p2 x0 x1 x2 → p3 x0 x1 x2 → p4 x0 x1 x2 → p5 x0 x1 x2 → G) : G := h.elim fun x h => E26 h (k x)
theorem E46.{u0, u1, u2, u3} {α : Sort u0} {β : Sort u1} {γ : Sort u2} {δ : Sort u3} {p0 p1 p2 p3 p4 p5 : α → β → γ → δ → Prop} {G : Prop} (h : ∃ x0 x1 x2 x3, p0 x0 x1 x2 x3 ∧ p1 x0 x1 x2 x3 ∧ p2 x0 x1 x2 x3 ∧ p3 x0 x1 x2 x3 ∧ p4 x0 x1 x2 x3 ∧ p5 x0 x1 x2 x3) (k : ∀ x0 x1 x2 x3, p0 x0 x1 x2 x3 → p1 x0 x1 x2 x3 → p2 x0 x1 x2 x3 → p3 x0 x1 x2 x3 → p4 x0 x1 x2 x3 → p5 x0 x1 x2 x3 → G) : G := h.elim fun x h => E36 h (k x)
theorem E56.{u0, u1, u2, u3, u4} {α : Sort u0} {β : Sort u1} {γ : Sort u2} {δ : Sort u3} {ε : Sort u4} {p0 p1 p2 p3 p4 p5 : α → β → γ → δ → ε → Prop} {G : Prop} (h : ∃ x0 x1 x2 x3 x4, p0 x0 x1 x2 x3 x4 ∧ p1 x0 x1 x2 x3 x4 ∧ p2 x0 x1 x2 x3 x4 ∧ p3 x0 x1 x2 x3 x4 ∧ p4 x0 x1 x2 x3 x4 ∧ p5 x0 x1 x2 x3 x4) (k : ∀ x0 x1 x2 x3 x4, p0 x0 x1 x2 x3 x4 → p1 x0 x1 x2 x3 x4 → p2 x0 x1 x2 x3 x4 → p3 x0 x1 x2 x3 x4 → p4 x0 x1 x2 x3 x4 → p5 x0 x1 x2 x3 x4 → G) : G := h.elim fun x h => E46 h (k x)
theorem E66.{u0, u1, u2, u3, u4, u5} {α : Sort u0} {β : Sort u1} {γ : Sort u2} {δ : Sort u3} {ε : Sort u4} {ζ : Sort u5} {p0 p1 p2 p3 p4 p5 : α → β → γ → δ → ε → ζ → Prop} {G : Prop} (h : ∃ x0 x1 x2 x3 x4 x5, p0 x0 x1 x2 x3 x4 x5 ∧ p1 x0 x1 x2 x3 x4 x5 ∧ p2 x0 x1 x2 x3 x4 x5 ∧ p3 x0 x1 x2 x3 x4 x5 ∧ p4 x0 x1 x2 x3 x4 x5 ∧ p5 x0 x1 x2 x3 x4 x5) (k : ∀ x0 x1 x2 x3 x4 x5, p0 x0 x1 x2 x3 x4 x5 → p1 x0 x1 x2 x3 x4 x5 → p2 x0 x1 x2 x3 x4 x5 → p3 x0 x1 x2 x3 x4 x5 → p4 x0 x1 x2 x3 x4 x5 → p5 x0 x1 x2 x3 x4 x5 → G) : G := h.elim fun x h => E56 h (k x)
theorem E07  {p0 p1 p2 p3 p4 p5 p6 : Prop} {G : Prop} (h : p0 ∧ p1 ∧ p2 ∧ p3 ∧ p4 ∧ p5 ∧ p6) (k : p0 → p1 → p2 → p3 → p4 → p5 → p6 → G) : G := k h.1 h.2.1 h.2.2.1 h.2.2.2.1 h.2.2.2.2.1 h.2.2.2.2.2.1 h.2.2.2.2.2.2
theorem E17.{u0} {α : Sort u0} {p0 p1 p2 p3 p4 p5 p6 : α → Prop} {G : Prop} (h : ∃ x0, p0 x0 ∧ p1 x0 ∧ p2 x0 ∧ p3 x0 ∧ p4 x0 ∧ p5 x0 ∧ p6 x0) (k : ∀ x0, p0 x0 → p1 x0 → p2 x0 → p3 x0 → p4 x0 → p5 x0 → p6 x0 → G) : G := h.elim fun x h => E07 h (k x)
theorem E27.{u0, u1} {α : Sort u0} {β : Sort u1} {p0 p1 p2 p3 p4 p5 p6 : α → β → Prop} {G : Prop} (h : ∃ x0 x1, p0 x0 x1 ∧ p1 x0 x1 ∧ p2 x0 x1 ∧ p3 x0 x1 ∧ p4 x0 x1 ∧ p5 x0 x1 ∧ p6 x0 x1) (k : ∀ x0 x1, p0 x0 x1 → p1 x0 x1 → p2 x0 x1 → p3 x0 x1 → p4 x0 x1 → p5 x0 x1 → p6 x0 x1 → G) : G := h.elim fun x h => E17 h (k x)
theorem E37.{u0, u1, u2} {α : Sort u0} {β : Sort u1} {γ : Sort u2} {p0 p1 p2 p3 p4 p5 p6 : α → β → γ → Prop} {G : Prop} (h : ∃ x0 x1 x2, p0 x0 x1 x2 ∧ p1 x0 x1 x2 ∧ p2 x0 x1 x2 ∧ p3 x0 x1 x2 ∧ p4 x0 x1 x2 ∧ p5 x0 x1 x2 ∧ p6 x0 x1 x2) (k : ∀ x0 x1 x2, p0 x0 x1 x2 → p1 x0 x1 x2 → p2 x0 x1 x2 → p3 x0 x1 x2 → p4 x0 x1 x2 → p5 x0 x1 x2 → p6 x0 x1 x2 → G) : G := h.elim fun x h => E27 h (k x)
theorem E47.{u0, u1, u2, u3} {α : Sort u0} {β : Sort u1} {γ : Sort u2} {δ : Sort u3} {p0 p1 p2 p3 p4 p5 p6 : α → β → γ → δ → Prop} {G : Prop} (h : ∃ x0 x1 x2 x3, p0 x0 x1 x2 x3 ∧ p1 x0 x1 x2 x3 ∧ p2 x0 x1 x2 x3 ∧ p3 x0 x1 x2 x3 ∧ p4 x0 x1 x2 x3 ∧ p5 x0 x1 x2 x3 ∧ p6 x0 x1 x2 x3) (k : ∀ x0 x1 x2 x3, p0 x0 x1 x2 x3 → p1 x0 x1 x2 x3 → p2 x0 x1 x2 x3 → p3 x0 x1 x2 x3 → p4 x0 x1 x2 x3 → p5 x0 x1 x2 x3 → p6 x0 x1 x2 x3 → G) : G := h.elim fun x h => E37 h (k x)
theorem E57.{u0, u1, u2, u3, u4} {α : Sort u0} {β : Sort u1} {γ : Sort u2} {δ : Sort u3} {ε : Sort u4} {p0 p1 p2 p3 p4 p5 p6 : α → β → γ → δ → ε → Prop} {G : Prop} (h : ∃ x0 x1 x2 x3 x4, p0 x0 x1 x2 x3 x4 ∧ p1 x0 x1 x2 x3 x4 ∧ p2 x0 x1 x2 x3 x4 ∧ p3 x0 x1 x2 x3 x4 ∧ p4 x0 x1 x2 x3 x4 ∧ p5 x0 x1 x2 x3 x4 ∧ p6 x0 x1 x2 x3 x4) (k : ∀ x0 x1 x2 x3 x4, p0 x0 x1 x2 x3 x4 → p1 x0 x1 x2 x3 x4 → p2 x0 x1 x2 x3 x4 → p3 x0 x1 x2 x3 x4 → p4 x0 x1 x2 x3 x4 → p5 x0 x1 x2 x3 x4 → p6 x0 x1 x2 x3 x4 → G) : G := h.elim fun x h => E47 h (k x)
theorem E67.{u0, u1, u2, u3, u4, u5} {α : Sort u0} {β : Sort u1} {γ : Sort u2} {δ : Sort u3} {ε : Sort u4} {ζ : Sort u5} {p0 p1 p2 p3 p4 p5 p6 : α → β → γ → δ → ε → ζ → Prop} {G : Prop} (h : ∃ x0 x1 x2 x3 x4 x5, p0 x0 x1 x2 x3 x4 x5 ∧ p1 x0 x1 x2 x3 x4 x5 ∧ p2 x0 x1 x2 x3 x4 x5 ∧ p3 x0 x1 x2 x3 x4 x5 ∧ p4 x0 x1 x2 x3 x4 x5 ∧ p5 x0 x1 x2 x3 x4 x5 ∧ p6 x0 x1 x2 x3 x4 x5) (k : ∀ x0 x1 x2 x3 x4 x5, p0 x0 x1 x2 x3 x4 x5 → p1 x0 x1 x2 x3 x4 x5 → p2 x0 x1 x2 x3 x4 x5 → p3 x0 x1 x2 x3 x4 x5 → p4 x0 x1 x2 x3 x4 x5 → p5 x0 x1 x2 x3 x4 x5 → p6 x0 x1 x2 x3 x4 x5 → G) : G := h.elim fun x h => E57 h (k x)
theorem E09  {p0 p1 p2 p3 p4 p5 p6 p7 p8 : Prop} {G : Prop} (h : p0 ∧ p1 ∧ p2 ∧ p3 ∧ p4 ∧ p5 ∧ p6 ∧ p7 ∧ p8) (k : p0 → p1 → p2 → p3 → p4 → p5 → p6 → p7 → p8 → G) : G := k h.1 h.2.1 h.2.2.1 h.2.2.2.1 h.2.2.2.2.1 h.2.2.2.2.2.1 h.2.2.2.2.2.2.1 h.2.2.2.2.2.2.2.1 h.2.2.2.2.2.2.2.2
theorem E19.{u0} {α : Sort u0} {p0 p1 p2 p3 p4 p5 p6 p7 p8 : α → Prop} {G : Prop} (h : ∃ x0, p0 x0 ∧ p1 x0 ∧ p2 x0 ∧ p3 x0 ∧ p4 x0 ∧ p5 x0 ∧ p6 x0 ∧ p7 x0 ∧ p8 x0) (k : ∀ x0, p0 x0 → p1 x0 → p2 x0 → p3 x0 → p4 x0 → p5 x0 → p6 x0 → p7 x0 → p8 x0 → G) : G := h.elim fun x h => E09 h (k x)
theorem E29.{u0, u1} {α : Sort u0} {β : Sort u1} {p0 p1 p2 p3 p4 p5 p6 p7 p8 : α → β → Prop} {G : Prop} (h : ∃ x0 x1, p0 x0 x1 ∧ p1 x0 x1 ∧ p2 x0 x1 ∧ p3 x0 x1 ∧ p4 x0 x1 ∧ p5 x0 x1 ∧ p6 x0 x1 ∧ p7 x0 x1 ∧ p8 x0 x1) (k : ∀ x0 x1, p0 x0 x1 → p1 x0 x1 → p2 x0 x1 → p3 x0 x1 → p4 x0 x1 → p5 x0 x1 → p6 x0 x1 → p7 x0 x1 → p8 x0 x1 → G) : G := h.elim fun x h => E19 h (k x)
theorem E39.{u0, u1, u2} {α : Sort u0} {β : Sort u1} {γ : Sort u2} {p0 p1 p2 p3 p4 p5 p6 p7 p8 : α → β → γ → Prop} {G : Prop} (h : ∃ x0 x1 x2, p0 x0 x1 x2 ∧ p1 x0 x1 x2 ∧ p2 x0 x1 x2 ∧ p3 x0 x1 x2 ∧ p4 x0 x1 x2 ∧ p5 x0 x1 x2 ∧ p6 x0 x1 x2 ∧ p7 x0 x1 x2 ∧ p8 x0 x1 x2) (k : ∀ x0 x1 x2, p0 x0 x1 x2 → p1 x0 x1 x2 → p2 x0 x1 x2 → p3 x0 x1 x2 → p4 x0 x1 x2 → p5 x0 x1 x2 → p6 x0 x1 x2 → p7 x0 x1 x2 → p8 x0 x1 x2 → G) : G := h.elim fun x h => E29 h (k x)
theorem E49.{u0, u1, u2, u3} {α : Sort u0} {β : Sort u1} {γ : Sort u2} {δ : Sort u3} {p0 p1 p2 p3 p4 p5 p6 p7 p8 : α → β → γ → δ → Prop} {G : Prop} (h : ∃ x0 x1 x2 x3, p0 x0 x1 x2 x3 ∧ p1 x0 x1 x2 x3 ∧ p2 x0 x1 x2 x3 ∧ p3 x0 x1 x2 x3 ∧ p4 x0 x1 x2 x3 ∧ p5 x0 x1 x2 x3 ∧ p6 x0 x1 x2 x3 ∧ p7 x0 x1 x2 x3 ∧ p8 x0 x1 x2 x3) (k : ∀ x0 x1 x2 x3, p0 x0 x1 x2 x3 → p1 x0 x1 x2 x3 → p2 x0 x1 x2 x3 → p3 x0 x1 x2 x3 → p4 x0 x1 x2 x3 → p5 x0 x1 x2 x3 → p6 x0 x1 x2 x3 → p7 x0 x1 x2 x3 → p8 x0 x1 x2 x3 → G) : G := h.elim fun x h => E39 h (k x)
theorem E59.{u0, u1, u2, u3, u4} {α : Sort u0} {β : Sort u1} {γ : Sort u2} {δ : Sort u3} {ε : Sort u4} {p0 p1 p2 p3 p4 p5 p6 p7 p8 : α → β → γ → δ → ε → Prop} {G : Prop} (h : ∃ x0 x1 x2 x3 x4, p0 x0 x1 x2 x3 x4 ∧ p1 x0 x1 x2 x3 x4 ∧ p2 x0 x1 x2 x3 x4 ∧ p3 x0 x1 x2 x3 x4 ∧ p4 x0 x1 x2 x3 x4 ∧ p5 x0 x1 x2 x3 x4 ∧ p6 x0 x1 x2 x3 x4 ∧ p7 x0 x1 x2 x3 x4 ∧ p8 x0 x1 x2 x3 x4) (k : ∀ x0 x1 x2 x3 x4, p0 x0 x1 x2 x3 x4 → p1 x0 x1 x2 x3 x4 → p2 x0 x1 x2 x3 x4 → p3 x0 x1 x2 x3 x4 → p4 x0 x1 x2 x3 x4 → p5 x0 x1 x2 x3 x4 → p6 x0 x1 x2 x3 x4 → p7 x0 x1 x2 x3 x4 → p8 x0 x1 x2 x3 x4 → G) : G := h.elim fun x h => E49 h (k x)
theorem E010  {p0 p1 p2 p3 p4 p5 p6 p7 p8 p9 : Prop} {G : Prop} (h : p0 ∧ p1 ∧ p2 ∧ p3 ∧ p4 ∧ p5 ∧ p6 ∧ p7 ∧ p8 ∧ p9) (k : p0 → p1 → p2 → p3 → p4 → p5 → p6 → p7 → p8 → p9 → G) : G := k h.1 h.2.1 h.2.2.1 h.2.2.2.1 h.2.2.2.2.1 h.2.2.2.2.2.1 h.2.2.2.2.2.2.1 h.2.2.2.2.2.2.2.1 h.2.2.2.2.2.2.2.2.1 h.2.2.2.2.2.2.2.2.2
theorem E110.{u0} {α : Sort u0} {p0 p1 p2 p3 p4 p5 p6 p7 p8 p9 : α → Prop} {G : Prop} (h : ∃ x0, p0 x0 ∧ p1 x0 ∧ p2 x0 ∧ p3 x0 ∧ p4 x0 ∧ p5 x0 ∧ p6 x0 ∧ p7 x0 ∧ p8 x0 ∧ p9 x0) (k : ∀ x0, p0 x0 → p1 x0 → p2 x0 → p3 x0 → p4 x0 → p5 x0 → p6 x0 → p7 x0 → p8 x0 → p9 x0 → G) : G := h.elim fun x h => E010 h (k x)
theorem E210.{u0, u1} {α : Sort u0} {β : Sort u1} {p0 p1 p2 p3 p4 p5 p6 p7 p8 p9 : α → β → Prop} {G : Prop} (h : ∃ x0 x1, p0 x0 x1 ∧ p1 x0 x1 ∧ p2 x0 x1 ∧ p3 x0 x1 ∧ p4 x0 x1 ∧ p5 x0 x1 ∧ p6 x0 x1 ∧ p7 x0 x1 ∧ p8 x0 x1 ∧ p9 x0 x1) (k : ∀ x0 x1, p0 x0 x1 → p1 x0 x1 → p2 x0 x1 → p3 x0 x1 → p4 x0 x1 → p5 x0 x1 → p6 x0 x1 → p7 x0 x1 → p8 x0 x1 → p9 x0 x1 → G) : G := h.elim fun x h => E110 h (k x)
theorem E310.{u0, u1, u2} {α : Sort u0} {β : Sort u1} {γ : Sort u2} {p0 p1 p2 p3 p4 p5 p6 p7 p8 p9 : α → β → γ → Prop} {G : Prop} (h : ∃ x0 x1 x2, p0 x0 x1 x2 ∧ p1 x0 x1 x2 ∧ p2 x0 x1 x2 ∧ p3 x0 x1 x2 ∧ p4 x0 x1 x2 ∧ p5 x0 x1 x2 ∧ p6 x0 x1 x2 ∧ p7 x0 x1 x2 ∧ p8 x0 x1 x2 ∧ p9 x0 x1 x2) (k : ∀ x0 x1 x2, p0 x0 x1 x2 → p1 x0 x1 x2 → p2 x0 x1 x2 → p3 x0 x1 x2 → p4 x0 x1 x2 → p5 x0 x1 x2 → p6 x0 x1 x2 → p7 x0 x1 x2 → p8 x0 x1 x2 → p9 x0 x1 x2 → G) : G := h.elim fun x h => E210 h (k x)
theorem E410.{u0, u1, u2, u3} {α : Sort u0} {β : Sort u1} {γ : Sort u2} {δ : Sort u3} {p0 p1 p2 p3 p4 p5 p6 p7 p8 p9 : α → β → γ → δ → Prop} {G : Prop} (h : ∃ x0 x1 x2 x3, p0 x0 x1 x2 x3 ∧ p1 x0 x1 x2 x3 ∧ p2 x0 x1 x2 x3 ∧ p3 x0 x1 x2 x3 ∧ p4 x0 x1 x2 x3 ∧ p5 x0 x1 x2 x3 ∧ p6 x0 x1 x2 x3 ∧ p7 x0 x1 x2 x3 ∧ p8 x0 x1 x2 x3 ∧ p9 x0 x1 x2 x3) (k : ∀ x0 x1 x2 x3, p0 x0 x1 x2 x3 → p1 x0 x1 x2 x3 → p2 x0 x1 x2 x3 → p3 x0 x1 x2 x3 → p4 x0 x1 x2 x3 → p5 x0 x1 x2 x3 → p6 x0 x1 x2 x3 → p7 x0 x1 x2 x3 → p8 x0 x1 x2 x3 → p9 x0 x1 x2 x3 → G) : G := h.elim fun x h => E310 h (k x)
theorem E510.{u0, u1, u2, u3, u4} {α : Sort u0} {β : Sort u1} {γ : Sort u2} {δ : Sort u3} {ε : Sort u4} {p0 p1 p2 p3 p4 p5 p6 p7 p8 p9 : α → β → γ → δ → ε → Prop} {G : Prop} (h : ∃ x0 x1 x2 x3 x4, p0 x0 x1 x2 x3 x4 ∧ p1 x0 x1 x2 x3 x4 ∧ p2 x0 x1 x2 x3 x4 ∧ p3 x0 x1 x2 x3 x4 ∧ p4 x0 x1 x2 x3 x4 ∧ p5 x0 x1 x2 x3 x4 ∧ p6 x0 x1 x2 x3 x4 ∧ p7 x0 x1 x2 x3 x4 ∧ p8 x0 x1 x2 x3 x4 ∧ p9 x0 x1 x2 x3 x4) (k : ∀ x0 x1 x2 x3 x4, p0 x0 x1 x2 x3 x4 → p1 x0 x1 x2 x3 x4 → p2 x0 x1 x2 x3 x4 → p3 x0 x1 x2 x3 x4 → p4 x0 x1 x2 x3 x4 → p5 x0 x1 x2 x3 x4 → p6 x0 x1 x2 x3 x4 → p7 x0 x1 x2 x3 x4 → p8 x0 x1 x2 x3 x4 → p9 x0 x1 x2 x3 x4 → G) : G := h.elim fun x h => E410 h (k x)
theorem R02  {p0 p1 : Prop} {G : Prop} (k : p0 → p1 → G) (h : p0 ∧ p1) : G := E02 h k
theorem R12.{u0} {α : Sort u0} {p0 p1 : α → Prop} {G : Prop} (k : ∀ x0, p0 x0 → p1 x0 → G) (h : ∃ x0, p0 x0 ∧ p1 x0) : G := E12 h k
theorem R22.{u0, u1} {α : Sort u0} {β : Sort u1} {p0 p1 : α → β → Prop} {G : Prop} (k : ∀ x0 x1, p0 x0 x1 → p1 x0 x1 → G) (h : ∃ x0 x1, p0 x0 x1 ∧ p1 x0 x1) : G := E22 h k
theorem R13.{u0} {α : Sort u0} {p0 p1 p2 : α → Prop} {G : Prop} (k : ∀ x0, p0 x0 → p1 x0 → p2 x0 → G) (h : ∃ x0, p0 x0 ∧ p1 x0 ∧ p2 x0) : G := E13 h k
theorem R23.{u0, u1} {α : Sort u0} {β : Sort u1} {p0 p1 p2 : α → β → Prop} {G : Prop} (k : ∀ x0 x1, p0 x0 x1 → p1 x0 x1 → p2 x0 x1 → G) (h : ∃ x0 x1, p0 x0 x1 ∧ p1 x0 x1 ∧ p2 x0 x1) : G := E23 h k
theorem R24.{u0, u1} {α : Sort u0} {β : Sort u1} {p0 p1 p2 p3 : α → β → Prop} {G : Prop} (k : ∀ x0 x1, p0 x0 x1 → p1 x0 x1 → p2 x0 x1 → p3 x0 x1 → G) (h : ∃ x0 x1, p0 x0 x1 ∧ p1 x0 x1 ∧ p2 x0 x1 ∧ p3 x0 x1) : G := E24 h k
theorem R65.{u0, u1, u2, u3, u4, u5} {α : Sort u0} {β : Sort u1} {γ : Sort u2} {δ : Sort u3} {ε : Sort u4} {ζ : Sort u5} {p0 p1 p2 p3 p4 : α → β → γ → δ → ε → ζ → Prop} {G : Prop} (k : ∀ x0 x1 x2 x3 x4 x5, p0 x0 x1 x2 x3 x4 x5 → p1 x0 x1 x2 x3 x4 x5 → p2 x0 x1 x2 x3 x4 x5 → p3 x0 x1 x2 x3 x4 x5 → p4 x0 x1 x2 x3 x4 x5 → G) (h : ∃ x0 x1 x2 x3 x4 x5, p0 x0 x1 x2 x3 x4 x5 ∧ p1 x0 x1 x2 x3 x4 x5 ∧ p2 x0 x1 x2 x3 x4 x5 ∧ p3 x0 x1 x2 x3 x4 x5 ∧ p4 x0 x1 x2 x3 x4 x5) : G := E65 h k
theorem R56.{u0, u1, u2, u3, u4} {α : Sort u0} {β : Sort u1} {γ : Sort u2} {δ : Sort u3} {ε : Sort u4} {p0 p1 p2 p3 p4 p5 : α → β → γ → δ → ε → Prop} {G : Prop} (k : ∀ x0 x1 x2 x3 x4, p0 x0 x1 x2 x3 x4 → p1 x0 x1 x2 x3 x4 → p2 x0 x1 x2 x3 x4 → p3 x0 x1 x2 x3 x4 → p4 x0 x1 x2 x3 x4 → p5 x0 x1 x2 x3 x4 → G) (h : ∃ x0 x1 x2 x3 x4, p0 x0 x1 x2 x3 x4 ∧ p1 x0 x1 x2 x3 x4 ∧ p2 x0 x1 x2 x3 x4 ∧ p3 x0 x1 x2 x3 x4 ∧ p4 x0 x1 x2 x3 x4 ∧ p5 x0 x1 x2 x3 x4) : G := E56 h k
theorem R66.{u0, u1, u2, u3, u4, u5} {α : Sort u0} {β : Sort u1} {γ : Sort u2} {δ : Sort u3} {ε : Sort u4} {ζ : Sort u5} {p0 p1 p2 p3 p4 p5 : α → β → γ → δ → ε → ζ → Prop} {G : Prop} (k : ∀ x0 x1 x2 x3 x4 x5, p0 x0 x1 x2 x3 x4 x5 → p1 x0 x1 x2 x3 x4 x5 → p2 x0 x1 x2 x3 x4 x5 → p3 x0 x1 x2 x3 x4 x5 → p4 x0 x1 x2 x3 x4 x5 → p5 x0 x1 x2 x3 x4 x5 → G) (h : ∃ x0 x1 x2 x3 x4 x5, p0 x0 x1 x2 x3 x4 x5 ∧ p1 x0 x1 x2 x3 x4 x5 ∧ p2 x0 x1 x2 x3 x4 x5 ∧ p3 x0 x1 x2 x3 x4 x5 ∧ p4 x0 x1 x2 x3 x4 x5 ∧ p5 x0 x1 x2 x3 x4 x5) : G := E66 h k
theorem R67.{u0, u1, u2, u3, u4, u5} {α : Sort u0} {β : Sort u1} {γ : Sort u2} {δ : Sort u3} {ε : Sort u4} {ζ : Sort u5} {p0 p1 p2 p3 p4 p5 p6 : α → β → γ → δ → ε → ζ → Prop} {G : Prop} (k : ∀ x0 x1 x2 x3 x4 x5, p0 x0 x1 x2 x3 x4 x5 → p1 x0 x1 x2 x3 x4 x5 → p2 x0 x1 x2 x3 x4 x5 → p3 x0 x1 x2 x3 x4 x5 → p4 x0 x1 x2 x3 x4 x5 → p5 x0 x1 x2 x3 x4 x5 → p6 x0 x1 x2 x3 x4 x5 → G) (h : ∃ x0 x1 x2 x3 x4 x5, p0 x0 x1 x2 x3 x4 x5 ∧ p1 x0 x1 x2 x3 x4 x5 ∧ p2 x0 x1 x2 x3 x4 x5 ∧ p3 x0 x1 x2 x3 x4 x5 ∧ p4 x0 x1 x2 x3 x4 x5 ∧ p5 x0 x1 x2 x3 x4 x5 ∧ p6 x0 x1 x2 x3 x4 x5) : G := E67 h k
theorem oz {n i : Nat} (h : n - i = 0) (h' : i ≤ n) : i = n := Nat.le_antisymm h' (Nat.le_of_sub_eq_zero h)
theorem ol {n i k : Nat} (h : n - i = k + 1) : i < n := Nat.lt_of_sub_eq_succ h
theorem os {n i k : Nat} (h : n - i = k + 1) : n - (i + 1) = k := by rw [Nat.sub_succ, h]; rfl
end Mine
end
noncomputable section
namespace Mine
open PySem
structure Cx where
 prog : Program
 w : World
 G : Heap
 mg : Str → Option Value
 mb : Str → Option Value
noncomputable abbrev Cx.M (c : Cx) : Model := model c.prog c.w
noncomputable abbrev Cx.K (c : Cx) : KeyKind c.prog c.w Str := PySem.strKind c.prog c.w
inductive All2 {α β : Type} (R : α → β → Prop) : List α → List β → Prop
 | nil : All2 R [] []
 | cons {a b as bs} : R a b → All2 R as bs → All2 R (a :: as) (b :: bs)
theorem All2.length {α β : Type} {R : α → β → Prop} {as : List α} {bs : List β} (h : All2 R as bs) : as.length = bs.length := by
 induction h with
 | nil => rfl
 | cons _ _ ih => simp [ih]
theorem All2.append {α β : Type} {R : α → β → Prop} {as as' : List α} {bs bs' : List β} (h : All2 R as bs) (h' : All2 R as' bs') : All2 R (as ++ as') (bs ++ bs') := by
 induction h with
 | nil => exact h'
 | cons h1 _ ih => exact .cons h1 ih
theorem All2.get {α β : Type} {R : α → β → Prop} {as : List α} {bs : List β} (h : All2 R as bs) : ∀ (i : Nat) (a : α), as[i]? = some a → ∃ b, bs[i]? = some b ∧ R a b := by
 induction h with
 | nil => intro i a hi; simp at hi
 | cons h1 _ ih =>
  intro i a hi
  cases i with
  | zero => simp at hi; subst hi; exact (I12 _ (by simp) h1)
  | succ i => simp at hi; refine E12 (ih i a hi) fun b hb hr => ?_; exact (I12 b (by simpa using hb) hr)
theorem All2.get' {α β : Type} {R : α → β → Prop} {as : List α} {bs : List β} (h : All2 R as bs) : ∀ (i : Nat) (b : β), bs[i]? = some b → ∃ a, as[i]? = some a ∧ R a b := by
 induction h with
 | nil => intro i a hi; simp at hi
 | cons h1 _ ih =>
  intro i a hi
  cases i with
  | zero => simp at hi; subst hi; exact (I12 _ (by simp) h1)
  | succ i => simp at hi; refine E12 (ih i a hi) fun b hb hr => ?_; exact (I12 b (by simpa using hb) hr)
noncomputable def PTup (h : Heap) (a : Addr) (items : Array Value) : Prop := ∃ n, h.get? a = some { cls := .type "tuple", data := .seq items n }
theorem PTup.isTuple {h : Heap} {a : Addr} {items : Array Value} (x : PTup h a items) : h.IsTuple a items := let ⟨n, e⟩ := x; (I13 _ e rfl (I11 n rfl))
theorem PTup.at {h h' : Heap} {a : Addr} {items : Array Value} (x : PTup h a items) (hk : ∀ o, h.get? a = some o → h'.get? a = some o) : PTup h' a items := let ⟨n, e⟩ := x; ⟨n, hk _ e⟩
inductive V where
 | none
 | bool (b : Bool)
 | int (i : Int)
 | str (s : Str)
 | tup (xs : List V)
 | lst (xs : List V)
 | dct (es : List (Str × V))
 | set (xs : List Str)
 | typ (n : String)
 | ref (a : Addr)
 | view (x : V)
noncomputable def SetL (c : Cx) (h : Heap) (a : Addr) (xs : List Str) : Prop :=
 ∃ o es ep t ks, h.get? a = some o ∧ o.ExactSet ∧ o.data = .set es ep t
  ∧ All2 (fun (e : Int × Value) k => c.K.is k e.2 = true ∧ e.1 = c.K.hash k ∧ e.2.scannable = true) es.toList ks
  ∧ ks.Perm xs ∧ xs.Nodup ∧ es.size < scanBound ∧ t.fits es.size = true
  ∧ (t.led = true ∨ c.w.params.followText "set-order" = true) ∧ (es.size ≠ 0 → t.plain = false)
mutual
inductive Rd (c : Cx) (Z : Addr → Prop) (h : Heap) : V → Value → Prop
 | none : Rd c Z h .none .none
 | bool (b) : Rd c Z h (.bool b) (.bool b)
 | int (i t) : Rd c Z h (.int i) (.int i t)
 | str (s t) : Rd c Z h (.str s) (.str s t)
 | typ (n) : Rd c Z h (.typ n) (.type n)
 | ref (a) : Rd c Z h (.ref a) (.ref a)
 | tup {a xs items} : Z a → PTup h a items → RdL c Z h xs items.toList → Rd c Z h (.tup xs) (.ref a)
 | lst {a xs items} : Z a → h.PlainList a items → RdL c Z h xs items.toList → Rd c Z h (.lst xs) (.ref a)
 | dct {a es kvs ep} : Z a → (a == sysModules) = false → h.DictAt c.K a kvs ep → kvs.map (·.1) = es.map (·.1) → RdL c Z h (es.map (·.2)) (kvs.map (·.2)) → Rd c Z h (.dct es) (.ref a)
 | set {a xs} : Z a → SetL c h a xs → Rd c Z h (.set xs) (.ref a)
 | view {a x d} : Z a → h.IsItemsView a d → Rd c Z h x (.ref d) → Rd c Z h (.view x) (.ref a)
inductive RdL (c : Cx) (Z : Addr → Prop) (h : Heap) : List V → List Value → Prop
 | nil : RdL c Z h [] []
 | cons {x v xs vs} : Rd c Z h x v → RdL c Z h xs vs → RdL c Z h (x :: xs) (v :: vs)
end
section
variable {c : Cx} {Z : Addr → Prop} {h : Heap} {v : Value} {C : Value → Prop}
@[elab_as_elim] theorem Rd.bool_elim {b : Bool} (r : Rd c Z h (.bool b) v) (k : C (.bool b)) : C v := by cases r; exact k
@[elab_as_elim] theorem Rd.int_elim {i : Int} (r : Rd c Z h (.int i) v) (k : ∀ t, C (.int i t)) : C v := by cases r; exact k _
@[elab_as_elim] theorem Rd.str_elim {s : Str} (r : Rd c Z h (.str s) v) (k : ∀ t, C (.str s t)) : C v := by cases r; exact k _
@[elab_as_elim] theorem Rd.typ_elim {n : String} (r : Rd c Z h (.typ n) v) (k : C (.type n)) : C v := by cases r; exact k
@[elab_as_elim] theorem Rd.ref_elim {a : Addr} (r : Rd c Z h (.ref a) v) (k : C (.ref a)) : C v := by cases r; exact k
@[elab_as_elim] theorem Rd.tup_elim {xs : List V} (r : Rd c Z h (.tup xs) v) (k : ∀ a items, Z a → PTup h a items → RdL c Z h xs items.toList → C (.ref a)) : C v := by
 cases r with | tup x y z => exact k _ _ x y z
@[elab_as_elim] theorem Rd.lst_elim {xs : List V} (r : Rd c Z h (.lst xs) v) (k : ∀ a items, Z a → h.PlainList a items → RdL c Z h xs items.toList → C (.ref a)) : C v := by
 cases r with | lst x y z => exact k _ _ x y z
@[elab_as_elim] theorem Rd.dct_elim {es : List (Str × V)} (r : Rd c Z h (.dct es) v) (k : ∀ a kvs ep, Z a → (a == sysModules) = false → h.DictAt c.K a kvs ep → kvs.map (·.1) = es.map (·.1) → RdL c Z h (es.map (·.2)) (kvs.map (·.2)) → C (.ref a)) : C v := by
 cases r with | dct x y z p q => exact k _ _ _ x y z p q
end
theorem RdL.ind {c Z h} {M : List V → List Value → Prop} (h0 : M [] []) (h1 : ∀ {x v xs vs}, Rd c Z h x v → RdL c Z h xs vs → M xs vs → M (x :: xs) (v :: vs)) {xs vs} (r : RdL c Z h xs vs) : M xs vs :=
 RdL.rec (motive_1 := fun _ _ _ => True) (motive_2 := fun xs vs _ => M xs vs) trivial (fun _ => trivial) (fun _ _ => trivial) (fun _ _ => trivial) (fun _ => trivial) (fun _ => trivial) (fun _ _ _ _ => trivial) (fun _ _ _ _ => trivial) (fun _ _ _ _ _ _ => trivial) (fun _ _ => trivial) (fun _ _ _ _ => trivial) h0 (fun a b _ ih => h1 a b ih) r
theorem RdL.length {c Z h xs vs} (r : RdL c Z h xs vs) : xs.length = vs.length := r.ind (M := fun xs vs => xs.length = vs.length) rfl fun _ _ ih => congrArg (· + 1) ih
theorem RdL.append {c Z h xs vs ys us} (r : RdL c Z h xs vs) (t : RdL c Z h ys us) : RdL c Z h (xs ++ ys) (vs ++ us) := r.ind (M := fun xs vs => RdL c Z h (xs ++ ys) (vs ++ us)) t fun a _ ih => .cons a ih
theorem RdL.get {c Z h xs vs} (r : RdL c Z h xs vs) : ∀ (i : Nat) x, xs[i]? = some x → ∃ v, vs[i]? = some v ∧ Rd c Z h x v :=
 r.ind (M := fun xs vs => ∀ (i : Nat) x, xs[i]? = some x → ∃ v, vs[i]? = some v ∧ Rd c Z h x v) (fun i x e => by rw [List.getElem?_nil] at e; cases e) fun a _ ih i x e => by
  cases i with
  | zero => rw [List.getElem?_cons_zero] at e ⊢; cases e; exact I12 _ rfl a
  | succ i => rw [List.getElem?_cons_succ] at e ⊢; exact ih i x e
theorem RdL.get' {c Z h xs vs} (r : RdL c Z h xs vs) : ∀ (i : Nat) v, vs[i]? = some v → ∃ x, xs[i]? = some x ∧ Rd c Z h x v :=
 r.ind (M := fun xs vs => ∀ (i : Nat) v, vs[i]? = some v → ∃ x, xs[i]? = some x ∧ Rd c Z h x v) (fun i x e => by rw [List.getElem?_nil] at e; cases e) fun a _ ih i x e => by
  cases i with
  | zero => rw [List.getElem?_cons_zero] at e ⊢; cases e; exact I12 _ rfl a
  | succ i => rw [List.getElem?_cons_succ] at e ⊢; exact ih i x e
theorem RdL.drop {c Z h xs vs} (r : RdL c Z h xs vs) : ∀ n, RdL c Z h (xs.drop n) (vs.drop n) :=
 r.ind (M := fun xs vs => ∀ n, RdL c Z h (xs.drop n) (vs.drop n)) (fun n => by rw [List.drop_nil, List.drop_nil]; exact .nil) fun a b ih n => by
  cases n with
  | zero => exact .cons a b
  | succ n => exact ih n
theorem RdL.take {c Z h xs vs} (r : RdL c Z h xs vs) : ∀ n, RdL c Z h (xs.take n) (vs.take n) :=
 r.ind (M := fun xs vs => ∀ n, RdL c Z h (xs.take n) (vs.take n)) (fun n => by rw [List.take_nil, List.take_nil]; exact .nil) fun a _ ih n => by
  cases n with
  | zero => exact .nil
  | succ n => exact .cons a (ih n)
theorem SetL.keep {c : Cx} {h h' : Heap} {a : Addr} {xs : List Str} (x : SetL c h a xs) (e : ∀ o, h.get? a = some o → h'.get? a = some o) : SetL c h' a xs :=
 E52 x fun o es ep t ks h1 r => I52 o es ep t ks (e _ h1) r
theorem Rd.keep {c : Cx} {Z Z' : Addr → Prop} {h h' : Heap} (hZ : ∀ b, Z b → Z' b) (hk : ∀ b o, Z b → h.get? b = some o → h'.get? b = some o) {x v} (r : Rd c Z h x v) : Rd c Z' h' x v :=
 Rd.rec (motive_1 := fun x v _ => Rd c Z' h' x v) (motive_2 := fun xs vs _ => RdL c Z' h' xs vs) .none .bool .int .str .typ .ref (fun z ht _ ih => .tup (hZ _ z) (ht.at fun o => hk _ o z) ih) (fun z ht _ ih => .lst (hZ _ z) (ht.at fun o => hk _ o z) ih)
  (fun z hs ht e _ ih => .dct (hZ _ z) hs (E22 ht fun o es ho q => I22 o es (hk _ o z ho) q) e ih) (fun z ht => .set (hZ _ z) (ht.keep fun o => hk _ o z)) (fun z ht _ ih => .view (hZ _ z) (E12 ht fun o ho q => I12 o (hk _ o z ho) q) ih) .nil (fun _ _ a b => .cons a b) r
theorem RdL.keep {c : Cx} {Z Z' : Addr → Prop} {h h' : Heap} (hZ : ∀ b, Z b → Z' b) (hk : ∀ b o, Z b → h.get? b = some o → h'.get? b = some o) {xs vs} (r : RdL c Z h xs vs) : RdL c Z' h' xs vs := r.ind (M := fun xs vs => RdL c Z' h' xs vs) .nil fun a _ ih => .cons (a.keep hZ hk) ih
inductive O where
 | lst (xs : List V)
 | dct (es : List (Str × V))
 | set (xs : List Str)
 | inst (C d : Addr)
 | ns (es : List (Str × V))
noncomputable def RdO (c : Cx) (Z : Addr → Prop) (h : Heap) (a : Addr) : O → Prop
 | .lst xs => ∃ items, h.PlainList a items ∧ RdL c Z h xs items.toList
 | .dct es => ∃ kvs ep, (a == sysModules) = false ∧ h.DictAt c.K a kvs ep ∧ kvs.map (·.1) = es.map (·.1) ∧ RdL c Z h (es.map (·.2)) (kvs.map (·.2))
 | .set xs => SetL c h a xs
 | .inst C d => d ≠ a ∧ ∃ o, h.get? a = some o ∧ o.cls = .ref C ∧ (∀ k, o.data ≠ .cls k) ∧ o.dict = some d
 | .ns es => ∃ mA, h.Ns1 a mA ∧ (∀ x, es.lookup x = none → mA x = none) ∧ ∀ x X, es.lookup x = some X → ∃ v, mA x = some v ∧ Rd c Z h X v
theorem RdO.keep {c : Cx} {Z Z' : Addr → Prop} {h h' : Heap} {a : Addr} (hZ : ∀ b, Z b → Z' b) (hk : ∀ b o, Z b → h.get? b = some o → h'.get? b = some o) (ha : ∀ o, h.get? a = some o → h'.get? a = some o) :
  ∀ {o : O}, RdO c Z h a o → RdO c Z' h' a o
 | .lst xs, ⟨items, hp, r⟩ => (I12 items (hp.at ha) (r.keep hZ hk))
 | .dct es, ⟨kvs, ep, hs, hd, e, r⟩ => (I24 kvs ep hs (let ⟨o, es, ho, q⟩ := hd; (I22 o es (ha o ho) q)) e (r.keep hZ hk))
 | .set xs, x => SetL.keep x ha
 | .inst C d, ⟨n, o, x, q⟩ => (I02 n (I12 o (ha _ x) q))
 | .ns es, ⟨mA, h1, h2, h3⟩ => (I13 mA (h1.at ha) h2 (fun x X e => let ⟨v, e1, r⟩ := h3 x X e; (I12 v e1 (r.keep hZ hk))))
theorem RdO.some {c : Cx} {Z : Addr → Prop} {h : Heap} {a : Addr} : ∀ {o : O}, RdO c Z h a o → ∃ ob, h.get? a = some ob
 | .lst xs, h => E12 h fun items hp _ => E11 hp fun n e => ⟨_, e⟩
 | .dct es, h => E24 h fun kvs ep _ hd _ _ => E22 hd fun o es' ho _ => ⟨o, ho⟩
 | .set xs, h => E52 h fun o _ _ _ _ ho _ => ⟨o, ho⟩
 | .inst C d, h => E02 h fun _ h => E12 h fun o x _ => ⟨o, x⟩
 | .ns es, h => E12 h fun _ hn _ => E32 hn fun o _ _ ho _ => ⟨o, ho⟩
end Mine
end
noncomputable section
namespace Mine
open PySem
noncomputable def Kp (h h' : Heap) : Prop := ∀ b o, h.get? b = some o → h'.get? b = some o
theorem Kp.refl (h : Heap) : Kp h h := fun _ _ e => e
theorem Kp.trans {h₁ h₂ h₃ : Heap} (x : Kp h₁ h₂) (y : Kp h₂ h₃) : Kp h₁ h₃ := fun b o e => y b o (x b o e)
theorem Kp.push (h : Heap) (o : Obj) : Kp h (h.push o) := fun _ _ e => Heap.get?_push_of_some _ e
theorem fresh_none (h : Heap) (a : Addr) (ha : h.objs.size ≤ a) : h.get? a = none := by
 cases e : h.get? a with
 | none => rfl
 | some o => exact absurd (Heap.lt_size e) (Nat.not_lt.mpr ha)
structure St where
 loc : List (Str × V)
 hp : List (Addr × O)
noncomputable def HasVar (env : Env) (h : Heap) (x : Str) (v : Value) : Prop :=
 (env.kindOf x = some .local ∧ ∃ m, h.Ns env.locals m ∧ m x = some v) ∨
 ((env.kindOf x = some .cell ∨ env.kindOf x = some .free) ∧ ∃ cl, env.cells.lookup x = some cl ∧ h.IsCell cl (some v))
noncomputable def OwnA (env : Env) (b : Addr) : Prop := b = env.locals ∨ ∃ x, env.kindOf x = some .cell ∧ env.cells.lookup x = some b
structure TopOk (c : Cx) : Prop where
 g : c.G.Ns mainGlobals c.mg
 b : c.G.Ns builtinsNs c.mb
 nolimit : c.G.NoLimit
 blt : ∀ x : Str, x ≠ "__name__" → c.mb x = bootBuiltins x
structure Inv (c : Cx) (Z P : Addr → Prop) (h : Heap) : Prop where
 ground : ∀ b o, c.G.get? b = some o → Z b ∧ h.get? b = some o
 exZ : ∀ b, Z b → ∃ o, h.get? b = some o
 exP : ∀ b, P b → ∃ o, h.get? b = some o
 off : ∀ b, Z b → ¬ P b
 sys : Z sysModules
 top : TopOk c
structure HpR (c : Cx) (Z P : Addr → Prop) (h : Heap) (hp : List (Addr × O)) : Prop where
 obj : ∀ a o, (a, o) ∈ hp → RdO c Z h a o ∧ ¬ Z a ∧ ¬ P a
 nodup : (hp.map (·.1)).Nodup
structure Rel (c : Cx) (Z P : Addr → Prop) (env : Env) (σ : St) (h : Heap) : Prop where
 inv : Inv c Z P h
 fn : env.scope.kind = .function
 gl : env.globals = mainGlobals
 bl : env.builtins = builtinsNs
 ns : ∃ m, h.Ns env.locals m
 cells : ∀ x, env.kindOf x = some .cell → ∃ cl v, env.cells.lookup x = some cl ∧ h.IsCell cl v
 inj : ∀ x y cl, env.kindOf x = some .cell → env.kindOf y = some .cell → env.cells.lookup x = some cl → env.cells.lookup y = some cl → x = y
 cellL : ∀ x cl, env.kindOf x = some .cell → env.cells.lookup x = some cl → cl ≠ env.locals
 freeP : ∀ x cl, env.kindOf x = some .free → env.cells.lookup x = some cl → P cl
 own : ∀ b, OwnA env b → ¬ Z b ∧ ¬ P b
 vars : ∀ x X, σ.loc.lookup x = some X → ∃ v, HasVar env h x v ∧ Rd c Z h X v
 hp : HpR c Z P h σ.hp
 hpOff : ∀ a o, (a, o) ∈ σ.hp → ¬ OwnA env a
structure Step (Z P : Addr → Prop) (h : Heap) (Z' : Addr → Prop) (h' : Heap) : Prop where
 grow : ∀ b, Z b → Z' b
 keepZ : ∀ b o, Z b → h.get? b = some o → h'.get? b = some o
 keepP : ∀ b o, P b → h.get? b = some o → h'.get? b = some o
theorem Step.refl (Z P : Addr → Prop) (h : Heap) : Step Z P h Z h := ⟨fun _ z => z, fun _ _ _ e => e, fun _ _ _ e => e⟩
theorem Step.trans {Z P : Addr → Prop} {h : Heap} {Z' h' Z'' h''} (x : Step Z P h Z' h') (y : Step Z' P h' Z'' h'') : Step Z P h Z'' h'' :=
 ⟨fun b z => y.grow b (x.grow b z), fun b o z e => y.keepZ b o (x.grow b z) (x.keepZ b o z e), fun b o z e => y.keepP b o z (x.keepP b o z e)⟩
theorem Step.kp {Z P : Addr → Prop} {h h' : Heap} (hk : Kp h h') : Step Z P h Z h' := ⟨fun _ z => z, fun b o _ e => hk b o e, fun b o _ e => hk b o e⟩
theorem Rd.step {c : Cx} {Z P : Addr → Prop} {h : Heap} {Z' h'} {x v} (r : Rd c Z h x v) (s : Step Z P h Z' h') : Rd c Z' h' x v := r.keep s.grow s.keepZ
theorem RdL.step {c : Cx} {Z P : Addr → Prop} {h : Heap} {Z' h'} {x v} (r : RdL c Z h x v) (s : Step Z P h Z' h') : RdL c Z' h' x v := r.keep s.grow s.keepZ
theorem Rd.kp {c : Cx} {Z : Addr → Prop} {h h' : Heap} {x v} (r : Rd c Z h x v) (hk : Kp h h') : Rd c Z h' x v := r.keep (fun _ z => z) fun b o _ e => hk b o e
theorem RdL.kp {c : Cx} {Z : Addr → Prop} {h h' : Heap} {x v} (r : RdL c Z h x v) (hk : Kp h h') : RdL c Z h' x v := r.keep (fun _ z => z) fun b o _ e => hk b o e
theorem Rd.more {c : Cx} {Z Z' : Addr → Prop} {h : Heap} {x v} (r : Rd c Z h x v) (hZ : ∀ b, Z b → Z' b) : Rd c Z' h x v := r.keep hZ fun b o _ e => e
theorem RdL.more {c : Cx} {Z Z' : Addr → Prop} {h : Heap} {x v} (r : RdL c Z h x v) (hZ : ∀ b, Z b → Z' b) : RdL c Z' h x v := r.keep hZ fun b o _ e => e
theorem HasVar.keep {env : Env} {h h' : Heap} {x : Str} {v : Value} (H : HasVar env h x v)
  (hL : ∀ o, h.get? env.locals = some o → h'.get? env.locals = some o) (hC : ∀ cl o, env.cells.lookup x = some cl → h.get? cl = some o → h'.get? cl = some o) : HasVar env h' x v := by
 rcases H with ⟨k, m, ⟨o, es, ep, ho, r⟩, hm⟩ | ⟨k, cl, hcl, ⟨o, ho, hd⟩⟩
 ·exact .inl (I02 k (I12 m (I32 o es ep (hL _ ho) r) hm))
 ·exact .inr (I02 k (I12 cl hcl (I12 o (hC cl o hcl ho) hd)))
theorem Rel.new {c : Cx} {Z P : Addr → Prop} {env : Env} {σ : St} {h h' : Heap} (R : Rel c Z P env σ h) (hk : Kp h h') {N : Addr → Prop}
  (hN : ∀ b, N b → h.get? b = none ∧ ∃ o, h'.get? b = some o) : Rel c (fun b => Z b ∨ N b) P env σ h' where
 inv := ⟨fun b o e => ⟨.inl (R.inv.ground b o e).1, hk _ _ (R.inv.ground b o e).2⟩, fun b z => z.elim (fun z => let ⟨o, e⟩ := R.inv.exZ b z; ⟨o, hk _ _ e⟩) fun n => (hN b n).2,
  fun b p => let ⟨o, e⟩ := R.inv.exP b p; ⟨o, hk _ _ e⟩, fun b z p => z.elim (fun z => R.inv.off b z p) fun n => by
   (obtain ⟨o, e⟩ := R.inv.exP b p
    rw [(hN b n).1] at e; cases e), .inl R.inv.sys, R.inv.top⟩
 fn := R.fn
 gl := R.gl
 bl := R.bl
 ns := let ⟨m, hm⟩ := R.ns; ⟨m, hm.keeps hk⟩
 cells := fun x hx => let ⟨cl, v, h1, h2⟩ := R.cells x hx; (I22 cl v h1 (h2.keeps hk))
 inj := R.inj
 cellL := R.cellL
 freeP := R.freeP
 own := fun b hb => by
  refine ⟨fun z => z.elim (R.own b hb).1 fun n => ?_, (R.own b hb).2⟩
  rcases hb with rfl | ⟨x, h1, h2⟩
  ·refine E42 R.ns fun m o es ep ho _ => ?_
   rw [(hN _ n).1] at ho; cases ho
  ·refine E22 (R.cells x h1) fun cl v h3 z3 => ?_; obtain ⟨o, ho, _⟩ := z3
   rw [h2] at h3; cases h3
   rw [(hN _ n).1] at ho; cases ho
 vars := fun x X e => let ⟨v, hv, r⟩ := R.vars x X e; (I12 v (hv.keep (fun o => hk _ o) (fun cl o _ => hk cl o)) (r.keep (fun _ z => .inl z) fun b o _ e => hk b o e))
 hp := by
  refine ⟨fun a o ha => ?_, R.hp.nodup⟩
  refine E03 (R.hp.obj a o ha) fun h1 h2 h3 => ?_
  refine (I03 (h1.keep (fun _ z => .inl z) (fun b o _ e => hk b o e) (fun o => hk a o)) (fun z => z.elim h2 fun n => ?_) h3)
  obtain ⟨ob, e⟩ := h1.some
  rw [(hN _ n).1] at e; cases e
 hpOff := R.hpOff
theorem Rel.kp {c : Cx} {Z P : Addr → Prop} {env : Env} {σ : St} {h h' : Heap} (R : Rel c Z P env σ h) (hk : Kp h h') : Rel c Z P env σ h' := by
 have := R.new hk (N := fun _ => False) (fun _ f => f.elim)
 have e : (fun b => Z b ∨ False) = Z := by funext b; simp
 rwa [e] at this
theorem Step.new {Z P : Addr → Prop} {h h' : Heap} (hk : Kp h h') (N : Addr → Prop) : Step Z P h (fun b => Z b ∨ N b) h' :=
 ⟨fun _ z => .inl z, fun b o _ e => hk b o e, fun b o _ e => hk b o e⟩
noncomputable def Fin {α β : Type} (c : Cx) (P : Addr → Prop) (env : Env) (R : (Addr → Prop) → Heap → β → α → Prop) (k : β → St → Prop) (Z : Addr → Prop) (s : Shared) (a : α) (s' : Shared) : Prop :=
 ∃ Z' h' tk dr b σ', s' = { s with heap := h', toks := tk, drawn := dr } ∧ Step Z P s.heap Z' h' ∧ Rel c Z' P env σ' h' ∧ R Z' h' b a ∧ k b σ'
theorem Fin.after {α β : Type} {c : Cx} {P : Addr → Prop} {env : Env} {R : (Addr → Prop) → Heap → β → α → Prop} {k : β → St → Prop} {Z Z₁ : Addr → Prop} {s : Shared} {h₁ : Heap} {tk₁ : Nat} {dr₁ : Drawn} {a : α} {s' : Shared}
  (S : Step Z P s.heap Z₁ h₁) (f : Fin c P env R k Z₁ { s with heap := h₁, toks := tk₁, drawn := dr₁ } a s') : Fin c P env R k Z s a s' :=
 E63 f fun Z' h' tk dr b σ' e S' r => I63 Z' h' tk dr b σ' e (S.trans S') r
structure AOk (A : Around) : Prop where
 handled : A.handled = none
 units : A.units + 300 < cLine
 depth : A.depth + 5 < recursionLimit
structure Rm (n : Nat) (A : Around) : Prop where
 handled : A.handled = none
 units : A.units + 300 + 100 * n < cLine
 depth : A.depth + 5 + 10 * n < recursionLimit
theorem Rm.ok {n : Nat} {A : Around} (h : Rm n A) : AOk A := ⟨h.handled, by have := h.units; omega, by have := h.depth; omega⟩
theorem Rm.deeper {n : Nat} {A : Around} (h : Rm (n + 1) A) (env : Env) : Rm n (A.deeper env) :=
 ⟨h.handled, by have := h.units; show A.units + 3 + 300 + 100 * n < cLine; omega, by have := h.depth; show A.depth + 1 + 5 + 10 * n < recursionLimit; omega⟩
structure WP {α β : Type} (c : Cx) (A : Around) (env : Env) (σ : St) (t : Sem α) (R : (Addr → Prop) → Heap → β → α → Prop) (k : β → St → Prop) : Prop where
 run : AOk A → ∀ Z P s, Rel c Z P env σ s.heap → wpAny c.M A t (Fin c P env R k Z s) (fun _ _ => False) s
noncomputable def RV (c : Cx) (Z : Addr → Prop) (h : Heap) (X : V) (v : Value) : Prop := Rd c Z h X v
noncomputable def RB (_ : Addr → Prop) (_ : Heap) (b : Bool) (a : Bool) : Prop := a = b
noncomputable def RU (_ : Addr → Prop) (_ : Heap) (_ : Unit) (_ : Unit) : Prop := True
inductive FV where
 | next | brk | cont
 | ret (x : V)
inductive RF (c : Cx) (Z : Addr → Prop) (h : Heap) : FV → Flow → Prop
 | next : RF c Z h .next .next
 | brk : RF c Z h .brk .brk
 | cont : RF c Z h .cont .cont
 | ret {x v} : Rd c Z h x v → RF c Z h (.ret x) (.ret v)
noncomputable def WE (c : Cx) (A : Around) (env : Env) (σ : St) (e : Expr) (k : V → St → Prop) : Prop := WP c A env σ (eval e env) (RV c) k
noncomputable def WT (c : Cx) (A : Around) (env : Env) (σ : St) (e : Expr) (k : Bool → St → Prop) : Prop := WP c A env σ (isTrue e env (eval e env)) RB k
noncomputable def WEs (c : Cx) (A : Around) (env : Env) (σ : St) (pos : Pos) (es : List Expr) (k : List V → St → Prop) : Prop :=
 WP c A env σ (spliced (backTo pos (starEach es env))) (fun Z h xs vs => RdL c Z h xs vs) k
noncomputable def WA (c : Cx) (A : Around) (env : Env) (σ : St) (t : Expr) (X : V) (k : St → Prop) : Prop :=
 AOk A → ∀ Z P s v, Rel c Z P env σ s.heap → Rd c Z s.heap X v → wpAny c.M A (assign t env v) (Fin c P env RU (fun _ => k) Z s) (fun _ _ => False) s
noncomputable def WS (c : Cx) (A : Around) (env : Env) (σ : St) (st : Stmt) (k : FV → St → Prop) : Prop := WP c A env σ (exec st env) (RF c) k
noncomputable def WSs (c : Cx) (A : Around) (env : Env) (σ : St) (sts : List Stmt) (k : FV → St → Prop) : Prop := WP c A env σ (execs sts env) (RF c) k
theorem wp_then {α β : Type} {c : Cx} {A : Around} {env : Env} {σ : St} {t : Sem α} {R : (Addr → Prop) → Heap → β → α → Prop} {k : β → St → Prop} (h : WP c A env σ t R k) (hA : AOk A) {Z P : Addr → Prop} {s : Shared} (R₀ : Rel c Z P env σ s.heap) {Q : α → Shared → Prop} {E : Value → Shared → Prop}
  (n : ∀ Z₁ h₁ tk₁ dr₁ b σ₁ a, Step Z P s.heap Z₁ h₁ → Rel c Z₁ P env σ₁ h₁ → R Z₁ h₁ b a → k b σ₁ → Q a { s with heap := h₁, toks := tk₁, drawn := dr₁ }) : wpAny c.M A t Q E s := by
 refine wpAny_mono (h.run hA Z P s R₀) ?_ fun _ _ x => x.elim
 refine fun a _ => R65 fun Z₁ h₁ tk₁ dr₁ b σ₁ z6 S r q kk => ?_; subst z6
 exact n Z₁ h₁ tk₁ dr₁ b σ₁ a S r q kk
theorem wp_thenB {c : Cx} {A : Around} {env : Env} {σ : St} {t : Sem Bool} {k : Bool → St → Prop} (h : WP c A env σ t RB k) (hA : AOk A) {Z P : Addr → Prop} {s : Shared} (R₀ : Rel c Z P env σ s.heap) {Q : Bool → Shared → Prop} {E : Value → Shared → Prop}
  (n : ∀ Z₁ h₁ tk₁ dr₁ b σ₁, Step Z P s.heap Z₁ h₁ → Rel c Z₁ P env σ₁ h₁ → k b σ₁ → Q b { s with heap := h₁, toks := tk₁, drawn := dr₁ }) : wpAny c.M A t Q E s :=
 wp_then h hA R₀ fun Z₁ h₁ tk₁ dr₁ b σ₁ a S r q kk => by cases q; exact n Z₁ h₁ tk₁ dr₁ _ σ₁ S r kk
theorem wa_then {c : Cx} {A : Around} {env : Env} {σ : St} {t : Expr} {X : V} {k : St → Prop} (h : WA c A env σ t X k) (hA : AOk A) {Z P : Addr → Prop} {s : Shared} (R₀ : Rel c Z P env σ s.heap) {v : Value} (rv : RV c Z s.heap X v) {Q : Unit → Shared → Prop} {E : Value → Shared → Prop}
  (n : ∀ Z₁ h₁ tk₁ dr₁ σ₁, Step Z P s.heap Z₁ h₁ → Rel c Z₁ P env σ₁ h₁ → k σ₁ → Q () { s with heap := h₁, toks := tk₁, drawn := dr₁ }) : wpAny c.M A (assign t env v) Q E s := by
 refine wpAny_mono (h hA Z P s v R₀ rv) ?_ fun _ _ x => x.elim
 refine fun _ _ => R65 fun Z₁ h₁ tk₁ dr₁ b σ₁ z6 S r q kk => ?_; subst z6
 exact n Z₁ h₁ tk₁ dr₁ σ₁ S r kk
theorem fin_mk {α β : Type} {c : Cx} {P : Addr → Prop} {env : Env} {R : (Addr → Prop) → Heap → β → α → Prop} {k : β → St → Prop} {Z Z' : Addr → Prop} {s : Shared} {h' : Heap} {tk : Nat} {dr : Drawn} {b : β} {a : α} {σ' : St}
  (S : Step Z P s.heap Z' h') (R' : Rel c Z' P env σ' h') (r : R Z' h' b a) (kk : k b σ') : Fin c P env R k Z s a { s with heap := h', toks := tk, drawn := dr } := (I65 Z' h' tk dr b σ' rfl S R' r kk)
noncomputable def Res (c : Cx) (A : Around) (Z : Addr → Prop) (s : Shared) (t : Sem Value) (r : V) : Prop :=
 ∀ Q E, (∀ v h' tk dr (N : Addr → Prop), Kp s.heap h' → (∀ b, N b → s.heap.get? b = none ∧ ∃ o, h'.get? b = some o) → Rd c (fun b => Z b ∨ N b) h' r v → Q v { s with heap := h', toks := tk, drawn := dr }) →
  wpAny c.M A t Q E s
theorem Res.pure {c : Cx} {A : Around} {Z : Addr → Prop} {s : Shared} {t : Sem Value} {r : V}
  (h : ∀ (Q : Value → Shared → Prop) E, (∀ v tk, Rd c Z s.heap r v → Q v { s with toks := tk }) → wpAny c.M A t Q E s) : Res c A Z s t r := fun Q E hQ =>
 h Q E fun v tk r => hQ v s.heap tk s.drawn (fun _ => False) (Kp.refl _) (fun _ f => f.elim) (r.more fun _ z => .inl z)
theorem Res.fin {c : Cx} {A : Around} {P : Addr → Prop} {env : Env} {σ : St} {Z Z₀ : Addr → Prop} {s : Shared} {h₁ : Heap} {tk₁ : Nat} {dr₁ : Drawn} {t : Sem Value} {r : V} {k : V → St → Prop}
  (S : Step Z₀ P s.heap Z h₁) (R : Rel c Z P env σ h₁) (hr : Res c A Z { s with heap := h₁, toks := tk₁, drawn := dr₁ } t r) (hk : k r σ) :
  wpAny c.M A t (Fin c P env (RV c) k Z₀ s) (fun _ _ => False) { s with heap := h₁, toks := tk₁, drawn := dr₁ } :=
 hr _ _ fun v h' tk dr N hkp hN rd => (I65 _ h' tk dr r σ rfl (S.trans (Step.new hkp N)) (R.new hkp hN) rd hk)
end Mine
end
noncomputable section
namespace Mine
open PySem
noncomputable def setL : List (Str × V) → Str → V → List (Str × V)
 | [], x, X => [(x, X)]
 | (y, Y) :: r, x, X => if y == x then (x, X) :: r else (y, Y) :: setL r x X
theorem lookup_setL (l : List (Str × V)) (x : Str) (X : V) (y : Str) : (setL l x X).lookup y = if y = x then some X else l.lookup y := by
 induction l with
 | nil =>
  simp only [setL, List.lookup_cons, List.lookup_nil]
  by_cases h : y = x
  ·simp [h]
  ·have : (y == x) = false := by simpa using h
   simp [this, h]
 | cons p r ih =>
  obtain ⟨z, W⟩ := p
  unfold setL
  by_cases hz : z = x
  ·subst hz
   simp only [beq_self_eq_true, if_true, List.lookup_cons]
   by_cases h : y = z
   ·simp [h]
   ·have : (y == z) = false := by simpa using h
    simp [this, h]
  ·have hz' : (z == x) = false := by simpa using hz
   simp only [hz', Bool.false_eq_true, if_false, List.lookup_cons, ih]
   by_cases h : y = z
   ·subst h; simp [hz]
   ·have : (y == z) = false := by simpa using h
    simp [this]
@[reducible] noncomputable def St.set (σ : St) (x : Str) (X : V) : St := ⟨setL σ.loc x X, σ.hp⟩
section
variable {c : Cx} {A : Around} {env : Env} {σ : St} {Z P : Addr → Prop} {h h' : Heap}
theorem Rel.own_changed (R : Rel c Z P env σ h) {b : Addr} (hb : OwnA env b) (hs : Heap.SameBut b h h') {σ' : St}
  (hns : ∃ m, h'.Ns env.locals m) (hcells : ∀ x, env.kindOf x = some .cell → ∃ cl v, env.cells.lookup x = some cl ∧ h'.IsCell cl v)
  (hhp : σ'.hp = σ.hp) (hvars : ∀ x X, σ'.loc.lookup x = some X → ∃ v, HasVar env h' x v ∧ Rd c Z h' X v) : Rel c Z P env σ' h' where
 inv := ⟨fun a o e => ⟨(R.inv.ground a o e).1, hs.extBut a o (fun e' => (R.own b hb).1 (e' ▸ (R.inv.ground a o e).1)) (R.inv.ground a o e).2⟩,
  fun a z => let ⟨o, e⟩ := R.inv.exZ a z; ⟨o, hs.extBut a o (fun e' => (R.own b hb).1 (e' ▸ z)) e⟩,
  fun a p => let ⟨o, e⟩ := R.inv.exP a p; ⟨o, hs.extBut a o (fun e' => (R.own b hb).2 (e' ▸ p)) e⟩, R.inv.off, R.inv.sys, R.inv.top⟩
 fn := R.fn
 gl := R.gl
 bl := R.bl
 ns := hns
 cells := hcells
 inj := R.inj
 cellL := R.cellL
 freeP := R.freeP
 own := R.own
 vars := hvars
 hp := ⟨fun a o ha => by
  rw [hhp] at ha
  refine E03 (R.hp.obj a o ha) fun h1 h2 h3 => ?_
  exact (I03 (h1.keep (fun _ z => z) (fun a' o' z e => hs.extBut a' o' (fun e' => (R.own b hb).1 (e' ▸ z)) e) (fun o' e => hs.extBut a o' (fun e' => R.hpOff a o ha (e' ▸ hb)) e)) h2 h3),
  by rw [hhp]; exact R.hp.nodup⟩
 hpOff := fun a o ha => R.hpOff a o (hhp ▸ ha)
theorem Rel.step_own (R : Rel c Z P env σ h) {b : Addr} (hb : OwnA env b) (hs : Heap.SameBut b h h') : Step Z P h Z h' :=
 ⟨fun _ z => z, fun a o z e => hs.extBut a o (fun e' => (R.own b hb).1 (e' ▸ z)) e, fun a o p e => hs.extBut a o (fun e' => (R.own b hb).2 (e' ▸ p)) e⟩
theorem Rd.own_changed {X : V} {v : Value} (R : Rel c Z P env σ h) {b : Addr} (hb : OwnA env b) (hs : Heap.SameBut b h h') (r : Rd c Z h X v) : Rd c Z h' X v :=
 r.keep (fun _ z => z) fun a o z e => hs.extBut a o (fun e' => (R.own b hb).1 (e' ▸ z)) e
theorem store_var {x : Str} {X : V} {v : Value} {s : Shared} {Q : Unit → Shared → Prop} {E : Value → Shared → Prop} (R : Rel c Z P env σ s.heap) (hk : env.kindOf x = some .local ∨ env.kindOf x = some .cell) (r : Rd c Z s.heap X v)
  (h : ∀ h' tk, Step Z P s.heap Z h' → Rel c Z P env (σ.set x X) h' → Q () { s with heap := h', toks := tk }) : wpAny c.M A (storeName env x v) Q E s := by
 rcases hk with hk | hk
 ·obtain ⟨m, hm⟩ := R.ns
  refine wpAny_storeName_local hk hm (fun h' hn hs => ?_) (by rw [R.fn]; rfl)
  have hb : OwnA env env.locals := .inl rfl
  refine h h' _ (R.step_own hb hs) (R.own_changed hb hs ⟨_, hn⟩ ?_ rfl ?_)
  ·intro y hy
   refine E22 (R.cells y hy) fun cl u h1 h2 => ?_
   exact (I22 cl u h1 (h2.sameBut hs (R.cellL y cl hy h1)))
  ·intro y Y e
   rw [lookup_setL] at e
   by_cases hyx : y = x
   ·subst hyx
    simp only [if_true, Option.some.injEq] at e; subst e
    exact (I12 v (.inl (I02 hk (I12 _ hn (by simp)))) (r.own_changed R hb hs))
   ·simp only [if_neg hyx] at e
    refine E12 (R.vars y Y e) fun u hu ru => ?_
    refine (I12 u ?_ (ru.own_changed R hb hs))
    rcases hu with ⟨k1, m', hm', hm1⟩ | ⟨k1, cl, h1, h2⟩
    ·refine .inl (I02 k1 (I12 _ hn ?_))
     simp only [if_neg hyx]
     refine E34 hm fun o es ep ho hd hsk hf => ?_; clear hm
     refine E34 hm' fun o' es' ep' ho' hd' hsk' hf' => ?_; clear hm'
     rw [ho] at ho'; cases ho'
     rw [hd] at hd'; cases hd'
     rw [← hf, hf']; exact hm1
    ·refine .inr (I02 k1 (I12 cl h1 (h2.sameBut hs ?_)))
     intro e'
     rcases k1 with k1 | k1
     ·exact R.cellL y cl k1 h1 e'
     ·exact (R.own env.locals hb).2 (e' ▸ R.freeP y cl k1 h1)
 ·refine E22 (R.cells x hk) fun cl u h1 h2 => ?_
  refine wpAny_storeName_cell R.fn hk h1 h2 fun h' hc hs => ?_
  have hb : OwnA env cl := .inr (I12 x hk h1)
  refine h h' s.toks (R.step_own hb hs) (R.own_changed hb hs ?_ ?_ rfl ?_)
  ·obtain ⟨m, hm⟩ := R.ns
   exact ⟨m, hm.sameBut hs (fun e => R.cellL x cl hk h1 e.symm)⟩
  ·intro y hy
   by_cases hyx : y = x
   ·subst hyx; exact (I22 cl _ h1 hc)
   ·refine E22 (R.cells y hy) fun cl' u' h1' h2' => ?_
    refine (I22 cl' u' h1' (h2'.sameBut hs fun e => hyx (R.inj y x cl hy hk (e ▸ h1') h1)))
  ·intro y Y e
   rw [lookup_setL] at e
   by_cases hyx : y = x
   ·subst hyx
    simp only [if_true, Option.some.injEq] at e; subst e
    exact (I12 v (.inr (I02 (.inl hk) (I12 cl h1 hc))) (r.own_changed R hb hs))
   ·simp only [if_neg hyx] at e
    refine E12 (R.vars y Y e) fun u hu ru => ?_
    refine (I12 u ?_ (ru.own_changed R hb hs))
    rcases hu with ⟨k1, m', hm', hm1⟩ | ⟨k1, cl', h1', h2'⟩
    ·exact .inl (I02 k1 (I12 m' (hm'.sameBut hs (fun e => R.cellL x cl hk h1 e.symm)) hm1))
    ·refine .inr (I02 k1 (I12 cl' h1' (h2'.sameBut hs fun e => ?_)))
     rcases k1 with k1 | k1
     ·exact hyx (R.inj y x cl k1 hk (e ▸ h1') h1)
     ·exact (R.own cl hb).2 (e ▸ R.freeP y cl' k1 h1')
end
section
variable {c : Cx} {A : Around} {env : Env} {σ : St}
theorem wE_Name {x : Str} {pos : Pos} {X : V} {k : V → St → Prop} (hx : σ.loc.lookup x = some X) (h : k X σ) (hd : (x == ("__debug__" : Str)) = false := by decide)
  (hn : (x == ("__classdict__" : Str)) = false := by decide) : WE c A env σ (.Name x pos) k := by
 refine WP.mk fun hA Z P s R => ?_
 refine E12 (R.vars x X hx) fun v hv r => ?_
 have fin : Fin c P env (RV c) k Z s v s := (fin_mk (Step.refl ..) R r h)
 refine wpAny_Name ?_ hd
 rcases hv with ⟨k1, m, hm, hm1⟩ | ⟨k1 | k1, cl, h1, h2⟩
 ·exact wpAny_loadName_local R.fn k1 hm hm1 fin
 ·exact wpAny_loadName_cell R.fn k1 h1 h2 fin
 ·exact wpAny_loadName_free R.fn k1 h1 h2 fin hn
theorem wA_Name {x : Str} {pos : Pos} {X : V} {k : St → Prop} (hk : env.kindOf x = some .local ∨ env.kindOf x = some .cell) (h : k (σ.set x X)) : WA c A env σ (.Name x pos) X k := by
 intro hA Z P s v R r
 exact wpAny_assign_Name (store_var R hk r fun h' tk S R' => (fin_mk (b := ()) S R' trivial h))
theorem wE_int {i : Int} {n : Nat} {pos : Pos} {k : V → St → Prop} (h : k (.int i) σ) : WE c A env σ (.Constant (.int i) n pos) k := by
 refine WP.mk fun hA Z P s R => ?_
 exact wpAny_Constant_int (fin_mk (Step.refl ..) R (.int _ _) h)
theorem wE_str {x : Str} {n : Nat} {pos : Pos} {k : V → St → Prop} (h : k (.str x) σ) : WE c A env σ (.Constant (.str x) n pos) k := by
 refine WP.mk fun hA Z P s R => ?_
 exact Calls.Constant_str (fin_mk (Step.refl ..) R (.str _ _) h)
theorem wE_bool {b : Bool} {n : Nat} {pos : Pos} {k : V → St → Prop} (h : k (.bool b) σ) : WE c A env σ (.Constant (.bool b) n pos) k := by
 refine WP.mk fun hA Z P s R => ?_
 rw [arm_eval_Constant]
 exact wpAny_pure (fin_mk (Step.refl ..) R (.bool _) h)
theorem wEs_nil {pos : Pos} {k : List V → St → Prop} (h : k [] σ) : WEs c A env σ pos [] k := by
 refine WP.mk fun hA Z P s R => ?_
 exact Calls.spliced_nil (fin_mk (Step.refl ..) R .nil h)
theorem wEs_cons {pos : Pos} {e : Expr} {rest : List Expr} {k : List V → St → Prop} (h : WE c A env σ e fun X σ₁ => WEs c A env σ₁ pos rest fun Xs σ₂ => k (X :: Xs) σ₂)
  (he : starEach (e :: rest) env = (false, eval e env) :: starEach rest env := by rfl) : WEs c A env σ pos (e :: rest) k := by
 refine WP.mk fun hA Z P s R => ?_
 rw [he]
 refine Calls.spliced_cons (wp_then h hA R fun Z₁ h₁ tk₁ dr₁ X σ₁ v S₁ R₁ r₁ k₁ => ?_)
 refine wp_then k₁ hA R₁ fun Z₂ h₂ tk₂ dr₂ Xs σ₂ vs S₂ R₂ r₂ k₂ => ?_
 exact (fin_mk (S₁.trans S₂) R₂ (.cons (r₁.step S₂) r₂) k₂)
theorem new_one {h : Heap} {o : Obj} (hf : o.isFreed = false := by rfl) : ∀ b, b = h.objs.size → h.get? b = none ∧ ∃ o', (h.push o).get? b = some o' := by
 rintro b rfl
 exact (I02 (fresh_none h _ (Nat.le_refl _)) (I11 _ (Heap.get?_push_size _ hf)))
theorem wE_Tuple {es : List Expr} {n : Nat} {pos : Pos} {k : V → St → Prop} (h : WEs c A env σ pos es fun Xs σ₁ => Xs.length ≤ sizeLine ∧ k (.tup Xs) σ₁) : WE c A env σ (.Tuple es n pos) k := by
 refine WP.mk fun hA Z P s R => ?_
 refine wpAny_Tuple_spliced (wp_then h hA R fun Z₁ h₁ tk₁ dr₁ Xs σ₁ vs S₁ R₁ r₁ kk => ?_)
 obtain ⟨hsz, k₁⟩ := kk
 refine ⟨by rw [← r₁.length]; exact hsz, ?_⟩
 have hk := Kp.push h₁ { cls := .type "tuple", data := .seq vs.toArray }
 refine (fin_mk (S₁.trans (Step.new hk (fun b => b = h₁.objs.size))) (R₁.new hk new_one) (.tup (.inr rfl) ⟨0, Heap.get?_push_size _ rfl⟩ ?_) k₁)
 simpa using r₁.keep (fun _ z => .inl z) (fun b o _ e => hk b o e)
theorem wE_List {es : List Expr} {pos : Pos} {k : V → St → Prop} (h : WEs c A env σ pos es fun Xs σ₁ => Xs.length ≤ sizeLine ∧ k (.lst Xs) σ₁) : WE c A env σ (.List es pos) k := by
 refine WP.mk fun hA Z P s R => ?_
 refine wpAny_List_spliced (wp_then h hA R fun Z₁ h₁ tk₁ dr₁ Xs σ₁ vs S₁ R₁ r₁ kk => ?_)
 obtain ⟨hsz, k₁⟩ := kk
 refine ⟨by rw [← r₁.length]; exact hsz, ?_⟩
 have hk := Kp.push h₁ { cls := .type "list", data := .seq vs.toArray }
 refine (fin_mk (S₁.trans (Step.new hk (fun b => b = h₁.objs.size))) (R₁.new hk new_one) (.lst (.inr rfl) ⟨0, Heap.get?_push_size _ rfl⟩ ?_) k₁)
 simpa using r₁.keep (fun _ z => .inl z) (fun b o _ e => hk b o e)
noncomputable def BinV (c : Cx) (A : Around) (hp : List (Addr × O)) (op : Operator) (X Y r : V) : Prop :=
 AOk A → ∀ Z P s x y, HpR c Z P s.heap hp → Rd c Z s.heap X x → Rd c Z s.heap Y y → Res c A Z s (binaryOp op x y) r
noncomputable def CmpV (c : Cx) (A : Around) (hp : List (Addr × O)) (op : CmpOp) (X Y : V) (b : Bool) : Prop :=
 AOk A → ∀ Z P s x y, HpR c Z P s.heap hp → Rd c Z s.heap X x → Rd c Z s.heap Y y → ∀ Q E, (∀ tk, Q (.bool b) { s with toks := tk }) → wpAny c.M A (compareOp op x y) Q E s
noncomputable def TruthV (c : Cx) (A : Around) (hp : List (Addr × O)) (X : V) (b : Bool) : Prop :=
 AOk A → ∀ Z P s x, HpR c Z P s.heap hp → Rd c Z s.heap X x → ∀ Q E, (∀ tk, Q b { s with toks := tk }) → wpAny c.M A (truthy x) Q E s
noncomputable def ItemV (c : Cx) (A : Around) (hp : List (Addr × O)) (X Y r : V) : Prop :=
 AOk A → ∀ Z P s x y, HpR c Z P s.heap hp → Rd c Z s.heap X x → Rd c Z s.heap Y y → (∀ Q E, Q false s → wpAny c.M A (getitemInPython x) Q E s) ∧ Res c A Z s (getItem x y) r
theorem wE_BinOp {l r : Expr} {op : Operator} {pos : Pos} {k : V → St → Prop} (h : WE c A env σ l fun X σ₁ => WE c A env σ₁ r fun Y σ₂ => ∃ w, BinV c A σ₂.hp op X Y w ∧ k w σ₂) :
  WE c A env σ (.BinOp l op r pos) k := by
 refine WP.mk fun hA Z P s R => ?_
 rw [arm_eval_BinOp]
 refine wpAny_bind (wp_then h hA R fun Z₁ h₁ tk₁ dr₁ X σ₁ v₁ S₁ R₁ r₁ k₁ => ?_)
 refine wpAny_bind (wpAny_holding (wp_then k₁ hA R₁ fun Z₂ h₂ tk₂ dr₂ Y σ₂ v₂ S₂ R₂ r₂ kk => ?_))
 refine E12 kk fun w hw k₂ => ?_; clear kk
 refine wpAny_bind (wpAny_standAt (wpAny_operateT ?_))
 exact Res.fin (S₁.trans S₂) R₂ (hw hA Z₂ P _ v₁ v₂ R₂.hp (r₁.step S₂) r₂) k₂
theorem wT_Compare {l r : Expr} {op : CmpOp} {pos : Pos} {k : Bool → St → Prop} (h : WE c A env σ l fun X σ₁ => WE c A env σ₁ r fun Y σ₂ => ∃ b, CmpV c A σ₂.hp op X Y b ∧ k b σ₂)
  (hm : behindInMarks op r = false := by rfl) : WT c A env σ (.Compare l [op] [r] pos) k := by
 refine WP.mk fun hA Z P s R => ?_
 refine wpAny_isTrue_Compare1 (wp_then h hA R fun Z₁ h₁ tk₁ dr₁ X σ₁ v₁ S₁ R₁ r₁ k₁ => ?_) hm
 refine wp_then k₁ hA R₁ fun Z₂ h₂ tk₂ dr₂ Y σ₂ v₂ S₂ R₂ r₂ kk => ?_
 refine E12 kk fun b hb k₂ => ?_; clear kk
 exact hb hA Z₂ P { s with heap := h₂, toks := tk₂, drawn := dr₂ } v₁ v₂ R₂.hp (r₁.step S₂) r₂ _ _ fun tk => wpAny_truthy_bool (fin_mk (S₁.trans S₂) R₂ rfl k₂)
theorem wT_Not {x : Expr} {pos : Pos} {k : Bool → St → Prop} (h : WT c A env σ x fun b σ₁ => k (!b) σ₁) : WT c A env σ (.UnaryOp .Not x pos) k := by
 refine WP.mk fun hA Z P s R => ?_
 refine wpAny_isTrue_Not (wp_thenB h hA R fun Z₁ h₁ tk₁ dr₁ b σ₁ S₁ R₁ k₁ => ?_)
 exact (fin_mk S₁ R₁ rfl k₁)
theorem wT_plain {e : Expr} {k : Bool → St → Prop} (h : WE c A env σ e fun X σ₁ => ∃ b, TruthV c A σ₁.hp X b ∧ k b σ₁)
  (he : isTrue e env (eval e env) = (do let v ← eval e env; standAt e.pos; holding [v] (truthy v)) := by rfl) : WT c A env σ e k := by
 refine WP.mk fun hA Z P s R => ?_
 refine wpAny_isTrue_value (wp_then h hA R fun Z₁ h₁ tk₁ dr₁ X σ₁ v₁ S₁ R₁ r₁ kk => ?_) he
 refine E12 kk fun b hb k₁ => ?_; clear kk
 exact hb hA Z₁ P { s with heap := h₁, toks := tk₁, drawn := dr₁ } v₁ R₁.hp r₁ _ _ fun tk => (fin_mk S₁ R₁ rfl k₁)
noncomputable def WAll (c : Cx) (A : Around) (env : Env) (σ : St) (op : BoolOp) (es : List Expr) (k : Bool → St → Prop) : Prop := WP c A env σ (allTrue op es env) RB k
theorem wT_BoolOp {op : BoolOp} {es : List Expr} {pos : Pos} {k : Bool → St → Prop} (h : WAll c A env σ op es k) : WT c A env σ (.BoolOp op es pos) k := by
 refine WP.mk fun hA Z P s R => ?_
 exact wpAny_isTrue_BoolOp (h.run hA Z P s R)
theorem wAll_nil {op : BoolOp} {k : Bool → St → Prop} (h : k (op == .And) σ) : WAll c A env σ op [] k := by
 refine WP.mk fun hA Z P s R => ?_
 rw [arm_allTrue_nil]
 exact wpAny_pure (fin_mk (Step.refl ..) R rfl h)
theorem wAll_and {e : Expr} {es : List Expr} {k : Bool → St → Prop} (h : WT c A env σ e fun b σ₁ => if b then WAll c A env σ₁ .And es k else k false σ₁) : WAll c A env σ .And (e :: es) k := by
 refine WP.mk fun hA Z P s R => ?_
 rw [arm_allTrue_cons]
 refine wpAny_bind (wp_thenB h hA R fun Z₁ h₁ tk₁ dr₁ b σ₁ S₁ R₁ k₁ => ?_)
 cases b with
 | false => exact wpAny_pure (fin_mk S₁ R₁ rfl k₁)
 | true => exact wpAny_mono (k₁.run hA Z₁ P _ R₁) (fun _ _ f => Fin.after S₁ f) fun _ _ x => x
theorem wAll_or {e : Expr} {es : List Expr} {k : Bool → St → Prop} (h : WT c A env σ e fun b σ₁ => if b then k true σ₁ else WAll c A env σ₁ .Or es k) : WAll c A env σ .Or (e :: es) k := by
 refine WP.mk fun hA Z P s R => ?_
 rw [arm_allTrue_cons]
 refine wpAny_bind (wp_thenB h hA R fun Z₁ h₁ tk₁ dr₁ b σ₁ S₁ R₁ k₁ => ?_)
 cases b with
 | true => exact wpAny_pure (fin_mk S₁ R₁ rfl k₁)
 | false => exact wpAny_mono (k₁.run hA Z₁ P _ R₁) (fun _ _ f => Fin.after S₁ f) fun _ _ x => x
theorem wE_Sub {v i : Expr} {pos : Pos} {k : V → St → Prop} (h : WE c A env σ v fun X σ₁ => WE c A env σ₁ i fun Y σ₂ => ∃ w, ItemV c A σ₂.hp X Y w ∧ k w σ₂)
  (hs : ∀ o j, subscripted i false o j = operate [o, j] (getItem o j) := by intros; rfl) : WE c A env σ (.Subscript v i pos) k := by
 refine WP.mk fun hA Z P s R => ?_
 rw [arm_eval_Subscript]
 refine wpAny_bind (wp_then h hA R fun Z₁ h₁ tk₁ dr₁ X σ₁ v₁ S₁ R₁ r₁ k₁ => ?_)
 refine wpAny_bind (wpAny_holding (wp_then k₁ hA R₁ fun Z₂ h₂ tk₂ dr₂ Y σ₂ v₂ S₂ R₂ r₂ kk => ?_))
 refine E12 kk fun w hw k₂ => ?_; clear kk
 obtain ⟨hg, hw⟩ := hw hA Z₂ P { s with heap := h₂, toks := tk₂, drawn := dr₂ } v₁ v₂ R₂.hp (r₁.step S₂) r₂
 refine wpAny_bind (wpAny_standAt (wpAny_bind (hg _ _ ?_)))
 rw [hs]
 refine wpAny_bind (wpAny_operateT (wpAny_mono (Res.fin (S₁.trans S₂) R₂ hw k₂) ?_ fun _ _ x => x))
 intro u s' f
 exact wpAny_bind (wpAny_letTemporaryGo (wpAny_pure f))
end
end Mine
end
noncomputable section
namespace Mine
open PySem PySem.SeqAt
inductive Ty where
 | none | int | str
 | tup (ts : List Ty)
 | lst (t : Ty)
mutual
noncomputable def Ty.dep : Ty → Nat
 | .tup ts => 1 + Ty.depL ts
 | .lst t => 1 + t.dep
 | _ => 0
noncomputable def Ty.depL : List Ty → Nat
 | [] => 0
 | t :: r => t.dep + Ty.depL r
end
mutual
inductive HT : Ty → V → Prop
 | none : HT .none .none
 | int (i) : HT .int (.int i)
 | str (s) : HT .str (.str s)
 | tup {ts xs} : HTs ts xs → HT (.tup ts) (.tup xs)
 | lst {t xs} : (∀ x ∈ xs, HT t x) → HT (.lst t) (.lst xs)
inductive HTs : List Ty → List V → Prop
 | nil : HTs [] []
 | cons {t ts x xs} : HT t x → HTs ts xs → HTs (t :: ts) (x :: xs)
end
theorem isList_fun {h : Heap} {a : Addr} {i j : Array Value} (x : h.IsList a i) (y : h.IsList a j) : i = j := by
 refine E13 x fun o ho _ y0 => E11 y0 fun n hd => ?_; clear x
 refine E13 y fun o' ho' _ y0 => E11 y0 fun n' hd' => ?_; clear y
 rw [ho] at ho'; cases ho'; rw [hd] at hd'; cases hd'; rfl
theorem isTuple_fun {h : Heap} {a : Addr} {i j : Array Value} (x : h.IsTuple a i) (y : h.IsTuple a j) : i = j := by
 refine E13 x fun o ho _ y0 => E11 y0 fun n hd => ?_; clear x
 refine E13 y fun o' ho' _ y0 => E11 y0 fun n' hd' => ?_; clear y
 rw [ho] at ho'; cases ho'; rw [hd] at hd'; cases hd'; rfl
theorem RdL.inv0 {c : Cx} {Z : Addr → Prop} {h : Heap} {xs : List V} (r : RdL c Z h xs []) : xs = [] := by cases r; rfl
theorem RdL.inv1 {c : Cx} {Z : Addr → Prop} {h : Heap} {xs : List V} {v : Value} {vs : List Value} (r : RdL c Z h xs (v :: vs)) : ∃ x ys, xs = x :: ys ∧ Rd c Z h x v ∧ RdL c Z h ys vs := by cases r; exact I23 _ _ rfl ‹_› ‹_›
theorem list_rdFun {c : Cx} {Z : Addr → Prop} {h : Heap} {t : Ty} (ih : ∀ X Y v, HT t X → HT t Y → Rd c Z h X v → Rd c Z h Y v → X = Y) :
  ∀ {vs : List Value} {xs ys : List V}, (∀ x ∈ xs, HT t x) → (∀ y ∈ ys, HT t y) → RdL c Z h xs vs → RdL c Z h ys vs → xs = ys
 | [], _, _, _, _, r, q => r.inv0.trans q.inv0.symm
 | _ :: _, _, _, hx, hy, r, q => E23 r.inv1 fun x xs e1 a b => E23 q.inv1 fun y ys e2 a' b' => by
  subst e1; subst e2
  rw [ih _ _ _ (hx _ (.head _)) (hy _ (.head _)) a a', list_rdFun ih (fun x m => hx x (.tail _ m)) (fun x m => hy x (.tail _ m)) b b']
theorem HT.int_inv {X : V} (h : HT .int X) : ∃ i, X = .int i := by cases h; exact ⟨_, rfl⟩
theorem HT.str_inv {X : V} (h : HT .str X) : ∃ i, X = .str i := by cases h; exact ⟨_, rfl⟩
theorem HT.none_inv {X : V} (h : HT .none X) : X = .none := by cases h; rfl
theorem HT.tup_inv {X : V} {ts : List Ty} (h : HT (.tup ts) X) : ∃ xs, X = .tup xs ∧ HTs ts xs := by cases h; exact I12 _ rfl ‹_›
theorem HT.lst_inv {X : V} {t : Ty} (h : HT (.lst t) X) : ∃ xs, X = .lst xs ∧ ∀ x ∈ xs, HT t x := by cases h; exact I12 _ rfl ‹_›
theorem HTs.inv0 {xs : List V} (h : HTs [] xs) : xs = [] := by cases h; rfl
theorem HTs.inv1 {xs : List V} {t : Ty} {ts : List Ty} (h : HTs (t :: ts) xs) : ∃ x ys, xs = x :: ys ∧ HT t x ∧ HTs ts ys := by cases h; exact I23 _ _ rfl ‹_› ‹_›
theorem Rd.tup_inv {c : Cx} {Z : Addr → Prop} {h : Heap} {xs : List V} {v : Value} (r : Rd c Z h (.tup xs) v) : ∃ a items, v = .ref a ∧ PTup h a items ∧ RdL c Z h xs items.toList := Rd.tup_elim r fun a items _ p r => I23 a items rfl p r
theorem Rd.lst_inv {c : Cx} {Z : Addr → Prop} {h : Heap} {xs : List V} {v : Value} (r : Rd c Z h (.lst xs) v) : ∃ a items, v = .ref a ∧ h.PlainList a items ∧ RdL c Z h xs items.toList := Rd.lst_elim r fun a items _ p r => I23 a items rfl p r
theorem Rd.int_inv {c : Cx} {Z : Addr → Prop} {h : Heap} {i : Int} {v : Value} (r : Rd c Z h (.int i) v) : ∃ t, v = .int i t := Rd.int_elim r fun t => ⟨t, rfl⟩
theorem Rd.str_inv {c : Cx} {Z : Addr → Prop} {h : Heap} {i : Str} {v : Value} (r : Rd c Z h (.str i) v) : ∃ t, v = .str i t := Rd.str_elim r fun t => ⟨t, rfl⟩
mutual
theorem rdFun {c : Cx} {Z : Addr → Prop} {h : Heap} : ∀ (T : Ty) X Y v, HT T X → HT T Y → Rd c Z h X v → Rd c Z h Y v → X = Y
 | .none, _, _, _, hx, hy, _, _ => hx.none_inv.trans hy.none_inv.symm
 | .int, X, Y, v, hx, hy, r, q => E11 hx.int_inv fun i e1 => E11 hy.int_inv fun j e2 => by
  subst e1; subst e2
  exact E11 r.int_inv fun t e3 => E11 q.int_inv fun u e4 => congrArg V.int (Value.int.inj (e3.symm.trans e4)).1
 | .str, X, Y, v, hx, hy, r, q => E11 hx.str_inv fun i e1 => E11 hy.str_inv fun j e2 => by
  subst e1; subst e2
  exact E11 r.str_inv fun t e3 => E11 q.str_inv fun u e4 => congrArg V.str (Value.str.inj (e3.symm.trans e4)).1
 | .tup ts, X, Y, v, hx, hy, r, q => E12 hx.tup_inv fun xs e1 hx' => E12 hy.tup_inv fun ys e2 hy' => by
  subst e1; subst e2
  exact E23 r.tup_inv fun a i e3 p1 r => E23 q.tup_inv fun b j e4 p2 q => by
   have e5 := Value.ref.inj (e3.symm.trans e4)
   subst e5
   have e6 := isTuple_fun p1.isTuple p2.isTuple
   subst e6
   exact congrArg V.tup (rdFuns ts _ _ _ hx' hy' r q)
 | .lst t, X, Y, v, hx, hy, r, q => E12 hx.lst_inv fun xs e1 hx' => E12 hy.lst_inv fun ys e2 hy' => by
  subst e1; subst e2
  exact E23 r.lst_inv fun a i e3 p1 r => E23 q.lst_inv fun b j e4 p2 q => by
   have e5 := Value.ref.inj (e3.symm.trans e4)
   subst e5
   have e6 := isList_fun p1.isList p2.isList
   subst e6
   exact congrArg V.lst (list_rdFun (rdFun t) hx' hy' r q)
theorem rdFuns {c : Cx} {Z : Addr → Prop} {h : Heap} : ∀ (T : List Ty) X Y v, HTs T X → HTs T Y → RdL c Z h X v → RdL c Z h Y v → X = Y
 | [], _, _, _, hx, hy, _, _ => hx.inv0.trans hy.inv0.symm
 | t :: ts, X, Y, v, hx, hy, r, q => E23 hx.inv1 fun x xs e1 h1 h2 => E23 hy.inv1 fun y ys e2 h3 h4 => by
  subst e1; subst e2
  cases r with | cons r r' => cases q with | cons q q' =>
  rw [rdFun t _ _ _ h1 h3 r q, rdFuns ts _ _ _ h2 h4 r' q']
end
theorem HTs.length {ts xs} : HTs ts xs → ts.length = xs.length
 | .nil => rfl
 | .cons _ r => by simp [r.length]
theorem all_get_iff {xs ys : List V} (hl : xs.length = ys.length) : (∀ j, j < xs.length → xs[j]? = ys[j]?) ↔ xs = ys := by
 constructor
 ·intro h
  apply List.ext_getElem? 
  intro j
  by_cases hj : j < xs.length
  ·exact h j hj
  ·rw [List.getElem?_eq_none (by omega), List.getElem?_eq_none (by omega)]
 ·rintro rfl j _; rfl
open Classical in
theorem eq_items {xs ys : List V} {n : Nat} (hl : xs.length = ys.length) (hn : n = xs.length) {b : Bool} (hb : b = true ↔ xs = ys) :
  (List.range n).all (fun j => decide (xs[j]? = ys[j]?)) = b := by
 have h1 : ((List.range n).all (fun j => decide (xs[j]? = ys[j]?)) = true) ↔ xs = ys := by
  rw [← all_get_iff hl, List.all_eq_true]
  subst hn
  constructor
  ·intro h j hj; exact of_decide_eq_true (h j (List.mem_range.mpr hj))
  ·intro h j hj; exact decide_eq_true (h j (List.mem_range.mp hj))
 cases b with
 | true => exact h1.mpr (hb.mp rfl)
 | false =>
  cases hh : (List.range n).all (fun j => decide (xs[j]? = ys[j]?)) with
  | false => rfl
  | true => exact absurd (hb.mpr (h1.mp hh)) (by simp)
theorem bool_of_iff {a b : Bool} {p : Prop} (ha : a = true ↔ p) (hb : b = true ↔ p) : a = b := by
 cases a <;> cases b <;> simp_all
noncomputable def Both (A : Around) (s : Shared) (x y : Value) (b : Bool) : Prop := RcAt A s x y b ∧ RcNeAt A s x y (!b) ∧ EqAt A s x y b
theorem HTs_get {ts : List Ty} {xs : List V} (h : HTs ts xs) : ∀ (j : Nat) (t : Ty), ts[j]? = some t → ∃ x, xs[j]? = some x ∧ HT t x := by
 induction ts generalizing xs with
 | nil => intro j t e; simp at e
 | cons t0 ts ih =>
  cases h with
  | cons a b =>
   intro j t e
   cases j with
   | zero => simp at e; subst e; exact (I12 _ (by simp) a)
   | succ j => simp at e; refine E12 (ih b j t e) fun x hx r => ?_; exact (I12 x (by simpa using hx) r)
theorem depL_get {ts : List Ty} {j : Nat} {t : Ty} (h : ts[j]? = some t) : t.dep ≤ Ty.depL ts := by
 induction ts generalizing j with
 | nil => simp at h
 | cons t0 ts ih =>
  cases j with
  | zero => simp at h; subst h; unfold Ty.depL; omega
  | succ j => simp at h; have := ih h; unfold Ty.depL; omega
theorem eq_none {c : Cx} {Z : Addr → Prop} {s : Shared} {A : Around} {X Y x y b} (hX : HT .none X) (hY : HT .none Y) (rX : Rd c Z s.heap X x) (rY : Rd c Z s.heap Y y) (hb : b = true ↔ X = Y) : Both A s x y b := by
 cases hX; cases hY; cases rX; cases rY; simp at hb; subst hb; exact (I03 RcAt.none_none RcNeAt.none_none (EqAt.same _))
theorem eq_int {c : Cx} {Z : Addr → Prop} {s : Shared} {A : Around} {X Y x y b} (hX : HT .int X) (hY : HT .int Y) (rX : Rd c Z s.heap X x) (rY : Rd c Z s.heap Y y) (hb : b = true ↔ X = Y) : Both A s x y b := by
 cases hX with | int i => cases hY with | int j => cases rX with | int _ t => cases rY with | int _ u =>
 have : b = (i == j) := bool_of_iff hb (by simp)
 subst this
 exact (I03 (RcAt.int_int _ _ _ _) (RcNeAt.int_int _ _ _ _) (EqAt.int_int _ _ _ _))
theorem eq_str {c : Cx} {Z : Addr → Prop} {s : Shared} {A : Around} {X Y x y b} (hX : HT .str X) (hY : HT .str Y) (rX : Rd c Z s.heap X x) (rY : Rd c Z s.heap Y y) (hb : b = true ↔ X = Y) : Both A s x y b := by
 cases hX with | str i => cases hY with | str j => cases rX with | str _ t => cases rY with | str _ u =>
 have : b = (i == j) := bool_of_iff hb (by simp)
 subst this
 exact (I03 (RcAt.str_str _ _ _ _) (RcNeAt.str_str _ _ _ _) (EqAt.str_str _ _ _ _))
open Classical in
theorem eqTy {c : Cx} {Z : Addr → Prop} {s : Shared} : ∀ (n : Nat) (T : Ty) (A : Around), T.dep ≤ n → A.units + n < cLine → ∀ X Y x y b, HT T X → HT T Y → Rd c Z s.heap X x → Rd c Z s.heap Y y → (b = true ↔ X = Y) → Both A s x y b := by
 intro n
 induction n with
 | zero =>
  intro T A hT hA X Y x y b hX hY rX rY hb
  cases T with
  | none => exact eq_none hX hY rX rY hb
  | int => exact eq_int hX hY rX rY hb
  | str => exact eq_str hX hY rX rY hb
  | tup ts => unfold Ty.dep at hT; omega
  | lst t => unfold Ty.dep at hT; omega
 | succ n ih =>
  intro T A hT hA X Y x y b hX hY rX rY hb
  cases T with
  | none => exact eq_none hX hY rX rY hb
  | int => exact eq_int hX hY rX rY hb
  | str => exact eq_str hX hY rX rY hb
  | lst t =>
   have hT' : t.dep ≤ n := by unfold Ty.dep at hT; omega
   cases hX with | lst hx => cases hY with | lst hy =>
   cases rX with | lst z1 i1 r1 => cases rY with | lst z2 i2 r2 =>
   rename_i xs ys a1 items1 a2 items2
   have l1 := r1.length
   have l2 := r2.length
   simp only [Array.length_toList] at l1 l2
   have hb' : b = true ↔ xs = ys := by simpa using hb
   have key : RcAt A s (.ref a1) (.ref a2) b ∧ RcNeAt A s (.ref a1) (.ref a2) (!b) := by
    by_cases hl : xs.length = ys.length
    ·have he : ∀ j (h1 : j < items1.size) (h2 : j < items2.size), EqAt A.in1 s items1[j] items2[j] (decide (xs[j]? = ys[j]?)) := by
      intro j h1 h2
      refine E12 (r1.get' j items1[j] (by simp [h1])) fun u hu ru => ?_
      refine E12 (r2.get' j items2[j] (by simp [h2])) fun v hv rv => ?_
      refine (ih t A.in1 hT' (by show A.units + 1 + n < cLine; omega) u v _ _ _ (hx u (List.mem_of_getElem? hu)) (hy v (List.mem_of_getElem? hv)) ru rv ?_).2.2
      rw [hu, hv]; simp
     have e1 := eq_items (n := items1.size) hl l1.symm hb'
     have h1 := RcAt.lists i1.isList i2.isList (by omega) (by omega) he
     have h2 := RcNeAt.lists i1.isList i2.isList (by omega) (by omega) he
     rw [e1] at h1 h2
     exact ⟨h1, h2⟩
    ·have : b = false := by
      cases b with
      | false => rfl
      | true => exact absurd (congrArg List.length (hb'.mp rfl)) hl
     subst this
     have hne : (items1.size != items2.size) = true := by simp only [bne_iff_ne]; omega
     exact ⟨RcAt.lists_lengths i1.isList i2.isList hne (by omega), RcNeAt.lists_lengths i1.isList i2.isList hne (by omega)⟩
   refine (I03 (key.1) (key.2) ?_)
   by_cases ha : a1 = a2
   ·subst ha
    have : b = true := hb.mpr (rdFun _ _ _ _ (.lst hx) (.lst hy) (.lst z1 i1 r1) (.lst z2 i2 r2))
    subst this; exact EqAt.same _
   ·exact EqAt.of_refs ha key.1
  | tup ts =>
   have hT' : Ty.depL ts ≤ n := by unfold Ty.dep at hT; omega
   cases hX with | tup hx => cases hY with | tup hy =>
   cases rX with | tup z1 i1 r1 => cases rY with | tup z2 i2 r2 =>
   rename_i xs ys a1 items1 a2 items2
   have l1 := r1.length
   have l2 := r2.length
   have l3 := hx.length
   have l4 := hy.length
   simp only [Array.length_toList] at l1 l2
   have hb' : b = true ↔ xs = ys := by simpa using hb
   have key : RcAt A s (.ref a1) (.ref a2) b ∧ RcNeAt A s (.ref a1) (.ref a2) (!b) := by
    have hl : xs.length = ys.length := by omega
    have he : ∀ j (h1 : j < items1.size) (h2 : j < items2.size), EqAt A.in1 s items1[j] items2[j] (decide (xs[j]? = ys[j]?)) := by
     intro j h1 h2
     refine E12 (r1.get' j items1[j] (by simp [h1])) fun u hu ru => ?_
     refine E12 (r2.get' j items2[j] (by simp [h2])) fun v hv rv => ?_
     have hj : j < ts.length := by omega
     have ht : ts[j]? = some ts[j] := by simp [hj]
     refine E12 (HTs_get hx j _ ht) fun u' hu' tu => ?_
     refine E12 (HTs_get hy j _ ht) fun v' hv' tv => ?_
     rw [hu] at hu'; cases hu'
     rw [hv] at hv'; cases hv'
     refine (ih ts[j] A.in1 (Nat.le_trans (depL_get ht) hT') (by show A.units + 1 + n < cLine; omega) u v _ _ _ tu tv ru rv ?_).2.2
     rw [hu, hv]; simp
    have e1 := eq_items (n := min items1.size items2.size) hl (by omega) hb'
    have h1 := RcAt.tuples i1.isTuple i2.isTuple (by omega) he
    have h2 := RcNeAt.tuples i1.isTuple i2.isTuple (by omega) he
    have e2 : (items1.size == items2.size) = true := by simp only [beq_iff_eq]; omega
    rw [e1, e2, Bool.and_true] at h1 h2
    exact ⟨h1, h2⟩
   refine (I03 (key.1) (key.2) ?_)
   by_cases ha : a1 = a2
   ·subst ha
    have : b = true := hb.mpr (rdFun _ _ _ _ (.tup hx) (.tup hy) (.tup z1 i1 r1) (.tup z2 i2 r2))
    subst this; exact EqAt.same _
   ·exact EqAt.of_refs ha key.1
section
variable {c : Cx} {A : Around} {hp : List (Addr × O)}
theorem cmp_eq {T : Ty} {X Y : V} {b : Bool} (hX : HT T X) (hY : HT T Y) (hb : b = true ↔ X = Y) (hT : T.dep ≤ 250 := by decide) : CmpV c A hp .Eq X Y b := by
 intro hA Z P s x y _ rX rY Q E h
 have := h s.toks
 exact (eqTy 250 T A hT (by have := hA.units; omega) X Y x y b hX hY rX rY hb).1 c.prog c.w E Q this
theorem cmp_ne {T : Ty} {X Y : V} {b : Bool} (hX : HT T X) (hY : HT T Y) (hb : b = true ↔ X = Y) (hT : T.dep ≤ 250 := by decide) : CmpV c A hp .NotEq X Y (!b) := by
 intro hA Z P s x y _ rX rY Q E h
 have := h s.toks
 exact (eqTy 250 T A hT (by have := hA.units; omega) X Y x y b hX hY rX rY hb).2.1 c.prog c.w E Q this
open Classical in
theorem in_any {T : Ty} {X : V} {xs : List V} {items : Array Value} {Z : Addr → Prop} {s : Shared} {x : Value} (hT : T.dep ≤ 249) (hA : A.units + 250 < cLine) (hX : HT T X) (hxs : ∀ y ∈ xs, HT T y) (rX : Rd c Z s.heap X x) (r : RdL c Z s.heap xs items.toList) {b : Bool} (hb : b = true ↔ X ∈ xs) :
  ∃ e : Value → Bool, (∀ y, y ∈ items → EqAt A.in1 s y x (e y)) ∧ items.any e = b := by
 refine (I12 (fun y => decide (∃ Y, Rd c Z s.heap Y y ∧ HT T Y ∧ Y = X)) ?_ ?_)
 ·intro y hy
  obtain ⟨j, hj, rfl⟩ := Array.mem_iff_getElem.mp hy
  refine E12 (r.get' j items[j] (by simp [hj])) fun Y hY rY => ?_
  have tY := hxs Y (List.mem_of_getElem? hY)
  refine (eqTy 249 T A.in1 hT (by show A.units + 1 + 249 < cLine; omega) Y X _ _ _ tY hX rY rX ?_).2.2
  simp only [decide_eq_true_eq]
  constructor
  ·refine R13 fun Y' rY' tY' e => ?_
   rw [← e]; exact rdFun T _ _ _ tY tY' rY rY'
  ·intro e; exact (I13 Y rY tY e)
 ·refine bool_of_iff ?_ hb
  rw [Array.any_eq_true]
  constructor
  ·rintro ⟨j, hj, h⟩
   refine E13 (of_decide_eq_true h) fun Y rY tY e => ?_
   refine E12 (r.get' j items[j] (by simp [hj])) fun Y' hY' rY' => ?_
   have tY' := hxs Y' (List.mem_of_getElem? hY')
   have := rdFun T _ _ _ tY tY' rY rY'
   subst this; subst e
   exact List.mem_of_getElem? hY'
  ·intro hm
   obtain ⟨j, hj⟩ := List.mem_iff_getElem?.mp hm
   refine E12 (r.get j X hj) fun v hv rv => ?_
   have hj' : j < items.size := by
    have := (List.getElem?_eq_some_iff.mp hv).1
    simpa using this
   refine ⟨j, hj', decide_eq_true ⟨X, ?_, hX, rfl⟩⟩
   have e : items.toList[j]? = some items[j] := by simp [hj']
   rw [e] at hv; cases hv; exact rv
theorem cmp_in_lst {T : Ty} {X : V} {xs : List V} {b : Bool} (hX : HT T X) (hxs : ∀ y ∈ xs, HT T y) (hb : b = true ↔ X ∈ xs) (hT : T.dep ≤ 249 := by decide) : CmpV c A hp .In X (.lst xs) b := by
 intro hA Z P s x y _ rX rY Q E h
 cases rY with | lst z i r =>
 refine E12 (in_any (A := A) hT (by have := hA.units; omega) hX hxs rX r hb) fun e he hb' => ?_
 subst hb'
 exact in_listAt e i.isList he (h s.toks)
theorem cmp_notin_lst {T : Ty} {X : V} {xs : List V} {b : Bool} (hX : HT T X) (hxs : ∀ y ∈ xs, HT T y) (hb : b = true ↔ X ∈ xs) (hT : T.dep ≤ 249 := by decide) : CmpV c A hp .NotIn X (.lst xs) (!b) := by
 intro hA Z P s x y _ rX rY Q E h
 cases rY with | lst z i r =>
 refine E12 (in_any (A := A) hT (by have := hA.units; omega) hX hxs rX r hb) fun e he hb' => ?_
 subst hb'
 exact notIn_listAt e i.isList he (h s.toks)
end
end Mine
end
noncomputable section
namespace Mine
open PySem PySem.SeqAt
section
variable {c : Cx} {A : Around} {hp : List (Addr × O)}
theorem truth_bool {b : Bool} : TruthV c A hp (.bool b) b := by
 intro hA Z P s x _ r Q E h
 first | refine Rd.int_elim r fun _ => ?_ | refine Rd.ref_elim r ?_ | refine Rd.str_elim r fun _ => ?_ | refine Rd.bool_elim r ?_ | refine Rd.typ_elim r ?_ | cases r
 exact wpAny_truthy_bool (h s.toks)
theorem truth_int {i : Int} : TruthV c A hp (.int i) (i != 0) := by
 intro hA Z P s x _ r Q E h
 first | refine Rd.int_elim r fun _ => ?_ | refine Rd.ref_elim r ?_ | refine Rd.str_elim r fun _ => ?_ | refine Rd.bool_elim r ?_ | refine Rd.typ_elim r ?_ | cases r
 exact PySem.P.truthy_int (h s.toks)
theorem truth_lst {xs : List V} {b : Bool} (hb : b = !xs.isEmpty) (hl : xs.length ≤ sizeLine) : TruthV c A hp (.lst xs) b := by
 intro hA Z P s x _ r Q E h
 refine Rd.lst_elim r fun a items z i r => ?_
 have l := r.length
 simp only [Array.length_toList] at l
 refine wpAny_truthy_list i.isList (by rw [sizeLine_eq] at hl; omega) ?_
 have e : (!items.isEmpty) = b := by
  rw [hb]
  cases xs with
  | nil =>
   have : items.size = 0 := by simpa using l.symm
   simp [Array.isEmpty, this]
  | cons y ys =>
   have : items.size ≠ 0 := by rw [← l]; simp
   simp [Array.isEmpty, this]
 rw [e]
 exact h _
theorem truth_own {a : Addr} {xs : List V} {b : Bool} (ha : (a, O.lst xs) ∈ hp) (hb : b = !xs.isEmpty) (hl : xs.length ≤ sizeLine) : TruthV c A hp (.ref a) b := by
 intro hA Z P s x H r Q E h
 first | refine Rd.int_elim r fun _ => ?_ | refine Rd.ref_elim r ?_ | refine Rd.str_elim r fun _ => ?_ | refine Rd.bool_elim r ?_ | refine Rd.typ_elim r ?_ | cases r
 refine E12 ((H.obj a _ ha).1) fun items hi r => ?_
 have l := r.length
 simp only [Array.length_toList] at l
 refine wpAny_truthy_list hi.isList (by rw [sizeLine_eq] at hl; omega) ?_
 have e : (!items.isEmpty) = b := by
  rw [hb]
  cases xs with
  | nil =>
   have : items.size = 0 := by simpa using l.symm
   simp [Array.isEmpty, this]
  | cons y ys =>
   have : items.size ≠ 0 := by rw [← l]; simp
   simp [Array.isEmpty, this]
 rw [e]
 exact h _
theorem bin_add_int {i j : Int} : BinV c A hp .Add (.int i) (.int j) (.int (i + j)) := by
 intro hA Z P s x y _ rX rY
 first | refine Rd.int_elim rX fun _ => ?_ | refine Rd.ref_elim rX ?_ | refine Rd.str_elim rX fun _ => ?_ | refine Rd.bool_elim rX ?_ | refine Rd.typ_elim rX ?_ | cases rX
 first | refine Rd.int_elim rY fun _ => ?_ | refine Rd.ref_elim rY ?_ | refine Rd.str_elim rY fun _ => ?_ | refine Rd.bool_elim rY ?_ | refine Rd.typ_elim rY ?_ | cases rY
 exact Res.pure fun Q E h => PySem.P.add_int (h _ _ (.int _ _))
theorem bin_sub_int {i j : Int} : BinV c A hp .Sub (.int i) (.int j) (.int (i - j)) := by
 intro hA Z P s x y _ rX rY
 first | refine Rd.int_elim rX fun _ => ?_ | refine Rd.ref_elim rX ?_ | refine Rd.str_elim rX fun _ => ?_ | refine Rd.bool_elim rX ?_ | refine Rd.typ_elim rX ?_ | cases rX
 first | refine Rd.int_elim rY fun _ => ?_ | refine Rd.ref_elim rY ?_ | refine Rd.str_elim rY fun _ => ?_ | refine Rd.bool_elim rY ?_ | refine Rd.typ_elim rY ?_ | cases rY
 exact Res.pure fun Q E h => PySem.P.sub_int (h _ _ (.int _ _))
theorem bin_add_lst {xs ys : List V} (hsz : xs.length + ys.length ≤ sizeLine) : BinV c A hp .Add (.lst xs) (.lst ys) (.lst (xs ++ ys)) := by
 intro hA Z P s x y _ rX rY
 cases rX with | lst z1 i1 r1 => cases rY with | lst z2 i2 r2 =>
 rename_i a1 items1 a2 items2
 intro Q E h
 have l1 := r1.length
 have l2 := r2.length
 simp only [Array.length_toList] at l1 l2
 obtain ⟨n1, ho1⟩ := i1
 obtain ⟨n2, ho2⟩ := i2
 have hk := Kp.push s.heap { cls := .type "list", data := .seq (items1 ++ items2) }
 refine PySem.P.add_list ho1 ho2 (h _ _ s.toks s.drawn (fun b => b = s.heap.objs.size) hk new_one (.lst (.inr rfl) ⟨0, Heap.get?_push_size _ rfl⟩ ?_)) (by omega)
 simpa using (r1.append r2).keep (fun _ z => .inl z) (fun b o _ e => hk b o e)
theorem cmp_lt_int {i j : Int} : CmpV c A hp .Lt (.int i) (.int j) (decide (i < j)) := by
 intro hA Z P s x y _ rX rY Q E h
 first | refine Rd.int_elim rX fun _ => ?_ | refine Rd.ref_elim rX ?_ | refine Rd.str_elim rX fun _ => ?_ | refine Rd.bool_elim rX ?_ | refine Rd.typ_elim rX ?_ | cases rX
 first | refine Rd.int_elim rY fun _ => ?_ | refine Rd.ref_elim rY ?_ | refine Rd.str_elim rY fun _ => ?_ | refine Rd.bool_elim rY ?_ | refine Rd.typ_elim rY ?_ | cases rY
 exact PySem.P.lt_int (h s.toks)
theorem cmp_gt_int {i j : Int} : CmpV c A hp .Gt (.int i) (.int j) (decide (i > j)) := by
 intro hA Z P s x y _ rX rY Q E h
 first | refine Rd.int_elim rX fun _ => ?_ | refine Rd.ref_elim rX ?_ | refine Rd.str_elim rX fun _ => ?_ | refine Rd.bool_elim rX ?_ | refine Rd.typ_elim rX ?_ | cases rX
 first | refine Rd.int_elim rY fun _ => ?_ | refine Rd.ref_elim rY ?_ | refine Rd.str_elim rY fun _ => ?_ | refine Rd.bool_elim rY ?_ | refine Rd.typ_elim rY ?_ | cases rY
 exact PySem.P.gt_int (h s.toks)
theorem cmp_is_typ {m n : String} : CmpV c A hp .Is (.typ m) (.typ n) (m == n) := by
 intro hA Z P s x y _ rX rY Q E h
 first | refine Rd.int_elim rX fun _ => ?_ | refine Rd.ref_elim rX ?_ | refine Rd.str_elim rX fun _ => ?_ | refine Rd.bool_elim rX ?_ | refine Rd.typ_elim rX ?_ | cases rX
 first | refine Rd.int_elim rY fun _ => ?_ | refine Rd.ref_elim rY ?_ | refine Rd.str_elim rY fun _ => ?_ | refine Rd.bool_elim rY ?_ | refine Rd.typ_elim rY ?_ | cases rY
 have e : (Value.type m == Value.type n) = (m == n) := by
  by_cases h : m = n
  ·subst h; rw [beq_self_eq_true, beq_self_eq_true]
  ·have h1 : ¬ (Value.type m = Value.type n) := fun e => h (Value.type.inj e)
   rw [beq_false_of_ne h, beq_false_of_ne h1]
 refine wpAny_is_plain (by rfl) ?_
 rw [e]; exact h s.toks
end
end Mine
end
noncomputable section
namespace Mine
open PySem PySem.SeqAt
section
variable {c : Cx} {A : Around} {hp : List (Addr × O)}
theorem bin_mod_int {i j : Int} (hj : j ≠ 0) : BinV c A hp .Mod (.int i) (.int j) (.int (i.fmod j)) := by
 intro hA Z P s x y _ rX rY
 first | refine Rd.int_elim rX fun _ => ?_ | refine Rd.ref_elim rX ?_ | refine Rd.str_elim rX fun _ => ?_ | refine Rd.bool_elim rX ?_ | refine Rd.typ_elim rX ?_ | cases rX
 first | refine Rd.int_elim rY fun _ => ?_ | refine Rd.ref_elim rY ?_ | refine Rd.str_elim rY fun _ => ?_ | refine Rd.bool_elim rY ?_ | refine Rd.typ_elim rY ?_ | cases rY
 exact Res.pure fun Q E h => PyProof.Rows.mod_int hj (h _ _ (.int _ _))
theorem gip {s : Shared} {v : Value} {T id : String} {Q : Bool → Shared → Prop} {E : Value → Shared → Prop} (hT : s.TypeIs v T) (hl : typeLookup (.type T) "__getitem__" = pure (some (.builtin id))) (hv : v ≠ .builtin "sys.modules#opaque") (h : Q false s) :
  wpAny c.M A (getitemInPython v) Q E s := by
 rw [getitemInPython_of_ne hv]
 exact wpAny_bind (wpAny_specialOf hT hl (wpAny_pure h))
theorem item_tup {xs : List V} {i : Int} {r : V} (h0 : 0 ≤ i) (h1 : i < 2 ^ 62) (hr : xs[i.toNat]? = some r) : ItemV c A hp (.tup xs) (.int i) r := by
 intro hA Z P s x y _ rX rY
 refine Rd.tup_elim rX fun a items z ht rs => ?_
 refine Rd.int_elim rY fun t => ?_
 refine ⟨fun Q E h => gip (T := "tuple") ht.isTuple.typeIs F.slot_tuple_getitem.lookup (by intro e; cases e) h, ?_⟩
 refine E12 (rs.get _ _ hr) fun v hv rv => ?_
 have hlt : i.toNat < items.size := by
  have := (List.getElem?_eq_some_iff.mp hv).1
  simpa using this
 refine Res.pure fun Q E h => ?_
 obtain ⟨n, ho⟩ := ht
 refine PySem.P.getItem_tuple (k := i.toNat) ho (by omega) (by omega) ?_ (by simpa using hv) (by simpa using h v s.toks rv)
 unfold seqIndex?
 simp only [show ¬ i < 0 by omega, if_false]
 rw [if_pos]
 simp only [Bool.and_eq_true, decide_eq_true_eq]
 omega
theorem item_lst {xs : List V} {i : Int} {r : V} (h0 : 0 ≤ i) (h1 : i < 2 ^ 62) (hr : xs[i.toNat]? = some r) : ItemV c A hp (.lst xs) (.int i) r := by
 intro hA Z P s x y _ rX rY
 refine Rd.lst_elim rX fun a items z ht rs => ?_
 refine Rd.int_elim rY fun t => ?_
 refine ⟨fun Q E h => gip (T := "list") ht.isList.typeIs list_getitem_lookup (by intro e; cases e) h, ?_⟩
 refine E12 (rs.get _ _ hr) fun v hv rv => ?_
 refine Res.pure fun Q E h => ?_
 exact wpAny_getItem_list ht.isList h0 (by omega) (by simpa using hv) (by simpa using h v s.toks rv)
theorem item_own {a : Addr} {xs : List V} {i : Int} {r : V} (ha : (a, O.lst xs) ∈ hp) (h0 : 0 ≤ i) (h1 : i < 2 ^ 62) (hr : xs[i.toNat]? = some r) : ItemV c A hp (.ref a) (.int i) r := by
 intro hA Z P s x y H rX rY
 first | refine Rd.int_elim rX fun _ => ?_ | refine Rd.ref_elim rX ?_ | refine Rd.str_elim rX fun _ => ?_ | refine Rd.bool_elim rX ?_ | refine Rd.typ_elim rX ?_ | cases rX
 first | refine Rd.int_elim rY fun _ => ?_ | refine Rd.ref_elim rY ?_ | refine Rd.str_elim rY fun _ => ?_ | refine Rd.bool_elim rY ?_ | refine Rd.typ_elim rY ?_ | cases rY
 refine E12 ((H.obj a _ ha).1) fun items ht rs => ?_
 refine ⟨fun Q E h => gip (T := "list") ht.isList.typeIs list_getitem_lookup (by intro e; cases e) h, ?_⟩
 refine E12 (rs.get _ _ hr) fun v hv rv => ?_
 refine Res.pure fun Q E h => ?_
 exact wpAny_getItem_list ht.isList h0 (by omega) (by simpa using hv) (by simpa using h v s.toks rv)
noncomputable def dget (es : List (Str × V)) (k : Str) : Option V := (es.find? fun e => decide (e.1 = k)).map (·.2)
theorem dget_cons (e : Str × V) (es : List (Str × V)) (k : Str) : dget (e :: es) k = if e.1 = k then some e.2 else dget es k := by
 unfold dget
 rw [List.find?_cons]
 by_cases h : e.1 = k <;> simp [h]
theorem valueAt_cons {K : Type} [DecidableEq K] (e : K × Value) (kvs : List (K × Value)) (k : K) : valueAt (e :: kvs) k = if e.1 = k then some e.2 else valueAt kvs k := by
 unfold valueAt
 rw [List.find?_cons]
 by_cases h : e.1 = k <;> simp [h]
theorem dget_rd {c : Cx} {Z : Addr → Prop} {h : Heap} : ∀ {es : List (Str × V)} {kvs : List (Str × Value)}, kvs.map (·.1) = es.map (·.1) → RdL c Z h (es.map (·.2)) (kvs.map (·.2)) → ∀ k,
  (dget es k = none ∧ valueAt kvs k = none) ∨ (∃ X v, dget es k = some X ∧ valueAt kvs k = some v ∧ Rd c Z h X v)
 | [], [], _, _, k => .inl ⟨rfl, rfl⟩
 | [], _ :: _, e, _, _ => by simp at e
 | _ :: _, [], e, _, _ => by simp at e
 | (k1, X) :: es, (k2, v) :: kvs, e, r, k => by
  simp only [List.map_cons, List.cons.injEq] at e
  obtain ⟨e1, e2⟩ := e
  subst e1
  simp only [List.map_cons] at r
  cases r with | cons r1 r2 =>
  rw [dget_cons, valueAt_cons]
  by_cases h : k2 = k
  ·simp only [h, if_true]; exact .inr (I23 X v rfl rfl r1)
  ·simp only [h, if_false]; exact dget_rd e2 r2 k
theorem isSome_dget {c : Cx} {Z : Addr → Prop} {h : Heap} {es : List (Str × V)} {kvs : List (Str × Value)} (e : kvs.map (·.1) = es.map (·.1)) (r : RdL c Z h (es.map (·.2)) (kvs.map (·.2))) (k : Str) : (valueAt kvs k).isSome = (dget es k).isSome := by
 rcases dget_rd e r k with ⟨h1, h2⟩ | ⟨X, v, h1, h2, _⟩ <;> simp [h1, h2]
theorem cmp_in_dct {k : Str} {es : List (Str × V)} : CmpV c A hp .In (.str k) (.dct es) (dget es k).isSome := by
 intro hA Z P s x y _ rX rY Q E h
 refine Rd.str_elim rX fun t => ?_
 refine Rd.dct_elim rY fun a kvs ep z hs hd e r => ?_
 refine wpAny_in_of (knd := c.K) (strKind_is _ _ k t) hs hd.dictOf.mapOf ?_
 rw [isSome_dget e r]; exact h _
theorem cmp_in_odct {a : Addr} {k : Str} {es : List (Str × V)} (ha : (a, O.dct es) ∈ hp) : CmpV c A hp .In (.str k) (.ref a) (dget es k).isSome := by
 intro hA Z P s x y H rX rY Q E h
 refine Rd.str_elim rX fun t => ?_
 refine Rd.ref_elim rY ?_
 refine E24 ((H.obj a _ ha).1) fun kvs ep hs hd e r => ?_
 refine wpAny_in_of (knd := c.K) (strKind_is _ _ k t) hs hd.dictOf.mapOf ?_
 rw [isSome_dget e r]; exact h _
theorem cmp_notin_odct {a : Addr} {k : Str} {es : List (Str × V)} (ha : (a, O.dct es) ∈ hp) : CmpV c A hp .NotIn (.str k) (.ref a) (!(dget es k).isSome) := by
 intro hA Z P s x y H rX rY Q E h
 refine Rd.str_elim rX fun t => ?_
 refine Rd.ref_elim rY ?_
 refine E24 ((H.obj a _ ha).1) fun kvs ep hs hd e r => ?_
 refine wpAny_notIn_of (knd := c.K) (strKind_is _ _ k t) hs hd.dictOf.mapOf ?_
 rw [isSome_dget e r]; exact h _
theorem item_dct {k : Str} {es : List (Str × V)} {X : V} (hX : dget es k = some X) : ItemV c A hp (.dct es) (.str k) X := by
 intro hA Z P s x y _ rX rY
 refine Rd.str_elim rY fun t => ?_
 refine Rd.dct_elim rX fun a kvs ep z hs hd e r => ?_
 refine ⟨fun Q E h => gip (T := "dict") hd.dictOf.typeIs F.slot_dict_getitem.lookup (by intro e; cases e) h, ?_⟩
 rcases dget_rd e r k with ⟨h1, h2⟩ | ⟨X', v, h1, h2, rv⟩
 ·rw [hX] at h1; cases h1
 ·rw [hX] at h1; cases h1
  exact Res.pure fun Q E h => wpAny_getItem_of (knd := c.K) (strKind_is _ _ k t) hd.dictOf.mapOf h2 (h _ _ rv)
theorem item_odct {a : Addr} {k : Str} {es : List (Str × V)} {X : V} (ha : (a, O.dct es) ∈ hp) (hX : dget es k = some X) : ItemV c A hp (.ref a) (.str k) X := by
 intro hA Z P s x y H rX rY
 refine Rd.str_elim rY fun t => ?_
 refine Rd.ref_elim rX ?_
 refine E24 ((H.obj a _ ha).1) fun kvs ep hs hd e r => ?_
 refine ⟨fun Q E h => gip (T := "dict") hd.dictOf.typeIs F.slot_dict_getitem.lookup (by intro e; cases e) h, ?_⟩
 rcases dget_rd e r k with ⟨h1, h2⟩ | ⟨X', v, h1, h2, rv⟩
 ·rw [hX] at h1; cases h1
 ·rw [hX] at h1; cases h1
  exact Res.pure fun Q E h => wpAny_getItem_of (knd := c.K) (strKind_is _ _ k t) hd.dictOf.mapOf h2 (h _ _ rv)
end
end Mine
end
noncomputable section
namespace Mine
open PySem PySem.SeqAt
theorem All2.perm {α β : Type} {R : α → β → Prop} {l l' : List α} (p : List.Perm l' l) : ∀ {ks : List β}, All2 R l ks → ∃ ks', All2 R l' ks' ∧ ks'.Perm ks := by
 induction p with
 | nil => intro ks h; exact (I12 ks h (.refl _))
 | cons x _ ih =>
  intro ks h
  cases h with | cons a b =>
  refine E12 (ih b) fun ks' h1 h2 => ?_
  exact (I12 (_ :: ks') (.cons a h1) (h2.cons _))
 | swap x y l =>
  intro ks h
  cases h with | cons a b => cases b with | cons a' b' =>
  exact (I12 (_ :: _ :: _) (.cons a' (.cons a b')) (.swap _ _ _))
 | trans _ _ ih1 ih2 =>
  intro ks h
  refine E12 (ih2 h) fun k1 h1 p1 => ?_
  refine E12 (ih1 h1) fun k2 h2 p2 => ?_
  exact (I12 k2 h2 (p2.trans p1))
theorem All2.mem {α β : Type} {R : α → β → Prop} {l : List α} {ks : List β} (h : All2 R l ks) {a : α} (ha : a ∈ l) : ∃ b ∈ ks, R a b := by
 induction h with
 | nil => cases ha
 | cons r _ ih =>
  rcases List.mem_cons.mp ha with rfl | ha
  ·exact (I12 _ (.head _) r)
  ·refine E12 (ih ha) fun b hb hr => ?_; exact (I12 b (.tail _ hb) hr)
theorem All2.mem' {α β : Type} {R : α → β → Prop} {l : List α} {ks : List β} (h : All2 R l ks) {b : β} (hb : b ∈ ks) : ∃ a ∈ l, R a b := by
 induction h with
 | nil => cases hb
 | cons r _ ih =>
  rcases List.mem_cons.mp hb with rfl | hb
  ·exact (I12 _ (.head _) r)
  ·refine E12 (ih hb) fun a ha hr => ?_; exact (I12 a (.tail _ ha) hr)
noncomputable def SE (c : Cx) (e : Int × Value) (k : Str) : Prop := c.K.is k e.2 = true ∧ e.1 = c.K.hash k ∧ e.2.scannable = true
section
variable {c : Cx} {A : Around} {s : Shared} {E : Value → Shared → Prop}
theorem elems_of {es : List (Int × Value)} {ks : List Str} (h : All2 (SE c) es ks) : ElemsOf c.K es := fun e he => by
 refine E14 (h.mem he) fun k _ h1 h2 h3 => ?_
 exact ⟨(I12 k h1 h2), h3⟩
theorem mem_keys {es : List (Int × Value)} {ks : List Str} (h : All2 (SE c) es ks) (k : Str) : k ∈ ks ↔ ∃ e ∈ es, c.K.is k e.2 = true := by
 constructor
 ·intro hk; refine E13 (h.mem' hk) fun e he h1 _ => ?_; exact (I12 e he h1)
 ·refine R12 fun e he hk => ?_
  refine E13 (h.mem he) fun k' hk' h1 _ => ?_
  rwa [c.K.inj _ _ _ hk h1]
open Classical in
theorem SetL.setOf {h : Heap} {a : Addr} {xs : List Str} (x : SetL c h a xs) : h.SetOf c.K a (fun k => decide (k ∈ xs)) xs.length := by
 refine E59 x fun o es ep t ks h1 h2 h3 h4 h5 h6 h7 h8 _ => ?_; clear x
 refine (I48 o es ep t h1 h2 h3 (elems_of h4) (fun k => ?_) h7 h8 ?_)
 ·rw [decide_eq_true_eq, ← h5.mem_iff]; exact mem_keys h4 k
 ·rw [← h5.length_eq, ← h4.length]; simp
theorem SetL.typeIs {a : Addr} {xs : List Str} (x : SetL c s.heap a xs) : s.TypeIs (.ref a) "set" := x.setOf.typeIs
theorem layNew_led (t : SetTable) (es : Array (Int × Value)) (h : Int) (x : Value) : (layNew t es h x).2.1.led = t.led := by
 unfold layNew
 split
 ·dsimp only [SetTable.put, SetTable.orStandIn]; (repeat' split) <;> rfl
 ·rfl
theorem relayAll_led (t : SetTable) (es : Array (Int × Value)) (n : Nat) : (relayAll t es n).2.1.led = t.led := by
 unfold relayAll
 split
 ·rename_i t' order e
  dsimp only
  split
  ·unfold SetTable.relaid SetTable.laid at e
   simp only [Option.bind_eq_bind, Option.bind_eq_some_iff] at e
   refine E12 e fun _ _ e => ?_
   simp only [Option.pure_def, Option.some.injEq, Prod.mk.injEq] at e
   rw [← e.1]
  ·rfl
 ·rfl
theorem relayAll_plain (t : SetTable) (es : Array (Int × Value)) (n : Nat) (ht : t.plain = false) : (relayAll t es n).2.1.plain = false := by
 unfold relayAll
 split
 ·rename_i t' order e
  dsimp only
  split
  ·unfold SetTable.relaid SetTable.laid at e
   simp only [Option.bind_eq_bind, Option.bind_eq_some_iff] at e
   refine E12 e fun _ _ e => ?_
   simp only [Option.pure_def, Option.some.injEq, Prod.mk.injEq] at e
   rw [← e.1]; exact ht
  ·rfl
 ·rfl
theorem storeSetL {a : Addr} {o : Obj} {es : Array (Int × Value)} {ep : Nat} {t : SetTable} {es' : Array (Int × Value)} {t' : SetTable} {ks xs : List Str} {Q : Unit → Shared → Prop}
  (ho : s.heap.get? a = some o) (hex : o.ExactSet) (hd : o.data = .set es ep t) (h4 : All2 (SE c) es'.toList ks) (h5 : ks.Perm xs) (h6 : xs.Nodup) (h7 : es'.size < scanBound) (h8 : t'.fits es'.size = true)
  (h9 : t'.led = true ∨ c.w.params.followText "set-order" = true) (h10 : es'.size ≠ 0 → t'.plain = false)
  (h : ∀ h' o', Heap.SameBut a s.heap h' → h'.get? a = some o' → o'.ExactSet → (∃ n, o'.data = .set es' n t') → SetL c h' a xs → Q () { s with heap := h' }) : wpAny c.M A (storeSet a es' t') Q E s := by
 have hz : es'.size ≤ sizeLine := fits_of_scanBound h7
 refine wpAny_storeSet_of ho hd ?_ hz
 have hg : (s.heap.update a (Obj.putSet es' t')).get? a = some { o with data := .set es' (ep + 1) t' } := by
  have := Heap.get?_update_self (Obj.putSet es' t') ho (by rw [putSet_of es' t' hd]; rfl)
  rw [putSet_of es' t' hd] at this; exact this
 exact h _ _ (Heap.SameBut.update ..) hg hex ⟨_, rfl⟩ (I510 _ es' (ep + 1) t' ks hg hex rfl h4 h5 h6 h7 h8 h9 h10)
theorem setAddL {a : Addr} {xs : List Str} {k : Str} {x : Value} {Q : Bool → Shared → Prop} (hkey : c.K.is k x = true) (hsc : x.scannable = true) (hstr : ∃ u, x = .str k u) (hS : SetL c s.heap a xs) (hroom : xs.length + 1 < scanBound)
  (h : ∀ h' b, Heap.SameBut a s.heap h' → SetL c h' a (if k ∈ xs then xs else xs ++ [k]) → Q b { s with heap := h' }) :
  wpAny c.M A (setAddHashed a x (c.K.hash k)) Q E s := by
 refine E510 (id hS) fun o es ep t ks ho hex hd hel hp hnd hb hf hled hpl => ?_
 have hlen : es.size = xs.length := by rw [← hp.length_eq, ← hel.length]; simp
 have hel' := elems_of hel
 unfold setAddHashed setAddHashedIn
 refine wpAny_holding (wpAny_bind (wpAny_setState_of ho hd hf ?_))
 dsimp only
 rw [byScan_of hsc hb hel']
 simp only [↓reduceIte]
 unfold setAddByScan
 refine wpAny_bind ?_
 refine wpAny_bind (wpAny_rule ?_)
 refine wpAny_bind (wpAny_setScan_of hkey ho hd hf hel' ?_)
 cases hr : List.findIdx? (fun e => c.K.is k e.2) es.toList with
 | some j =>
  dsimp only
  refine E12 (List.findIdx?_eq_some_iff_getElem.mp hr) fun hj hpj _ => ?_
  have hk : k ∈ xs := hp.mem_iff.mp ((mem_keys hel k).mpr (I12 _ (List.getElem_mem hj) hpj))
  refine wpAny_pure (wpAny_pure ?_)
  have := h s.heap false (Heap.SameBut.refl a s.heap)
  rw [if_pos hk] at this
  exact this hS
 | none =>
  dsimp only
  have hk : k ∉ xs := by
   intro hk
   refine E12 ((mem_keys hel k).mp (hp.mem_iff.mpr hk)) fun e he h1 => ?_
   have := List.findIdx?_eq_none_iff.mp hr e he
   rw [h1] at this; cases this
  rw [if_neg hk] at h
  have hgw : ∀ (b : Bool) {s₁ : Shared} {Q' : Unit → Shared → Prop}, Q' () s₁ → wpAny c.M A (match b with | true => rule "set.scan.the-table-gave-way" | false => pure ()) Q' E s₁ :=
   fun b s₁ Q' hq => by cases b <;> first | exact wpAny_pure hq | exact wpAny_rule hq
  have hperm := layNew_perm t es (c.K.hash k) x
  have hfits := layNew_fits t es (c.K.hash k) x
  have hled1 := layNew_led t es (c.K.hash k) x
  generalize hL : layNew t es (c.K.hash k) x = L at hperm hfits hled1 ⊢
  obtain ⟨es1, t1, wasDummy, gave⟩ := L
  dsimp only at hperm hfits hled1 ⊢
  rw [Array.toList_push] at hperm
  have hel2 : All2 (SE c) (es.toList ++ [(c.K.hash k, x)]) (ks ++ [k]) := hel.append (.cons (I03 hkey rfl hsc) .nil)
  refine E12 (hel2.perm hperm) fun ks1 hel1 hp1 => ?_
  have hp1' : ks1.Perm (xs ++ [k]) := hp1.trans (hp.append_right _)
  have hnd1 : (xs ++ [k]).Nodup := by
   rw [List.nodup_append]
   exact (I03 hnd (by simp) (by intro a ha b hb; simp at hb; subst hb; intro e; exact hk (e ▸ ha)))
  have hsz1 : es1.size = xs.length + 1 := by rw [← Array.length_toList, hperm.length_eq, List.length_append, Array.length_toList, hlen]; rfl
  have hb1 : es1.size < scanBound := by omega
  refine wpAny_bind (hgw _ ?_)
  have tail : ∀ t2 : SetTable, t2.fits es1.size = true → t2.led = t.led → t2.plain = false → wpAny c.M A (do
    storeSet a es1 t2
    if (!wasDummy && t2.tooFull) = true then do
      (match (relayAll t2 es1 (SetTable.grown es1.size)).2.2 with | true => rule "set.scan.the-table-gave-way" | false => pure ())
      storeSet a (relayAll t2 es1 (SetTable.grown es1.size)).1 (relayAll t2 es1 (SetTable.grown es1.size)).2.1
      pure (some true)
     else pure (some true)) (fun r s' => wpAny c.M A (match r with | some added => pure added | none => setAddHashedIn a x (c.K.hash k) 99999) Q E s') E s := by
   intro t2 hf2 hl2 hpl2
   refine wpAny_bind (storeSetL ho hex hd hel1 hp1' hnd1 hb1 hf2 (hl2 ▸ hled) (fun _ => hpl2) fun h' o' hsb ho' hex' hd' hS' => ?_)
   obtain ⟨n', hd'⟩ := hd'
   split
   ·have hp2 := relayAll_perm t2 es1 (SetTable.grown es1.size)
    have hfr := relayAll_fits t2 es1 (SetTable.grown es1.size)
    have hlr := relayAll_led t2 es1 (SetTable.grown es1.size)
    have hpr := relayAll_plain t2 es1 (SetTable.grown es1.size) hpl2
    generalize relayAll t2 es1 (SetTable.grown es1.size) = Rl at hp2 hfr hlr hpr ⊢
    obtain ⟨es2, t3, gave2⟩ := Rl
    dsimp only at hp2 hfr hlr hpr ⊢
    refine E12 (hel1.perm hp2) fun ks2 hel2 hp2' => ?_
    have hsz : es2.size = es1.size := by rw [← Array.length_toList, hp2.length_eq, Array.length_toList]
    refine wpAny_bind (hgw _ ?_)
    refine wpAny_bind (storeSetL ho' hex' hd' hel2 (hp2'.trans hp1') hnd1 (by omega) hfr (by rw [hlr, hl2]; exact hled) (fun _ => hpr) fun h'' o'' hsb'' ho'' hex'' hd'' hS'' => ?_)
    exact wpAny_pure (wpAny_pure (h h'' true (hsb.trans hsb'') hS''))
   ·exact wpAny_pure (wpAny_pure (h h' true hsb hS'))
  obtain ⟨u, rfl⟩ := hstr
  split
  ·rename_i hpl1
   refine wpAny_bind ?_
   rw [hashByValue_scannable 8 hsc]
   refine wpAny_pure ?_
   simp only [plainKind, Bool.false_eq_true, ↓reduceIte]
   exact tail _ (SetTable.fits_plain_off hfits) hled1 rfl
  ·rename_i hpl1
   refine wpAny_bind (wpAny_pure ?_)
   simp only [↓reduceIte]
   exact tail _ hfits hled1 (by simpa using hpl1)
end
end Mine
end
noncomputable section
namespace Mine
open PySem PySem.SeqAt
section
variable {c : Cx} {A : Around} {env : Env} {σ : St}
theorem wSs_nil {k : FV → St → Prop} (h : k .next σ) : WSs c A env σ [] k := by
 refine WP.mk fun hA Z P s R => ?_
 exact wpAny_execs_nil (fin_mk (Step.refl ..) R .next h)
noncomputable def thenS (c : Cx) (A : Around) (env : Env) (rest : List Stmt) (k : FV → St → Prop) (f : FV) (σ : St) : Prop :=
 match f with
 | .next => WSs c A env σ rest k
 | f => k f σ
theorem wSs_cons {st : Stmt} {rest : List Stmt} {k : FV → St → Prop} (h : WS c A env σ st (thenS c A env rest k)) : WSs c A env σ (st :: rest) k := by
 refine WP.mk fun hA Z P s R => ?_
 refine wpAny_execs_cons (wp_then h hA R fun Z₁ h₁ tk₁ dr₁ f' σ₁ f S₁ R₁ rf k₁ => ?_)
 cases rf with
 | next => exact wpAny_mono (k₁.run hA Z₁ P _ R₁) (fun _ _ f => Fin.after S₁ f) fun _ _ x => x
 | brk => exact (fin_mk S₁ R₁ .brk k₁)
 | cont => exact (fin_mk S₁ R₁ .cont k₁)
 | ret r => exact (fin_mk S₁ R₁ (.ret r) k₁)
theorem wS_If {t : Expr} {b o : List Stmt} {pos : Pos} {k : FV → St → Prop} (h : WT c A env σ t fun x σ₁ => if x then WSs c A env σ₁ b k else WSs c A env σ₁ o k) : WS c A env σ (.If t b o pos) k := by
 refine WP.mk fun hA Z P s R => ?_
 refine wpAny_If (wp_thenB h hA R fun Z₁ h₁ tk₁ dr₁ x σ₁ S₁ R₁ k₁ => ?_)
 cases x with
 | true => exact wpAny_mono (k₁.run hA Z₁ P _ R₁) (fun _ _ f => Fin.after S₁ f) fun _ _ x => x
 | false => exact wpAny_mono (k₁.run hA Z₁ P _ R₁) (fun _ _ f => Fin.after S₁ f) fun _ _ x => x
theorem wS_Return {e : Expr} {pos : Pos} {k : FV → St → Prop} (h : WE c A env σ e fun X σ₁ => k (.ret X) σ₁) : WS c A env σ (.Return (some e) pos) k := by
 refine WP.mk fun hA Z P s R => ?_
 refine wpAny_Return_some (wp_then h hA R fun Z₁ h₁ tk₁ dr₁ X σ₁ v S₁ R₁ r₁ k₁ => ?_)
 exact (fin_mk S₁ R₁ (.ret r₁) k₁)
theorem wS_Continue {pos : Pos} {k : FV → St → Prop} (h : k .cont σ) : WS c A env σ (.Continue pos) k := by
 refine WP.mk fun hA Z P s R => ?_
 show wpAny _ _ (do standAt pos; pure Flow.cont) _ _ s
 exact wpAny_bind (wpAny_standAt (wpAny_pure (fin_mk (Step.refl ..) R .cont h)))
theorem wS_Break {pos : Pos} {k : FV → St → Prop} (h : k .brk σ) : WS c A env σ (.Break pos) k := by
 refine WP.mk fun hA Z P s R => ?_
 show wpAny _ _ (do standAt pos; pure Flow.brk) _ _ s
 exact wpAny_bind (wpAny_standAt (wpAny_pure (fin_mk (Step.refl ..) R .brk h)))
theorem wS_Expr {e : Expr} {pos : Pos} {k : FV → St → Prop} (h : WE c A env σ e fun _ σ₁ => k .next σ₁) (hs : swapsWith e none pos.line env = pure false := by rfl) : WS c A env σ (.Expr e pos) k := by
 refine WP.mk fun hA Z P s R => ?_
 have hi : interactive env = false := by unfold interactive; rw [R.fn]; rfl
 refine wpAny_Expr_any (wp_then h hA R fun Z₁ h₁ tk₁ dr₁ X σ₁ v S₁ R₁ r₁ k₁ => ?_) hi hs
 exact (fin_mk S₁ R₁ .next k₁)
theorem exec_Assign1 (t value : Expr) (pos : Pos) (hs : swapsWith value (some t) pos.line env = pure false) (hsw : swappedStores [t] value env = pure none)
  (hte : (assignEach [t] env).map (·.2) = [assign t env]) :
  exec (.Assign [t] value pos) env = (do standAt pos; let v ← eval value env; assign t env v; pure .next) := by
 show (do
  standAt pos
  if ← swapsWithSole [t] value pos.line env then do
   evalThenUse value env fun v => assignAll v ((assignEach [t] env).map (fun x : Bool × (Value → Sem Unit) => x.2))
   pure Flow.next
  else do
   let v ← eval value env
   assignStores env v (← swappedStores [t] value env) ((assignEach [t] env).map (fun x : Bool × (Value → Sem Unit) => x.2))) = _
 rw [show swapsWithSole [t] value pos.line env = swapsWith value (some t) pos.line env from rfl, hs, hsw, hte]
 rfl
theorem wS_Assign {t value : Expr} {pos : Pos} {k : FV → St → Prop} (h : WE c A env σ value fun X σ₁ => WA c A env σ₁ t X fun σ₂ => k .next σ₂)
  (hs : swapsWith value (some t) pos.line env = pure false := by rfl) (hsw : swappedStores [t] value env = pure none := by rfl)
  (hte : (assignEach [t] env).map (·.2) = [assign t env] := by rfl) : WS c A env σ (.Assign [t] value pos) k := by
 refine WP.mk fun hA Z P s R => ?_
 show wpAny _ _ (exec _ _) _ _ _
 rw [exec_Assign1 t value pos hs hsw hte]
 refine wpAny_bind (wpAny_standAt (wpAny_bind (wp_then h hA R fun Z₁ h₁ tk₁ dr₁ X σ₁ v S₁ R₁ r₁ k₁ => ?_)))
 refine wpAny_bind (wa_then k₁ hA R₁ r₁ fun Z₂ h₂ tk₂ dr₂ σ₂ S₂ R₂ k₂ => ?_)
 exact wpAny_pure (fin_mk (S₁.trans S₂) R₂ .next k₂)
noncomputable def WAs (c : Cx) (A : Around) (env : Env) (σ : St) (ts : List Expr) (Xs : List V) (k : St → Prop) : Prop :=
 AOk A → ∀ Z P s vs, Rel c Z P env σ s.heap → RdL c Z s.heap Xs vs → wpAny c.M A (assignInOrder ((assignEach ts env).map (·.2)) vs) (Fin c P env RU (fun _ => k) Z s) (fun _ _ => False) s
theorem wAs_nil {k : St → Prop} (h : k σ) : WAs c A env σ [] [] k := by
 intro hA Z P s vs R r
 cases r
 exact wpAny_pure (fin_mk (b := ()) (Step.refl ..) R trivial h)
theorem wAs_cons {t : Expr} {ts : List Expr} {X : V} {Xs : List V} {k : St → Prop} (h : WA c A env σ t X fun σ₁ => WAs c A env σ₁ ts Xs k)
  (he : assignEach (t :: ts) env = (false, assign t env) :: assignEach ts env := by rfl) : WAs c A env σ (t :: ts) (X :: Xs) k := by
 intro hA Z P s vs R r
 cases r with | cons r1 r2 =>
 rw [he]
 show wpAny _ _ (do holding _ (assign t env _); assignInOrder _ _) _ _ s
 refine wpAny_bind (wpAny_holding (wa_then h hA R r1 fun Z₁ h₁ tk₁ dr₁ σ₁ S₁ R₁ k₁ => ?_))
 exact wpAny_mono (k₁ hA Z₁ P _ _ R₁ (r2.step S₁)) (fun _ _ f => Fin.after S₁ f) fun _ _ x => x
theorem wA_Tuple {ts : List Expr} {n : Nat} {pos : Pos} {Xs : List V} {k : St → Prop} (h : WAs c A env σ ts Xs k) (hn : (assignEach ts env).length = Xs.length := by rfl)
  (hst : (assignEach ts env).findIdx? (·.1) = none := by rfl) : WA c A env σ (.Tuple ts n pos) (.tup Xs) k := by
 intro hA Z P s v R r
 refine Rd.tup_elim r fun a items z ht rs => ?_
 have hl := rs.length
 simp only [Array.length_toList] at hl
 refine wpAny_assign_Tuple hA.handled ht.isTuple (by rw [hn, hl]) hst fun h' he => ?_
 have hk : Kp s.heap h' := fun b o e => he b o (Nat.ne_of_lt (Heap.lt_size e)) e
 have := h hA Z P { s with heap := h' } items.toList (R.kp hk) (rs.kp hk)
 exact wpAny_mono this (fun _ _ f => Fin.after (Step.kp hk) (tk₁ := s.toks) (dr₁ := s.drawn) f) fun _ _ x => x
noncomputable def St.le (σ τ : St) : Prop := (∀ x X, τ.loc.lookup x = some X → σ.loc.lookup x = some X) ∧ (∀ a o, (a, o) ∈ τ.hp → (a, o) ∈ σ.hp) ∧ ((σ.hp.map (·.1)).Nodup → (τ.hp.map (·.1)).Nodup)
theorem Rel.le {Z P : Addr → Prop} {τ : St} {h : Heap} (R : Rel c Z P env σ h) (hle : σ.le τ) : Rel c Z P env τ h :=
 { R with
  vars := fun x X e => R.vars x X (hle.1 x X e)
  hp := ⟨fun a o ha => R.hp.obj a o (hle.2.1 a o ha), hle.2.2 R.hp.nodup⟩
  hpOff := fun a o ha => R.hpOff a o (hle.2.1 a o ha) }
end
end Mine
end
noncomputable section
namespace Mine
open PySem PySem.SeqAt
section
variable {c : Cx} {A : Around} {env : Env} {σ : St} {Z P : Addr → Prop} {h : Heap}
theorem Rel.protect (R : Rel c Z P env σ h) {N : Addr → Prop} (hN : ∀ b, N b → (∃ o, h.get? b = some o) ∧ ¬ Z b ∧ ¬ OwnA env b ∧ ∀ o, (b, o) ∉ σ.hp) : Rel c Z (fun b => P b ∨ N b) env σ h :=
 { R with
  inv := ⟨R.inv.ground, R.inv.exZ, fun b p => p.elim (R.inv.exP b) fun n => (hN b n).1, fun b z p => p.elim (R.inv.off b z) fun n => (hN b n).2.1 z, R.inv.sys, R.inv.top⟩
  freeP := fun x cl h1 h2 => .inl (R.freeP x cl h1 h2)
  own := fun b hb => ⟨(R.own b hb).1, fun p => p.elim (R.own b hb).2 fun n => (hN b n).2.2.1 hb⟩
  hp := ⟨fun a o ha => (I03 ((R.hp.obj a o ha).1) ((R.hp.obj a o ha).2.1) (fun p => p.elim (R.hp.obj a o ha).2.2 fun n => (hN a n).2.2.2 o ha)), R.hp.nodup⟩ }
theorem Rel.unprotect {P' : Addr → Prop} (R : Rel c Z P' env σ h) (hP : ∀ b, P b → P' b) (hf : ∀ x cl, env.kindOf x = some .free → env.cells.lookup x = some cl → P cl) : Rel c Z P env σ h :=
 { R with
  inv := ⟨R.inv.ground, R.inv.exZ, fun b p => R.inv.exP b (hP b p), fun b z p => R.inv.off b z (hP b p), R.inv.sys, R.inv.top⟩
  freeP := hf
  own := fun b hb => ⟨(R.own b hb).1, fun p => (R.own b hb).2 (hP b p)⟩
  hp := ⟨fun a o ha => (I03 ((R.hp.obj a o ha).1) ((R.hp.obj a o ha).2.1) (fun p => (R.hp.obj a o ha).2.2 (hP a p))), R.hp.nodup⟩ }
theorem Rel.but (R : Rel c Z P env σ h) {h' : Heap} {N : Addr → Prop} (hk : ∀ b o, ¬ N b → h.get? b = some o → h'.get? b = some o) (hZ : ∀ b, N b → ¬ Z b) (hO : ∀ b, N b → ¬ OwnA env b) (hH : ∀ b, N b → ∀ o, (b, o) ∉ σ.hp)
  (hP : ∀ b, P b → N b → ∃ o, h'.get? b = some o) (hF : ∀ x cl, env.kindOf x = some .free → env.cells.lookup x = some cl → ¬ N cl) : Rel c Z P env σ h' where
 inv := ⟨fun b o e => ⟨(R.inv.ground b o e).1, hk b o (fun n => hZ b n (R.inv.ground b o e).1) (R.inv.ground b o e).2⟩,
  fun b z => let ⟨o, e⟩ := R.inv.exZ b z; ⟨o, hk b o (fun n => hZ b n z) e⟩,
  fun b p => by
   obtain ⟨o, e⟩ := R.inv.exP b p
   by_cases n : N b
   ·exact hP b p n
   ·exact ⟨o, hk b o n e⟩, R.inv.off, R.inv.sys, R.inv.top⟩
 fn := R.fn
 gl := R.gl
 bl := R.bl
 ns := let ⟨m, o, es, ep, ho, r⟩ := R.ns; (I42 m o es ep (hk _ _ (fun n => hO _ n (.inl rfl)) ho) r)
 cells := fun x hx => let ⟨cl, v, h1, ⟨o, ho, r⟩⟩ := R.cells x hx; (I22 cl v h1 (I12 o (hk _ _ (fun n => hO _ n (.inr (I12 x hx h1))) ho) r))
 inj := R.inj
 cellL := R.cellL
 freeP := R.freeP
 own := R.own
 vars := fun x X e => by
  refine E12 (R.vars x X e) fun v hv r => ?_
  refine (I12 v ?_ (r.keep (fun _ z => z) fun b o z e => hk b o (fun n => hZ b n z) e))
  rcases hv with ⟨k1, m, ⟨o, es, ep, ho, r'⟩, hm1⟩ | ⟨k1, cl, h1, ⟨o, ho, r'⟩⟩
  ·exact .inl (I02 k1 (I12 m (I32 o es ep (hk _ _ (fun n => hO _ n (.inl rfl)) ho) r') hm1))
  ·refine .inr (I02 k1 (I12 cl h1 (I12 o (hk _ _ (fun n => ?_) ho) r')))
   rcases k1 with k1 | k1
   ·exact hO _ n (.inr (I12 x k1 h1))
   ·exact hF x cl k1 h1 n
 hp := ⟨fun a o ha => ⟨(R.hp.obj a o ha).1.keep (fun _ z => z) (fun b o z e => hk b o (fun n => hZ b n z) e) (fun o' e => hk a o' (fun n => hH a n o ha) e), (R.hp.obj a o ha).2⟩, R.hp.nodup⟩
 hpOff := R.hpOff
noncomputable def TurnK (J : St → Prop) (k : FV → St → Prop) (f : FV) (σ : St) : Prop :=
 match f with
 | .next | .cont => ∃ τ, σ.le τ ∧ J τ
 | .brk => k .next σ
 | .ret X => k (.ret X) σ
theorem Rel.freeze {Z P : Addr → Prop} {env : Env} {σ : St} {h : Heap} (R : Rel c Z P env σ h) {N : Addr → Prop} (hN : ∀ b, N b → (∃ o, h.get? b = some o) ∧ ¬ P b ∧ ¬ OwnA env b ∧ ∀ o, (b, o) ∉ σ.hp) : Rel c (fun b => Z b ∨ N b) P env σ h :=
 { R with
  inv := ⟨fun b o e => ⟨.inl (R.inv.ground b o e).1, (R.inv.ground b o e).2⟩, fun b z => z.elim (R.inv.exZ b) fun n => (hN b n).1, R.inv.exP, fun b z p => z.elim (fun z => R.inv.off b z p) fun n => (hN b n).2.1 p, .inl R.inv.sys, R.inv.top⟩
  own := fun b hb => ⟨fun z => z.elim (R.own b hb).1 fun n => (hN b n).2.2.1 hb, (R.own b hb).2⟩
  vars := fun x X e => let ⟨v, hv, r⟩ := R.vars x X e; (I12 v hv (r.more fun _ z => .inl z))
  hp := ⟨fun a o ha => (I03 ((R.hp.obj a o ha).1.keep (fun _ z => .inl z) (fun _ _ _ e => e) (fun _ e => e)) (fun z => z.elim (R.hp.obj a o ha).2.1 fun n => (hN a n).2.2.2 o ha) ((R.hp.obj a o ha).2.2)), R.hp.nodup⟩ }
structure Iter (c : Cx) (A : Around) (target : Expr) (I : Addr) (fp : List Addr) (xs : List V) (Stt : Nat → Heap → Prop) (Z₀ : Addr → Prop) (h₀ : Heap) : Prop where
 frame : ∀ i h h', Stt i h → (∀ b ∈ fp, ∀ o, h.get? b = some o → h'.get? b = some o) → Stt i h'
 ex : ∀ i h, Stt i h → ∃ o, h.get? I = some o
 item : ∀ i X (s : Shared) (Z' : Addr → Prop) (Q : Value → Shared → Prop) (E : Value → Shared → Prop), xs[i]? = some X → Stt i s.heap → (∀ b, Z₀ b → Z' b) → (∀ b o, Z₀ b → h₀.get? b = some o → s.heap.get? b = some o) →
  (∀ v h' tk (N : Addr → Prop), Stt (i + 1) h' → (∀ b o, b ≠ I → s.heap.get? b = some o → h'.get? b = some o) → (∀ b, N b → s.heap.get? b = none ∧ ∃ o, h'.get? b = some o) → Rd c (fun b => Z' b ∨ N b) h' X v → Q v { s with heap := h', toks := tk }) →
  wpAny c.M A (pyNext (.ref I)) (fun r s₁ => match r with | none => False | some v => wpAny c.M A (letOwnedTupleGo target (.ref I) v) (fun _ s₂ => Q v s₂) E s₁) E s
 done : ∀ (s : Shared) (Q : Option Value → Shared → Prop) (E : Value → Shared → Prop), Stt xs.length s.heap → (∀ h' tk, (∀ b o, b ≠ I → s.heap.get? b = some o → h'.get? b = some o) → Q none { s with heap := h', toks := tk }) → wpAny c.M A (pyNext (.ref I)) Q E s
 self : ∀ i (s : Shared) (Q : Value → Shared → Prop) (E : Value → Shared → Prop), Stt i s.heap → Q (.ref I) s → wpAny c.M A (pyIter (.ref I)) Q E s
theorem loop_core {target : Expr} {body : List Stmt} {xs : List V} {I : Addr} {fp : List Addr} {Stt : Nat → Heap → Prop} {H : Addr → Prop} {k : FV → St → Prop} {s : Shared} {σ₀ : St}
  (J : List V → St → Prop) (hA : AOk A) (W : Iter c A target I fp xs Stt Z s.heap)
  (hfp : ∀ b ∈ fp, b = I ∨ Z b ∨ H b) (hHI : ¬ H I)
  (hst : Stt 0 s.heap) (R : Rel c Z P env σ₀ s.heap) (hPI : ¬ P I) (hZI : ¬ Z I) (hOI : ¬ OwnA env I) (hHI' : ∀ o, (I, o) ∉ σ₀.hp)
  (hH : ∀ b, H b → (∃ o, s.heap.get? b = some o) ∧ ¬ Z b ∧ ¬ OwnA env b ∧ ∀ o, (b, o) ∉ σ₀.hp)
  (hj : J xs σ₀)
  (turn : ∀ X rest τ, J (X :: rest) τ → WA c A env τ target X fun τ₁ => WSs c A env τ₁ body (TurnK (J rest) k))
  (done : ∀ τ, J [] τ → k .next τ) :
  codeAny c.M A (.forLoop target (.ref I) body [] env) (fun r s' => match r with | .ok f => ∃ Z' h' tk dr fv τ, s' = { s with heap := h', toks := tk, drawn := dr } ∧ Step Z (fun b => P b ∨ H b) s.heap Z' h' ∧ Rel c Z' (fun b => P b ∨ H b) env τ h' ∧ RF c Z' h' fv f ∧ k fv τ | .error _ => False) s := by
 have hfree := R.freeP
 have hH' : ∀ b, H b → b ≠ I := fun b hb e => hHI (e ▸ hb)
 let P₁ : Addr → Prop := fun b => P b ∨ (b = I ∨ H b)
 have hexI : ∃ o, s.heap.get? I = some o := W.ex 0 _ hst
 have R₁ : Rel c Z P₁ env σ₀ s.heap := R.protect fun b hb => by
  rcases hb with rfl | hb
  ·exact (I04 hexI hZI hOI hHI')
  ·exact hH b hb
 have key := codeAny_forLoop_any (prog := c.prog) (w := c.w) (A := A) (s := s) (target := target) (it := .ref I) (body := body) (orelse := []) (env := env)
  (R := fun r s' => match r with | .ok f => ∃ Z' h' tk dr fv τ, s' = { s with heap := h', toks := tk, drawn := dr } ∧ Step Z (fun b => P b ∨ H b) s.heap Z' h' ∧ Rel c Z' (fun b => P b ∨ H b) env τ h' ∧ RF c Z' h' fv f ∧ k fv τ | .error _ => False)
  (fun n s' => ∃ i Z' h' tk dr τ, n = xs.length + 1 - i ∧ i ≤ xs.length ∧ s' = { s with heap := h', toks := tk, drawn := dr } ∧ Step Z (fun b => P b ∨ H b) s.heap Z' h' ∧ Rel c Z' P₁ env τ h' ∧ Stt i h' ∧ J (xs.drop i) τ)
  ?_ (xs.length + 1) (I67 0 Z s.heap s.toks s.drawn σ₀ rfl (Nat.zero_le _) rfl (Step.refl ..) R₁ hst hj)
 ·exact key
 refine fun n _ => R67 fun i Z' h' tk dr τ z6 hi z8 S' R' hst' hj' => ?_; subst z6; subst z8
 have hPP : ∀ b, (P b ∨ H b) → P₁ b := fun b p => p.elim .inl fun x => .inr (.inr x)
 have hfree' : ∀ x cl, env.kindOf x = some .free → env.cells.lookup x = some cl → P cl ∨ H cl := fun x cl h1 h2 => .inl (hfree x cl h1 h2)
 have offI : ∀ b, b = I → ¬ Z' b := by rintro b rfl z; exact R'.inv.off _ z (.inr (.inl rfl))
 have offO : ∀ b, b = I → ¬ OwnA env b := by rintro b rfl o; exact (R'.own _ o).2 (.inr (.inl rfl))
 have offH : ∀ b, b = I → ∀ o, (b, o) ∉ τ.hp := by rintro b rfl o ho; exact (R'.hp.obj _ o ho).2.2 (.inr (.inl rfl))
 have offF : ∀ x cl, env.kindOf x = some .free → env.cells.lookup x = some cl → ¬ cl = I := fun x cl h1 h2 e => hPI (e ▸ hfree x cl h1 h2)
 have ext : ∀ h₁ : Heap, (∀ b o, b ≠ I → h'.get? b = some o → h₁.get? b = some o) → Step Z (fun b => P b ∨ H b) s.heap Z' h₁ := fun h₁ hk =>
  ⟨S'.grow, fun b o z e => hk b o (by rintro rfl; exact hZI z) (S'.keepZ b o z e), fun b o p e => hk b o (by rintro rfl; exact p.elim hPI hHI) (S'.keepP b o p e)⟩
 by_cases hlt : i < xs.length
 ·obtain ⟨X, hX⟩ : ∃ X, xs[i]? = some X := ⟨xs[i], by simp [hlt]⟩
  refine wpAny_mono (W.item i X _ Z' (fun v s₂ => wpAny c.M A (assign target env v) (fun _ s₃ => wpAny c.M A (execs body env) (fun f s₄ => match f with
      | .next | .cont => ∃ m, m < xs.length + 1 - i ∧ ∃ i' Z' h' tk dr τ, m = xs.length + 1 - i' ∧ i' ≤ xs.length ∧ s₄ = { s with heap := h', toks := tk, drawn := dr } ∧ Step Z (fun b => P b ∨ H b) s.heap Z' h' ∧ Rel c Z' P₁ env τ h' ∧ Stt i' h' ∧ J (xs.drop i') τ
      | .brk => ∃ Z' h' tk dr fv τ, s₄ = { s with heap := h', toks := tk, drawn := dr } ∧ Step Z (fun b => P b ∨ H b) s.heap Z' h' ∧ Rel c Z' (fun b => P b ∨ H b) env τ h' ∧ RF c Z' h' fv .next ∧ k fv τ
      | .ret v => ∃ Z' h' tk dr fv τ, s₄ = { s with heap := h', toks := tk, drawn := dr } ∧ Step Z (fun b => P b ∨ H b) s.heap Z' h' ∧ Rel c Z' (fun b => P b ∨ H b) env τ h' ∧ RF c Z' h' fv (.ret v) ∧ k fv τ) (notedBy c.M A env fun _ _ => False) s₃) (notedBy c.M A env fun _ _ => False) s₂)
    (notedBy c.M A env fun _ _ => False) hX hst' S'.grow S'.keepZ ?_) ?_ fun _ _ x => x
  rotate_left
  ·intro r s₁ hr
   cases r with
   | none => exact hr.elim
   | some v => exact hr
  intro v h₁ tk₁ N hst₁ hk₁ hN rX
  have hkI := W.ex _ _ hst₁
  have R₀ : Rel c Z' P₁ env τ h₁ := R'.but (N := fun b => b = I) (fun b o n e => hk₁ b o n e) offI offO offH (fun b _ n => n ▸ hkI) offF
  have hN' : ∀ b, N b → b ≠ I := fun b hb e => by
   obtain ⟨o, ho⟩ := W.ex _ _ hst'
   have := (hN b hb).1
   rw [e] at this
   rw [show ({ s with heap := h', toks := tk, drawn := dr } : Shared).heap = h' from rfl, ho] at this; cases this
  have hNn : ∀ b, N b → h'.get? b = none := fun b hb => (hN b hb).1
  have R₁' : Rel c (fun b => Z' b ∨ N b) P₁ env τ h₁ := R₀.freeze fun b hb => by
   refine (I04 ((hN b hb).2) (fun p => ?_) (fun o => ?_) (fun o ho => ?_))
   ·obtain ⟨o, e⟩ := R'.inv.exP b p
    rw [hNn b hb] at e; cases e
   ·rcases o with rfl | ⟨x, h1, h2⟩
    ·refine E42 R'.ns fun m o es ep ho _ => ?_
     rw [hNn _ hb] at ho; cases ho
    ·refine E22 (R'.cells x h1) fun cl v h3 z3 => ?_; obtain ⟨o, ho, _⟩ := z3
     rw [h2] at h3; cases h3
     rw [hNn _ hb] at ho; cases ho
   ·obtain ⟨ob, e⟩ := (R'.hp.obj b o ho).1.some
    rw [hNn b hb] at e; cases e
  have S₁ : Step Z (fun b => P b ∨ H b) s.heap (fun b => Z' b ∨ N b) h₁ := let x := ext h₁ hk₁; ⟨fun b z => .inl (x.grow b z), x.keepZ, x.keepP⟩
  have hd : xs.drop i = X :: xs.drop (i + 1) := by
   rw [List.drop_eq_getElem_cons hlt]
   rw [List.getElem?_eq_getElem hlt] at hX; cases hX; rfl
  rw [hd] at hj'
  refine wpAny_mono (turn X _ τ hj' hA _ P₁ { s with heap := h₁, toks := tk₁, drawn := dr } v R₁' rX) ?_ fun _ _ x => x.elim
  refine fun _ _ => R65 fun Z₂ h₂ tk₂ dr₂ _ τ₂ z6 S₂ R₂ _ k₂ => ?_; subst z6
  refine wp_then k₂ hA R₂ fun Z₃ h₃ tk₃ dr₃ fv τ₃ f S₃ R₃ rf k₃ => ?_
  have S₂₃ := S₂.trans S₃
  have hSt : Stt (i + 1) h₃ := W.frame _ _ _ hst₁ fun b hb o e => by
   rcases hfp b hb with rfl | z | hh
   ·exact S₂₃.keepP _ o (.inr (.inl rfl)) e
   ·exact S₂₃.keepZ _ o (.inl (S'.grow b z)) e
   ·exact S₂₃.keepP _ o (.inr (.inr hh)) e
  have S₄ : Step Z (fun b => P b ∨ H b) s.heap Z₃ h₃ := ⟨fun b z => S₂₃.grow b (S₁.grow b z), fun b o z e => S₂₃.keepZ b o (S₁.grow b z) (S₁.keepZ b o z e), fun b o p e => S₂₃.keepP b o (p.elim .inl fun x => .inr (.inr x)) (S₁.keepP b o p e)⟩
  have next : TurnK (J (xs.drop (i + 1))) k .next τ₃ → ∃ m, m < xs.length + 1 - i ∧ ∃ i' Z' h' tk dr τ, m = xs.length + 1 - i' ∧ i' ≤ xs.length ∧ ({ s with heap := h₃, toks := tk₃, drawn := dr₃ } : Shared) = { s with heap := h', toks := tk, drawn := dr } ∧ Step Z (fun b => P b ∨ H b) s.heap Z' h' ∧ Rel c Z' P₁ env τ h' ∧ Stt i' h' ∧ J (xs.drop i') τ := by
   refine R12 fun τ' hle hj => ?_
   exact (I12 (xs.length + 1 - (i + 1)) (by omega) (I67 (i + 1) Z₃ h₃ tk₃ dr₃ τ' rfl hlt rfl S₄ (R₃.le hle) hSt hj))
  cases rf with
  | next => exact next k₃
  | cont => exact next k₃
  | brk => exact (fin_mk S₄ (R₃.unprotect hPP hfree') .next k₃)
  | ret r => exact (fin_mk S₄ (R₃.unprotect hPP hfree') (.ret r) k₃)
 ·have hin : i = xs.length := by omega
  subst hin
  refine W.done _ _ _ hst' fun h₁ tk₁ hk₁ => ?_
  refine wpAny_execs_nil ?_
  have S₁ := ext h₁ hk₁
  rw [List.drop_length] at hj'
  have Rp : Rel c Z' (fun b => P b ∨ H b) env τ h' := R'.unprotect hPP hfree'
  have R₁' : Rel c Z' (fun b => P b ∨ H b) env τ h₁ := Rp.but (N := fun b => b = I) (fun b o n e => hk₁ b o n e) offI offO offH (fun b p n => absurd p (n ▸ fun x => x.elim hPI hHI)) offF
  exact (fin_mk S₁ R₁' .next (done τ hj'))
end
end Mine
end
noncomputable section
namespace Mine
open PySem PySem.SeqAt
noncomputable def plainTarget : Expr → Bool
 | .Name .. => true
 | .Tuple .. => true
 | _ => false
noncomputable def ownTupleIters : List String := ["enumerate", "zip", "dict_itemiterator", "dict_reverseitemiterator", "odict_iterator", "itertools.zip_longest", "itertools.pairwise"]
section
variable {c : Cx} {A : Around}
theorem entry_itemiter_iter : entryFor table "dict_itemiterator.__iter__" = some Builtin.«dict_keyiterator.__iter__» :=
 entryFor_alias (id' := "dict_keyiterator.__iter__") (by kernel_rfl) rfl (by decide +kernel) (by kernel_rfl)
theorem wpAny_pyIter_itemiter {it d : Addr} {i n ep : Nat} {ok ov : Value} {s : Shared} {E : Value → Shared → Prop} {Q : Value → Shared → Prop} (hit : IsItemIter s.heap it d i n ep ok ov) (h : Q (.ref it) s) : wpAny c.M A (pyIter (.ref it)) Q E s := by
 have hT : s.TypeIs (.ref it) "dict_itemiterator" := (I12 _ hit rfl)
 refine wpAny_pyIter_slot hT F.slot_dict_itemiterator_iter (wpAny_call_entry F.slot_dict_itemiterator_iter hT entry_itemiter_iter ?_ (F.args_dict_itemiterator_iter_1 _))
 show wpAny _ _ (ret (.ref it)) _ _ s
 exact wpAny_pure (I12 _ rfl (I23 "dict_itemiterator" _ hT F.slot_dict_itemiterator_next.lookup h))
theorem go_plain {target : Expr} {I : Addr} {v : Value} {s : Shared} {Q : Unit → Shared → Prop} {E : Value → Shared → Prop} {o : Obj} {T : String} (ht : plainTarget target = true) (ho : s.heap.get? I = some o) (hc : o.cls = .type T)
  (hT : ownTupleIters.contains T = false) (h : Q () s) : wpAny c.M A (letOwnedTupleGo target (.ref I) v) Q E s := by
 cases target <;> first | (cases ht; done) | skip
 ·exact wpAny_pure h
 ·unfold letOwnedTupleGo
  cases v <;> try exact wpAny_pure h
  refine wpAny_bind (wpAny_load ho ?_)
  rw [hc]
  cases hd : o.data <;> try exact wpAny_pure h
  dsimp only
  unfold ownTupleIters at hT
  rw [hT]
  simp only [Bool.false_and, Bool.false_eq_true, if_false]
  exact wpAny_pure h
theorem Iter.ofWalks {target : Expr} {I : Addr} {fp : List Addr} {n : Nat} {Pv : Nat → Value → Prop} {Stt : Nat → Heap → Prop} {xs : List V} {Z : Addr → Prop} {h : Heap} {T : String}
  (W : Walks c.prog c.w A I fp [I] n Pv Stt) (hn : n = xs.length) (hI : ∀ i h, Stt i h → ∃ o, h.get? I = some o ∧ o.cls = .type T) (ht : plainTarget target = true) (hT : ownTupleIters.contains T = false)
  (hitem : ∀ i v, Pv i v → ∃ X, xs[i]? = some X ∧ Rd c Z h X v) (hz : ¬ Z I) : Iter c A target I fp xs Stt Z h where
 frame := W.frame
 ex := fun i h st => let ⟨o, ho, _⟩ := hI i h st; ⟨o, ho⟩
 item := fun i X s Z' Q E hX st hZ hk hQ => by
  have hi : i < n := by rw [hn]; exact (List.getElem?_eq_some_iff.mp hX).1
  refine W.item i s _ _ hi st fun v h' tk hv st' hk' => ?_
  refine E12 (hitem i v hv) fun X' hX' r => ?_
  rw [hX] at hX'; cases hX'
  refine E12 (hI _ _ st') fun o ho hc => ?_
  refine go_plain (s := { s with heap := h', toks := tk }) ht ho hc hT (hQ v h' tk (fun _ => False) st' (fun b o hb e => hk' b o (by simpa using hb) e) (fun _ f => f.elim) ?_)
  exact r.keep (fun b z => .inl (hZ b z)) fun b o z e => hk' b o (by simp; rintro rfl; exact hz z) (hk b o z e)
 done := fun s Q E st hQ => W.done s Q E (hn ▸ st) fun h' tk hk' => hQ h' tk fun b o hb e => hk' b o (by simpa using hb) e
 self := W.self
structure Seq (c : Cx) (A : Around) (target : Expr) (Z : Addr → Prop) (s : Shared) (v : Value) (H : Addr → Prop) (xs : List V) : Prop where
 run : ∀ (Q : Value → Shared → Prop) (E : Value → Shared → Prop), (∀ (h' : Heap) (tk : Nat) (dr : Drawn) (I : Addr) (fp : List Addr) (Stt : Nat → Heap → Prop) (ys : List V), Kp s.heap h' → s.heap.get? I = none → (∃ o, h'.get? I = some o) → (∀ b ∈ fp, b = I ∨ Z b ∨ H b) →
   Stt 0 h' → ys.Perm xs → Iter c A target I fp ys Stt Z h' → Q (.ref I) { s with heap := h', toks := tk, drawn := dr }) → wpAny c.M A (pyIter v) Q E s
structure SeqO (c : Cx) (A : Around) (target : Expr) (Z : Addr → Prop) (s : Shared) (v : Value) (H : Addr → Prop) (xs : List V) : Prop where
 run : ∀ (Q : Value → Shared → Prop) (E : Value → Shared → Prop), (∀ (h' : Heap) (tk : Nat) (dr : Drawn) (I : Addr) (fp : List Addr) (Stt : Nat → Heap → Prop), Kp s.heap h' → s.heap.get? I = none → (∃ o, h'.get? I = some o) → (∀ b ∈ fp, b = I ∨ Z b ∨ H b) →
   Stt 0 h' → Iter c A target I fp xs Stt Z h' → Q (.ref I) { s with heap := h', toks := tk, drawn := dr }) → wpAny c.M A (pyIter v) Q E s
theorem SeqO.lst {target : Expr} {Z H : Addr → Prop} {s : Shared} {a : Addr} {xs : List V} {items : Array Value} (hA : AOk A) (ht : plainTarget target = true) (hl : s.heap.IsList a items) (r : RdL c Z s.heap xs items.toList) (hz : Z a ∨ H a) (hZ : ∀ b, Z b → ∃ o, s.heap.get? b = some o) :
  SeqO c A target Z s (.ref a) H xs := ⟨fun Q E hQ => by
 have hne : a ≠ s.heap.objs.size := by
  refine E12 hl fun o ho _ => ?_; clear hl
  exact Nat.ne_of_lt (Heap.lt_size ho)
 refine wpAny_pyIter_list hl (hQ _ s.toks s.drawn s.heap.objs.size [s.heap.objs.size, a] (fun i h => h.IsListIter s.heap.objs.size a i ∧ h.IsList a items) (Kp.push _ _) (fresh_none _ _ (Nat.le_refl _)) ⟨_, Heap.get?_push_size _ rfl⟩ ?_ ⟨(I13 _ (Heap.get?_push_size _ rfl) rfl rfl), hl.push _⟩ ?_)
 ·intro b hb
  rcases List.mem_cons.mp hb with rfl | hb
  ·exact .inl rfl
  ·exact .inr ((List.mem_singleton.mp hb) ▸ hz)
 ·refine Iter.ofWalks (T := "list_iterator") (Walks.list hA.handled _ a hne items) ?_ ?_ ht (by decide) ?_ ?_
  ·have := r.length; simpa using this.symm
  ·rintro i h ⟨⟨o, ho, hc, _⟩, _⟩; exact (I12 o ho hc)
  ·intro i v hv
   refine E12 (r.get' i v (by simpa using hv)) fun X hX rX => ?_
   exact (I12 X hX (rX.kp (Kp.push _ _)))
  ·intro z; obtain ⟨o, ho⟩ := hZ _ z; exact absurd (Heap.lt_size ho) (Nat.lt_irrefl _)⟩
theorem SeqO.tup {target : Expr} {Z H : Addr → Prop} {s : Shared} {a : Addr} {xs : List V} {items : Array Value} (hA : AOk A) (ht : plainTarget target = true) (hl : s.heap.IsTuple a items) (r : RdL c Z s.heap xs items.toList) (hz : Z a ∨ H a) (hZ : ∀ b, Z b → ∃ o, s.heap.get? b = some o) :
  SeqO c A target Z s (.ref a) H xs := ⟨fun Q E hQ => by
 have hne : a ≠ s.heap.objs.size := by
  refine E12 hl fun o ho _ => ?_; clear hl
  exact Nat.ne_of_lt (Heap.lt_size ho)
 refine wpAny_pyIter_tuple hl (hQ _ s.toks s.drawn s.heap.objs.size [s.heap.objs.size, a] (fun i h => h.IsTupleIter s.heap.objs.size a i ∧ h.IsTuple a items) (Kp.push _ _) (fresh_none _ _ (Nat.le_refl _)) ⟨_, Heap.get?_push_size _ rfl⟩ ?_ ⟨(I13 _ (Heap.get?_push_size _ rfl) rfl rfl), hl.push _⟩ ?_)
 ·intro b hb
  rcases List.mem_cons.mp hb with rfl | hb
  ·exact .inl rfl
  ·exact .inr ((List.mem_singleton.mp hb) ▸ hz)
 ·refine Iter.ofWalks (T := "tuple_iterator") (Walks.tuple hA.handled _ a hne items) ?_ ?_ ht (by decide) ?_ ?_
  ·have := r.length; simpa using this.symm
  ·rintro i h ⟨⟨o, ho, hc, _⟩, _⟩; exact (I12 o ho hc)
  ·intro i v hv
   refine E12 (r.get' i v (by simpa using hv)) fun X hX rX => ?_
   exact (I12 X hX (rX.kp (Kp.push _ _)))
  ·intro z; obtain ⟨o, ho⟩ := hZ _ z; exact absurd (Heap.lt_size ho) (Nat.lt_irrefl _)⟩
theorem SeqO.keys {target : Expr} {Z H : Addr → Prop} {s : Shared} {d : Addr} {kvs : List (Str × Value)} {ep : Nat} (hA : A.handled = none) (ht : plainTarget target = true) (hs : (d == sysModules) = false) (hd : s.heap.DictAt c.K d kvs ep) (hz : Z d ∨ H d) (hZ : ∀ b, Z b → ∃ o, s.heap.get? b = some o) :
  SeqO c A target Z s (.ref d) H (kvs.map fun e => V.str e.1) := ⟨fun Q E hQ => by
 have hne : d ≠ s.heap.objs.size := Nat.ne_of_lt hd.lt_size
 refine wpAny_pyIter_dict hs hd (hQ _ s.toks s.drawn s.heap.objs.size [s.heap.objs.size, d] (fun i h => h.IsKeyIter s.heap.objs.size d i kvs.length ep ∧ h.DictAt c.K d kvs ep) (Kp.push _ _) (fresh_none _ _ (Nat.le_refl _)) ⟨_, Heap.get?_push_size _ rfl⟩ ?_ ⟨(I13 _ (Heap.get?_push_size _ rfl) rfl rfl), hd.push _⟩ ?_)
 ·intro b hb
  rcases List.mem_cons.mp hb with rfl | hb
  ·exact .inl rfl
  ·exact .inr ((List.mem_singleton.mp hb) ▸ hz)
 ·refine Iter.ofWalks (T := "dict_keyiterator") (Walks.dictKeys hA _ d hne kvs ep) (by simp) ?_ ht (by decide) ?_ ?_
  ·rintro i h ⟨⟨o, ho, hc, _⟩, _⟩; exact (I12 o ho hc)
  ·refine fun i v => R22 fun k x hx hk => ?_
   refine (I12 (.str k) (by simp [hx]) ?_)
   obtain ⟨t, rfl⟩ := Value.isStrOf_shape hk
   exact .str _ _
  ·intro z; obtain ⟨o, ho⟩ := hZ _ z; exact absurd (Heap.lt_size ho) (Nat.lt_irrefl _)⟩
theorem SeqO.items {elts : List Expr} {n : Nat} {pos : Pos} {Z H : Addr → Prop} {s : Shared} {vw d : Addr} {kvs : List (Str × Value)} {Xs : List V} {ep : Nat} (hA : AOk A) (hv : s.heap.IsItemsView vw d) (hd : s.heap.DictAt c.K d kvs ep)
  (r : RdL c Z s.heap Xs (kvs.map (·.2))) (hz : Z d ∨ H d) (hZ : ∀ b, Z b → ∃ o, s.heap.get? b = some o) :
  SeqO c A (.Tuple elts n pos) Z s (.ref vw) H ((kvs.map (·.1)).zipWith (fun k X => V.tup [.str k, X]) Xs) := ⟨fun Q E hQ => by
 have hne : d ≠ s.heap.objs.size := Nat.ne_of_lt hd.lt_size
 have hl := r.length
 simp only [List.length_map] at hl
 have hlen : ((kvs.map (·.1)).zipWith (fun k X => V.tup [.str k, X]) Xs).length = kvs.length := by simp [hl]
 refine wpAny_pyIter_items hv hd (hQ _ s.toks s.drawn s.heap.objs.size [s.heap.objs.size, d] (fun i h => (∃ ok ov, IsItemIter h s.heap.objs.size d i kvs.length ep ok ov) ∧ h.DictAt c.K d kvs ep) (Kp.push _ _) (fresh_none _ _ (Nat.le_refl _)) ⟨_, Heap.get?_push_size _ rfl⟩ ?_ ⟨(I21 _ _ (Heap.get?_push_size _ rfl)), hd.push _⟩ ?_)
 ·intro b hb
  rcases List.mem_cons.mp hb with rfl | hb
  ·exact .inl rfl
  ·exact .inr ((List.mem_singleton.mp hb) ▸ hz)
 ·have hzI : ¬ Z s.heap.objs.size := fun z => by obtain ⟨o, ho⟩ := hZ _ z; exact absurd (Heap.lt_size ho) (Nat.lt_irrefl _)
  refine ⟨?_, ?_, ?_, ?_, ?_⟩
  ·rintro i h h' ⟨⟨ok, ov, h1⟩, h2⟩ hk
   exact ⟨(I21 ok ov (hk _ (by simp) _ h1)), h2.at' fun o e => hk _ (by simp) _ e⟩
  ·rintro i h ⟨⟨ok, ov, h1⟩, h2⟩; exact ⟨_, h1⟩
  ·rintro i X s' Z' Q' E' hX ⟨⟨ok, ov, h1⟩, h2⟩ hZ' hk' hQ'
   have hi : i < kvs.length := by rw [← hlen]; exact (List.getElem?_eq_some_iff.mp hX).1
   obtain ⟨⟨k, v⟩, hkv⟩ : ∃ p, kvs[i]? = some p := ⟨kvs[i], by simp [hi]⟩
   refine E12 (r.get' i v (by simp [hkv])) fun Y hY rY => ?_
   have eX : X = V.tup [.str k, Y] := by
    rw [List.getElem?_zipWith] at hX
    simp [hkv, hY] at hX
    exact hX.symm
   subst eX
   refine wpAny_pyNext_items_item h1 h2 hkv fun key h' hkey hout htup hsz hk1 => ?_
   refine wpAny_letOwnedTupleGo_items (s := { s' with heap := h' }) hout fun h'' hit'' hs'' => ?_
   have hne' : s'.heap.objs.size ≠ s.heap.objs.size := by
    intro e; have := Heap.lt_size h1; rw [e] at this; exact Nat.lt_irrefl _ this
   have hkeep : ∀ b o, b ≠ s.heap.objs.size → s'.heap.get? b = some o → h''.get? b = some o := fun b o hb e => hs''.extBut b o hb (hk1 b o hb e)
   have ht2 : h''.get? s'.heap.objs.size = some { cls := .type "tuple", data := .seq #[key, v] } := hs''.extBut _ _ hne' htup
   refine hQ' _ h'' s'.toks (fun b => b = s'.heap.objs.size) ⟨(I21 _ _ hit''), h2.at' fun o e => hkeep _ o hne e⟩ hkeep (by rintro b rfl; exact (I02 (fresh_none _ _ (Nat.le_refl _)) (I11 _ ht2))) ?_
   obtain ⟨t, rfl⟩ := Value.isStrOf_shape hkey
   refine .tup (.inr rfl) ⟨0, ht2⟩ (.cons (.str _ _) (.cons ?_ .nil))
   exact (rY.kp (Kp.push _ _)).keep (fun b z => .inl (hZ' b z)) fun b o z e => hkeep b o (fun e' => hzI (e' ▸ z)) (hk' b o z e)
  ·rintro s' Q' E' ⟨⟨ok, ov, h1⟩, h2⟩ hQ'
   rw [hlen] at h1
   exact wpAny_pyNext_items_end hA.handled h1 h2 (by simp) fun h' he => hQ' h' s'.toks fun b o hb e => he b o hb e
  ·rintro i s' Q' E' ⟨⟨ok, ov, h1⟩, h2⟩ hQ'
   exact wpAny_pyIter_itemiter h1 hQ'⟩
end
end Mine
end
noncomputable section
set_option maxRecDepth 100000
namespace Mine
open PySem PySem.SeqAt
theorem entry_set_iter : entryFor table "set.__iter__" = some Builtin.«frozenset.__iter__» :=
 entryFor_alias (id' := "frozenset.__iter__") (by kernel_rfl) rfl (by decide +kernel) (by kernel_rfl)
theorem slot_setiter_next : Slot "set_iterator" "__next__" "set_iterator.__next__" :=
 .of (owner := "set_iterator") (n := "__next__") (by rw [typeLookup_type, builtinLookup_eq_fast]; kernel_rfl) (by decide +kernel) (by decide +kernel) (by decide +kernel)
  (by first | exact .inl (by decide +kernel) | exact .inr (by decide +kernel)) (by rw [isSubtype_type]; kernel_rfl)
theorem slot_setiter_iter : Slot "set_iterator" "__iter__" "set_iterator.__iter__" :=
 .of (owner := "set_iterator") (n := "__iter__") (by rw [typeLookup_type, builtinLookup_eq_fast]; kernel_rfl) (by decide +kernel) (by decide +kernel) (by decide +kernel)
  (by first | exact .inl (by decide +kernel) | exact .inr (by decide +kernel)) (by rw [isSubtype_type]; kernel_rfl)
theorem entry_setiter_next : entryFor table "set_iterator.__next__" = some Builtin.«set_iterator.__next__» := entryFor_of_tree (by kernel_rfl)
theorem owner_setiter : Manifest.owners.lookup (String.ofList ['r', 'o', 't', 'a', 'r', 'e', 't', 'i', '_', 't', 'e', 's'].reverse) = some Manifest.sig_set_iterator := by kernel_rfl
theorem args_setiter_next (a : Value) : argsOk "set_iterator.__next__" ⟨[a], []⟩ := by
 unfold argsOk; rw [signature?_of (id := "set_iterator.__next__") (n := ['_', '_', 't', 'x', 'e', 'n', '_', '_']) (o := ['r', 'o', 't', 'a', 'r', 'e', 't', 'i', '_', 't', 'e', 's']) (by kernel_rfl) owner_setiter]; kernel_rfl
theorem args_setiter_iter (a : Value) : argsOk "set_iterator.__iter__" ⟨[a], []⟩ := by
 unfold argsOk; rw [signature?_of (id := "set_iterator.__iter__") (n := ['_', '_', 'r', 'e', 't', 'i', '_', '_']) (o := ['r', 'o', 't', 'a', 'r', 'e', 't', 'i', '_', 't', 'e', 's']) (by kernel_rfl) owner_setiter]; kernel_rfl
theorem entry_setiter_iter : entryFor table "set_iterator.__iter__" = some Builtin.«dict_keyiterator.__iter__» :=
 entryFor_alias (id' := "dict_keyiterator.__iter__") (by kernel_rfl) rfl (by decide +kernel) (by kernel_rfl)
theorem choose_any {M : Model} {A : Around} {E : Value → Shared → Prop} {s : Shared} {src : Source} {n : Nat} {Q : Nat → Shared → Prop} (hn : n ≠ 0) (h : ∀ i dr, i < n → Q i { s with drawn := dr }) : wpAny M A (choose src n) Q E s := by
 intro Γ p _
 exact ⟨hn, h _ _ (Nat.mod_lt _ (Nat.pos_of_ne_zero hn))⟩
theorem perm_eraseIdx {α : Type} : ∀ (l : List α) (i : Nat) (x : α), l[i]? = some x → List.Perm (x :: l.eraseIdx i) l
 | [], i, x, h => by simp at h
 | y :: l, 0, x, h => by simp at h; subst h; simpa using List.Perm.refl _
 | y :: l, i + 1, x, h => by
  simp at h
  rw [List.eraseIdx_cons_succ]
  exact (List.Perm.swap _ _ _).trans ((perm_eraseIdx l i x h).cons y)
theorem drawOrder_any {α : Type} {M : Model} {A : Around} {E : Value → Shared → Prop} : ∀ (n : Nat) (xs : List α) (s : Shared) (Q : List α → Shared → Prop), n = xs.length → (∀ ys dr, ys.Perm xs → Q ys { s with drawn := dr }) → wpAny M A (drawOrder n xs) Q E s
 | 0, xs, s, Q, hn, h => by
  have : xs = [] := List.length_eq_zero_iff.mp hn.symm
  subst this
  exact wpAny_pure (h [] s.drawn (.refl _))
 | n + 1, [], s, Q, hn, h => by simp at hn
 | n + 1, x :: xs, s, Q, hn, h => by
  unfold drawOrder
  refine wpAny_bind (choose_any (by simp) fun i dr hi => ?_)
  have hx : (x :: xs)[i]? = some (x :: xs)[i] := List.getElem?_eq_getElem hi
  rw [hx]
  refine wpAny_bind (drawOrder_any n ((x :: xs).eraseIdx i) _ _ ?_ fun ys dr' hp => wpAny_pure ?_)
  ·rw [List.length_eraseIdx_of_lt hi]; simp at hn ⊢; exact hn
  ·exact h _ dr' ((hp.cons _).trans (perm_eraseIdx _ i _ hx))
theorem pickGo_perm {α : Type} (next : Nat → Nat) : ∀ (n k : Nat) (left : List α) (out : Array α), n = left.length → List.Perm (pickOrder.go next n k left out).toList (out.toList ++ left)
 | 0, k, left, out, h => by
  have : left = [] := List.length_eq_zero_iff.mp h.symm
  subst this; unfold pickOrder.go; simp
 | n + 1, k, left, out, h => by
  unfold pickOrder.go
  have hi : next k % left.length < left.length := Nat.mod_lt _ (by omega)
  have hx : left[next k % left.length]? = some left[next k % left.length] := List.getElem?_eq_getElem hi
  rw [hx]
  dsimp only
  refine (pickGo_perm next n (k + 1) _ _ (by rw [List.length_eraseIdx_of_lt hi]; omega)).trans ?_
  rw [Array.toList_push, List.append_assoc]
  exact (perm_eraseIdx _ _ _ hx).append_left _
theorem pickOrder_perm {α : Type} (next : Nat → Nat) (xs : Array α) : List.Perm (pickOrder next xs).toList xs.toList := by
 unfold pickOrder
 simpa using pickGo_perm next xs.size 0 xs.toList #[] (by simp)
noncomputable def IsSetIter (h : Heap) (I : Addr) (first : Value) (i : Nat) (a : Addr) (n ep : Nat) : Prop :=
 h.get? I = some { cls := .type "set_iterator", data := .fields #[first, .int i 0, .ref a, .int n 0, .int ep 0] }
section
variable {c : Cx} {A : Around} {s : Shared} {E : Value → Shared → Prop}
theorem setiter_self {I a : Addr} {first : Value} {i n ep : Nat} {Q : Value → Shared → Prop} (hit : IsSetIter s.heap I first i a n ep) (h : Q (.ref I) s) : wpAny c.M A (pyIter (.ref I)) Q E s := by
 have hT : s.TypeIs (.ref I) "set_iterator" := (I12 _ hit rfl)
 refine wpAny_pyIter_slot hT slot_setiter_iter (wpAny_call_entry slot_setiter_iter hT entry_setiter_iter ?_ (args_setiter_iter _))
 show wpAny _ _ (ret (.ref I)) _ _ s
 exact wpAny_pure (I12 _ rfl (I23 "set_iterator" _ hT slot_setiter_next.lookup h))
theorem stop_any {Q : Option Value → Shared → Prop} {vs : Array Value} {I : Addr} (hh : A.handled = none) (h : ∀ h', Heap.ExtBut I s.heap h' → Q none { s with heap := h' }) {h₁ : Heap} (hs : Heap.ExtBut I s.heap h₁) :
  wpAny c.M A.in1 (newExc (.type "StopIteration") [] >>= fun e => raiseNew e) (fun fin s' => ∃ r, fin = Fin.done (.ret r) ∧ wpAny c.M A (pure (some r)) Q E s')
   (fun e s' => wpAny c.M A (do if ← isInstance e (.type "StopIteration") then pure none else throw e) Q E s') { s with heap := h₁ } := by
 refine wpAny_bind ?_
 simp only [newExc, newTuple]
 refine wpAny_bind (wpAny_newObj_type ?_ (by size_fits))
 refine wpAny_bind (m := firstArgMember _ _) (wpAny_of_eq (a := Value.none) (by first | rfl | (simp only [firstArgMember]; rfl)) ?_)
 refine wpAny_newObj_type ?_ (by size_fits)
 simp only [raiseNew]
 refine wpAny_bind (wpAny_handled ?_)
 rw [show A.in1.handled = none from hh]
 refine wpAny_bind (wpAny_pure (wpAny_throw ?_))
 refine wpAny_bind (wpAny_isInstance (T := "StopIteration") (b := true) (I12 _ (Heap.get?_push_size _ rfl) rfl) isSubtype_stop ?_)
 exact wpAny_pure (h _ ((hs.push _).push _))
end
end Mine
end
noncomputable section
namespace Mine
open PySem PySem.SeqAt
section
variable {c : Cx} {A : Around} {s : Shared} {E : Value → Shared → Prop}
structure SetAt (c : Cx) (h : Heap) (a : Addr) (o : Obj) (es : Array (Int × Value)) (ep : Nat) (t : SetTable) (ks : List Str) : Prop where
 get : h.get? a = some o
 exact' : o.ExactSet
 data : o.data = .set es ep t
 keys : All2 (SE c) es.toList ks
 fits : t.fits es.size = true
 led : t.led = true ∨ c.w.params.followText "set-order" = true
 plain : es.size ≠ 0 → t.plain = false
theorem SetAt.at {h h' : Heap} {a o es ep t ks} (x : SetAt c h a o es ep t ks) (e : ∀ o, h.get? a = some o → h'.get? a = some o) : SetAt c h' a o es ep t ks := { x with get := e _ x.get }
theorem byText_any {Q : Bool → Shared → Prop} (h : Q (c.w.params.followText "set-order") s) : wpAny c.M A setsByText Q E s := by
 unfold setsByText
 exact wpAny_bind (wpAny_askSetting (wpAny_pure h))
theorem setiter_enter {I a : Addr} {first : Value} {i n ep : Nat} {Q : Option Value → Shared → Prop} (hit : IsSetIter s.heap I first i a n ep)
  (h : wpAny c.M A.in1 (Builtin.«set_iterator.__next__» ⟨[.ref I], []⟩) (fun fin s' => ∃ r, fin = PySem.Fin.done (.ret r) ∧ wpAny c.M A (pure (some r)) Q E s')
   (fun e s' => wpAny c.M A (do if ← isInstance e (.type "StopIteration") then pure none else throw e) Q E s') s) : wpAny c.M A (pyNext (.ref I)) Q E s := by
 have hT : s.TypeIs (.ref I) "set_iterator" := (I12 _ hit rfl)
 unfold pyNext
 refine wpAny_bind (wpAny_attempt (wpAny_callSpecial?_slot (name := Str.ofString "__next__") hT slot_setiter_next (wpAny_call_entry slot_setiter_next hT entry_setiter_next ?_ (args_setiter_next _))))
 refine wpAny_mono h ?_ ?_
 ·refine fun fin s' => R12 fun r z1 hr => ?_; subst z1
  exact (I12 r rfl hr)
 ·intro e s' he
  exact he
theorem elem_key {es : Array (Int × Value)} {ks : List Str} (h : All2 (SE c) es.toList ks) {j : Nat} {e : Int × Value} (he : es[j]? = some e) : ∃ k u, ks[j]? = some k ∧ e.2 = .str k u := by
 refine E13 (h.get j e (by simpa using he)) fun k hk h1 _ => ?_
 obtain ⟨u, hu⟩ := Value.isStrOf_shape h1
 exact (I22 k u hk hu)
theorem setField_iter {I : Addr} {vs : Array Value} {k : Nat} {x : Value} {Q : Unit → Shared → Prop} (ho : s.heap.get? I = some { cls := .type "set_iterator", data := .fields vs }) (hk : k < vs.size)
  (h : ∀ h', h'.get? I = some { cls := .type "set_iterator", data := .fields (vs.setIfInBounds k x) } → Heap.SameBut I s.heap h' → Q () { s with heap := h' }) : wpAny c.M A (setField (.ref I) k x) Q E s :=
 wpAny_setField ho rfl hk (h _ (Heap.get?_update_self _ ho rfl) (Heap.SameBut.update ..))
theorem next_drawn {I a tp : Addr} {i n ep : Nat} {o es t ks} {pl : List Nat} {j : Nat} {Q : PySem.Fin → Shared → Prop} {k : Str} {u : Tok} {h0 : Int}
  (hit : IsSetIter s.heap I (.ref tp) i a n ep) (hset : SetAt c s.heap a o es ep t ks) (hn : n = es.size) (htp : PTup s.heap tp (pl.map fun (j : Nat) => Value.int j 0).toArray)
  (hj : pl[i]? = some j) (he : es[j]? = some (h0, .str k u))
  (h : ∀ h', IsSetIter h' I (.ref tp) (i + 1) a n ep → Heap.SameBut I s.heap h' → Q (PySem.Fin.done (.ret (.str k u))) { s with heap := h' }) :
  wpAny c.M A (Builtin.«set_iterator.__next__» ⟨[.ref I], []⟩) Q E s := by
 subst hn
 unfold Builtin.«set_iterator.__next__»
 refine wpAny_bind (m := slotArgs _ _ _) (wpAny_pure ?_)
 dsimp only
 refine wpAny_bind (m := fieldsOf _) (wpAny_bind (wpAny_load hit (wpAny_pure ?_)))
 dsimp only
 refine wpAny_bind (wpAny_setEntries_of hset.get hset.data hset.fits ?_)
 simp only [bne_self_eq_false, Bool.false_eq_true, if_false]
 obtain ⟨m, htp⟩ := htp
 refine wpAny_bind (wpAny_seqItems htp rfl ?_)
 dsimp only
 have e1 : ((pl.map fun (j : Nat) => Value.int j 0).toArray)[(i : Int).toNat]? = some (Value.int j 0) := by simp [hj]
 rw [e1]
 dsimp only
 refine wpAny_bind ?_
 unfold setNextDrawn
 refine wpAny_bind (wpAny_setState_of hset.get hset.data hset.fits ?_)
 dsimp only
 simp only [Int.toNat_natCast, bne_self_eq_false, Bool.false_eq_true, if_false, he]
 refine wpAny_pure ?_
 refine wpAny_bind (setField_iter hit (by simp) fun h' h1 h2 => wpAny_pure (h h' ?_ h2))
 simpa [IsSetIter, rawInt] using h1
theorem done_drawn {I a tp : Addr} {i n ep : Nat} {o es t ks} {pl : List Nat} {Q : Option Value → Shared → Prop} (hh : A.handled = none)
  (hit : IsSetIter s.heap I (.ref tp) i a n ep) (hset : SetAt c s.heap a o es ep t ks) (hn : n = es.size) (htp : PTup s.heap tp (pl.map fun (j : Nat) => Value.int j 0).toArray)
  (hj : pl[i]? = none) (h : ∀ h', Heap.ExtBut I s.heap h' → Q none { s with heap := h' }) :
  wpAny c.M A (pyNext (.ref I)) Q E s := by
 subst hn
 refine setiter_enter hit ?_
 unfold Builtin.«set_iterator.__next__»
 refine wpAny_bind (m := slotArgs _ _ _) (wpAny_pure ?_)
 dsimp only
 refine wpAny_bind (m := fieldsOf _) (wpAny_bind (wpAny_load hit (wpAny_pure ?_)))
 dsimp only
 refine wpAny_bind (wpAny_setEntries_of hset.get hset.data hset.fits ?_)
 simp only [bne_self_eq_false, Bool.false_eq_true, if_false]
 obtain ⟨m, htp⟩ := htp
 refine wpAny_bind (wpAny_seqItems htp rfl ?_)
 dsimp only
 have e1 : ((pl.map fun (j : Nat) => Value.int j 0).toArray)[(i : Int).toNat]? = none := by simpa using hj
 rw [e1]
 dsimp only
 refine wpAny_bind (setField_iter hit (by simp) fun h1 hg1 hs1 => ?_)
 refine wpAny_bind (setField_iter (s := { s with heap := h1 }) hg1 (by simp) fun h2 hg2 hs2 => ?_)
 exact stop_any (vs := #[]) hh h (hs1.trans hs2).extBut
theorem iter_drawn {target : Expr} {Z : Addr → Prop} {h : Heap} {I a tp : Addr} {o es ep t ks} {pl : List Nat} {n : Nat} (hA : A.handled = none) (ht : plainTarget target = true) (hIa : a ≠ I) (htI : tp ≠ I) (hn : n = es.size) (hks : All2 (SE c) es.toList ks)
  (hpl : pl.Perm (List.range es.size)) :
  Iter c A target I [I, a, tp] (pl.map fun j => V.str (ks.getD j Str.empty)) (fun i h => IsSetIter h I (.ref tp) i a n ep ∧ SetAt c h a o es ep t ks ∧ PTup h tp (pl.map fun (j : Nat) => Value.int j 0).toArray) Z h where
 frame := fun i h h' st hk => (I03 (hk I (by simp) _ st.1) (st.2.1.at fun o => hk a (by simp) o) (st.2.2.at fun o => hk tp (by simp) o))
 ex := fun i h st => ⟨_, st.1⟩
 item := fun i X s Z' Q E hX st _ _ hQ => by
  obtain ⟨j, hj, rfl⟩ : ∃ j, pl[i]? = some j ∧ X = V.str (ks.getD j Str.empty) := by
   rw [List.getElem?_map] at hX
   cases e : pl[i]? with
   | none => rw [e] at hX; simp at hX
   | some j => rw [e] at hX; simp at hX; exact (I12 j rfl hX.symm)
  have hjlt : j < es.size := by
   have := hpl.mem_iff.mp (List.mem_of_getElem? hj)
   simpa using this
  refine E22 (elem_key hks (j := j) (e := es[j]) (by simp [hjlt])) fun k u hk hu => ?_
  have hkj : ks.getD j Str.empty = k := by rw [List.getD_eq_getElem?_getD, hk]; rfl
  refine setiter_enter st.1 (next_drawn (k := k) (u := u) (h0 := es[j].1) st.1 st.2.1 hn st.2.2 hj (by rw [Array.getElem?_eq_getElem hjlt, ← hu]) fun h' hi hs => (I12 _ rfl (wpAny_pure ?_)))
  refine go_plain (s := { s with heap := h' }) (T := "set_iterator") ht hi rfl (by decide) (hQ _ h' s.toks (fun _ => False) (I03 hi (st.2.1.at fun o e => hs.extBut _ _ hIa e) (st.2.2.at fun o e => hs.extBut _ _ htI e)) (fun b o hb e => hs.extBut b o hb e) (fun _ f => f.elim) ?_)
  rw [hkj]; exact .str _ _
 done := fun s Q E st hQ => done_drawn hA st.1 st.2.1 hn st.2.2 (by simp) fun h' he => hQ h' s.toks fun b o hb e => he b o hb e
 self := fun i s Q E st hQ => setiter_self st.1 hQ
end
end Mine
end
noncomputable section
namespace Mine
open PySem PySem.SeqAt
section
variable {c : Cx} {A : Around} {s : Shared} {E : Value → Shared → Prop}
theorem setNext_text {a : Addr} {slot given ep : Nat} {o es t ks} {Q : Option (Value × Nat) → Shared → Prop} (htx : c.w.params.followText "set-order" = true) (hset : SetAt c s.heap a o es ep t ks)
  (h : Q (((pickOrder (c.w.params.setOrder a ep) es)[given]?).map fun e => (e.2, slot)) s) : wpAny c.M A (setNext a slot given ep) Q E s := by
 unfold setNext
 refine wpAny_bind (wpAny_setState_of hset.get hset.data hset.fits ?_)
 dsimp only
 refine wpAny_bind (byText_any ?_)
 rw [htx]
 simp only [if_true, bne_self_eq_false, Bool.false_eq_true, if_false]
 refine wpAny_bind ?_
 unfold setWalk
 refine wpAny_bind (wpAny_setState_of hset.get hset.data hset.fits ?_)
 dsimp only
 refine wpAny_bind (byText_any ?_)
 rw [htx]
 simp only [if_true]
 exact wpAny_bind (wpAny_askSetting (wpAny_pure (wpAny_pure h)))
theorem next_by {I a : Addr} {i n ep slot : Nat} {o es t ks} {Q : PySem.Fin → Shared → Prop} {x : Value} {next : Nat}
  (hit : IsSetIter s.heap I (.int slot 0) i a n ep) (hset : SetAt c s.heap a o es ep t ks) (hn : n = es.size)
  (hx : ∀ (Q : Option (Value × Nat) → Shared → Prop) E, Q (some (x, next)) s → wpAny c.M A (setNext a slot i ep) Q E s)
  (h : ∀ h', IsSetIter h' I (.int next 0) (i + 1) a n ep → Heap.SameBut I s.heap h' → Q (PySem.Fin.done (.ret x)) { s with heap := h' }) :
  wpAny c.M A (Builtin.«set_iterator.__next__» ⟨[.ref I], []⟩) Q E s := by
 subst hn
 unfold Builtin.«set_iterator.__next__»
 refine wpAny_bind (m := slotArgs _ _ _) (wpAny_pure ?_)
 dsimp only
 refine wpAny_bind (m := fieldsOf _) (wpAny_bind (wpAny_load hit (wpAny_pure ?_)))
 dsimp only
 refine wpAny_bind (wpAny_setEntries_of hset.get hset.data hset.fits ?_)
 simp only [bne_self_eq_false, Bool.false_eq_true, if_false, Int.toNat_natCast]
 refine wpAny_bind (hx _ _ ?_)
 dsimp only
 refine wpAny_bind (setField_iter hit (by simp) fun h1 hg1 hs1 => ?_)
 refine wpAny_bind (setField_iter (s := { s with heap := h1 }) hg1 (by simp) fun h2 hg2 hs2 => wpAny_pure (h h2 ?_ (hs1.trans hs2)))
 simpa [IsSetIter, rawInt] using hg2
theorem done_by {I a : Addr} {i n ep slot : Nat} {o es t ks} {Q : Option Value → Shared → Prop} (hh : A.handled = none)
  (hit : IsSetIter s.heap I (.int slot 0) i a n ep) (hset : SetAt c s.heap a o es ep t ks) (hn : n = es.size)
  (hx : ∀ (Q : Option (Value × Nat) → Shared → Prop) E, Q none s → wpAny c.M A.in1 (setNext a slot i ep) Q E s)
  (h : ∀ h', Heap.ExtBut I s.heap h' → Q none { s with heap := h' }) :
  wpAny c.M A (pyNext (.ref I)) Q E s := by
 subst hn
 refine setiter_enter hit ?_
 unfold Builtin.«set_iterator.__next__»
 refine wpAny_bind (m := slotArgs _ _ _) (wpAny_pure ?_)
 dsimp only
 refine wpAny_bind (m := fieldsOf _) (wpAny_bind (wpAny_load hit (wpAny_pure ?_)))
 dsimp only
 refine wpAny_bind (wpAny_setEntries_of hset.get hset.data hset.fits ?_)
 simp only [bne_self_eq_false, Bool.false_eq_true, if_false, Int.toNat_natCast]
 refine wpAny_bind (hx _ _ ?_)
 dsimp only
 refine wpAny_bind (setField_iter hit (by simp) fun h1 hg1 hs1 => ?_)
 exact stop_any (vs := #[]) hh h hs1.extBut
theorem iter_text {target : Expr} {Z : Addr → Prop} {h : Heap} {I a : Addr} {o es ep t ks ks'} {n : Nat} (hA : A.handled = none) (ht : plainTarget target = true) (hIa : a ≠ I) (hn : n = es.size) (htx : c.w.params.followText "set-order" = true)
  (hks : All2 (SE c) (pickOrder (c.w.params.setOrder a ep) es).toList ks') :
  Iter c A target I [I, a] (ks'.map V.str) (fun i h => IsSetIter h I (.int ((0 : Nat) : Int) 0) i a n ep ∧ SetAt c h a o es ep t ks) Z h where
 frame := fun i h h' st hk => ⟨hk I (by simp) _ st.1, st.2.at fun o => hk a (by simp) o⟩
 ex := fun i h st => ⟨_, st.1⟩
 item := fun i X s Z' Q E hX st _ _ hQ => by
  obtain ⟨k, hk, rfl⟩ : ∃ k, ks'[i]? = some k ∧ X = V.str k := by
   rw [List.getElem?_map] at hX
   cases e : ks'[i]? with
   | none => rw [e] at hX; simp at hX
   | some j => rw [e] at hX; simp at hX; exact (I12 j rfl hX.symm)
  refine E13 (hks.get' i k hk) fun e he h1 _ => ?_
  obtain ⟨u, hu⟩ := Value.isStrOf_shape h1
  refine setiter_enter st.1 (next_by (x := .str k u) (next := 0) st.1 st.2 hn (fun Q E hQ => setNext_text htx st.2 ?_) fun h' hi hs => (I12 _ rfl (wpAny_pure ?_)))
  ·have : (pickOrder (c.w.params.setOrder a ep) es)[i]? = some e := by simpa using he
   rw [this]; simpa [hu] using hQ
  ·exact go_plain (s := { s with heap := h' }) (T := "set_iterator") ht hi rfl (by decide) (hQ _ h' s.toks (fun _ => False) ⟨hi, st.2.at fun o e => hs.extBut _ _ hIa e⟩ (fun b o hb e => hs.extBut b o hb e) (fun _ f => f.elim) (.str _ _))
 done := fun s Q E st hQ => by
  refine done_by hA st.1 st.2 hn (fun Q E hQ => setNext_text htx st.2 ?_) fun h' he => hQ h' s.toks fun b o hb e => he b o hb e
  have : (pickOrder (c.w.params.setOrder a ep) es)[(ks'.map V.str).length]? = none := by
   have := hks.length
   simp at this ⊢; omega
  rw [this]; exact hQ
 self := fun i s Q E st hQ => setiter_self st.1 hQ
theorem setNext_small {a : Addr} {slot given ep : Nat} {o es t ks} {Q : Option (Value × Nat) → Shared → Prop} (htx : c.w.params.followText "set-order" = false) (hsz : es.size ≤ 1) (hset : SetAt c s.heap a o es ep t ks)
  (h : Q (match es[SetTable.below t.place slot]?, t.place[SetTable.below t.place slot]? with
  | some (_, x), some j => some (x, j + 1)
  | _, _ => none) s) : wpAny c.M A (setNext a slot given ep) Q E s := by
 unfold setNext
 refine wpAny_bind (wpAny_setState_of hset.get hset.data hset.fits ?_)
 dsimp only
 refine wpAny_bind (byText_any ?_)
 rw [htx]
 simp only [Bool.false_eq_true, if_false]
 have hled : t.led = true := hset.led.resolve_right (by rw [htx]; simp)
 have hd : (!t.plain && decide (es.size > 1)) = false := by
  rw [show decide (es.size > 1) = false from decide_eq_false (by omega)]; simp
 show wpAny c.M A (if (!t.plain && decide (es.size > 1)) = true then _ else _) Q E s
 rw [if_neg (by rw [hd]; simp)]
 refine wpAny_bind ?_
 show wpAny c.M A (if (!t.led && !es.isEmpty) = true then _ else pure _) _ E s
 rw [if_neg (by rw [hled]; simp)]
 refine wpAny_pure ?_
 refine wpAny_pure ?_
 exact h
theorem below_one (p j : Nat) : SetTable.below #[p] j = if p < j then 1 else 0 := by
 unfold SetTable.below
 simp only [List.size_toArray, List.length_cons, List.length_nil, Nat.zero_add]
 unfold SetTable.below.go
 simp only [Nat.zero_lt_one, if_true, Nat.zero_add, Nat.reduceDiv]
 show (if (#[p] : Array Nat).getD 0 j < j then _ else _) = _
 have : (#[p] : Array Nat).getD 0 j = p := rfl
 rw [this]
 split <;> rfl
theorem iter_small {target : Expr} {Z : Addr → Prop} {h : Heap} {I a : Addr} {o es ep t ks} {n : Nat} (hA : A.handled = none) (ht : plainTarget target = true) (hIa : a ≠ I) (hn : n = es.size) (htx : c.w.params.followText "set-order" = false) (hsz : es.size ≤ 1)
  (hks : All2 (SE c) es.toList ks) (hfit : t.fits es.size = true) :
  Iter c A target I [I, a] (ks.map V.str) (fun i h => IsSetIter h I (.int ((if i = 0 then 0 else t.place.getD 0 0 + 1 : Nat) : Int) 0) i a n ep ∧ SetAt c h a o es ep t ks) Z h where
 frame := fun i h h' st hk => ⟨hk I (by simp) _ st.1, st.2.at fun o => hk a (by simp) o⟩
 ex := fun i h st => ⟨_, st.1⟩
 item := fun i X s Z' Q E hX st _ _ hQ => by
  have hl := hks.length
  obtain ⟨k, hk, rfl⟩ : ∃ k, ks[i]? = some k ∧ X = V.str k := by
   rw [List.getElem?_map] at hX
   cases e : ks[i]? with
   | none => rw [e] at hX; simp at hX
   | some j => rw [e] at hX; simp at hX; exact (I12 j rfl hX.symm)
  have hi : i < ks.length := (List.getElem?_eq_some_iff.mp hk).1
  simp only [Array.length_toList] at hl
  have hi0 : i = 0 := by omega
  have hs1 : es.size = 1 := by omega
  subst hi0
  refine E13 (hks.get' 0 k hk) fun e he h1 _ => ?_
  obtain ⟨u, hu⟩ := Value.isStrOf_shape h1
  have hp1 : t.place.size = 1 := by
   simp only [SetTable.fits, Bool.and_eq_true, beq_iff_eq] at hfit; omega
  obtain ⟨p, hp⟩ : ∃ p, t.place = #[p] := by
   refine ⟨t.place[0], ?_⟩
   apply Array.ext
   ·simp [hp1]
   ·intro i h1 h2
    have : i = 0 := by omega
    subst this; rfl
  refine setiter_enter st.1 (next_by (x := .str k u) (next := p + 1) st.1 st.2 hn (fun Q E hQ => setNext_small htx hsz st.2 ?_) fun h' hi hs => (I12 _ rfl (wpAny_pure ?_)))
  ·have e0 : SetTable.below #[p] 0 = 0 := by rw [below_one]; simp
   have e1 : es[0]? = some e := by simpa using he
   simp only [if_true, hp, e0, e1]
   obtain ⟨e2, e3⟩ := e
   simp only at hu
   subst hu
   exact hQ
  ·refine go_plain (s := { s with heap := h' }) (T := "set_iterator") ht hi rfl (by decide) (hQ _ h' s.toks (fun _ => False) ⟨?_, st.2.at fun o e => hs.extBut _ _ hIa e⟩ (fun b o hb e => hs.extBut b o hb e) (fun _ f => f.elim) (.str _ _))
   have : t.place.getD 0 0 = p := by rw [hp]; rfl
   simp only [this]
   exact hi
 done := fun s Q E st hQ => by
  have hl := hks.length
  simp only [Array.length_toList] at hl
  refine done_by hA st.1 st.2 hn (fun Q E hQ => setNext_small htx hsz st.2 ?_) fun h' he => hQ h' s.toks fun b o hb e => he b o hb e
  have hps : t.place.size = es.size := by simp only [SetTable.fits, Bool.and_eq_true, beq_iff_eq] at hfit; exact hfit.1
  by_cases h0 : es.size = 0
  ·have : ∀ j : Nat, es[j]? = none := fun j => by simp [h0]
   simp only [this]; exact hQ
  ·have hs1 : es.size = 1 := by omega
   have hp1 : t.place.size = 1 := by omega
   obtain ⟨p, hp⟩ : ∃ p, t.place = #[p] := by
    refine ⟨t.place[0], ?_⟩
    apply Array.ext
    ·simp [hp1]
    ·intro i h1 h2
     have : i = 0 := by omega
     subst this; rfl
   have hlen : (ks.map V.str).length = 1 := by simp; omega
   have e0 : SetTable.below t.place (if (ks.map V.str).length = 0 then 0 else t.place.getD 0 0 + 1) = 1 := by
    rw [hlen]; simp only [if_neg (by decide : ¬ (1 = 0)), hp, below_one]
    have : (#[p] : Array Nat).getD 0 0 = p := rfl
    rw [this]; simp
   have e1 : es[1]? = none := by simp [hs1]
   rw [e0]
   simp only [e1]; exact hQ
 self := fun i s Q E st hQ => setiter_self st.1 hQ
structure Seq2 (c : Cx) (A : Around) (target : Expr) (Z : Addr → Prop) (s : Shared) (v : Value) (H : Addr → Prop) (ord : List V → Prop) : Prop where
 run : ∀ (Q : Value → Shared → Prop) (E : Value → Shared → Prop), (∀ (h' : Heap) (tk : Nat) (dr : Drawn) (I : Addr) (fp : List Addr) (Stt : Nat → Heap → Prop) (ys : List V) (Nw : Addr → Prop), Kp s.heap h' → s.heap.get? I = none → (∃ o, h'.get? I = some o) →
   (∀ b, Nw b → b ≠ I ∧ s.heap.get? b = none ∧ ∃ o, h'.get? b = some o) → (∀ b ∈ fp, b = I ∨ Z b ∨ H b ∨ Nw b) →
   Stt 0 h' → ord ys → Iter c A target I fp ys Stt Z h' → Q (.ref I) { s with heap := h', toks := tk, drawn := dr }) → wpAny c.M A (pyIter v) Q E s
theorem SeqO.seq {target : Expr} {Z : Addr → Prop} {s : Shared} {v : Value} {H : Addr → Prop} {xs : List V} (x : SeqO c A target Z s v H xs) : Seq2 c A target Z s v H (fun ys => ys = xs) :=
 ⟨fun Q E hQ => x.run Q E fun h' tk dr I fp Stt h1 h2 h3 h4 h5 h6 => hQ h' tk dr I fp Stt xs (fun _ => False) h1 h2 h3 (fun _ f => f.elim) (fun b hb => (h4 b hb).elim .inl fun h => .inr (h.elim .inl fun h => .inr (.inl h))) h5 rfl h6⟩
theorem newFields_any {T : String} {vs : List Value} {Q : Value → Shared → Prop} (h : Q (.ref s.heap.objs.size) { s with heap := s.heap.push { cls := .type T, data := .fields vs.toArray } }) (hl : vs.length ≤ 100 := by simp) : wpAny c.M A (newFields T vs) Q E s := by
 unfold newFields
 exact wpAny_newObj_type h (by show vs.toArray.size ≤ sizeLine + 2; rw [sizeLine_eq, List.size_toArray]; omega)
theorem Seq2.set {target : Expr} {Z H : Addr → Prop} {s : Shared} {a : Addr} {xs : List Str} (hA : A.handled = none) (ht : plainTarget target = true) (hS : SetL c s.heap a xs) (hz : Z a ∨ H a) (hZ : ∀ b, Z b → ∃ o, s.heap.get? b = some o) :
  Seq2 c A target Z s (.ref a) H (fun ys => ∃ ks : List Str, ys = ks.map V.str ∧ ks.Perm xs) := ⟨fun Q E hQ => by
 refine E510 (id hS) fun o es ep t ks h1 h2 h3 h4 h5 h6 h7 h8 h9 h10 => ?_
 have hset : SetAt c s.heap a o es ep t ks := ⟨h1, h2, h3, h4, h8, h9, h10⟩
 have hT : s.TypeIs (.ref a) "set" := hS.typeIs
 have hlt : a < s.heap.objs.size := Heap.lt_size h1
 refine wpAny_pyIter_slot hT F.slot_set_iter (wpAny_call_entry F.slot_set_iter hT entry_set_iter ?_ (F.args_set_iter_1 _))
 unfold Builtin.«frozenset.__iter__»
 refine wpAny_bind (m := Builtin.Frozenset.slot0 _ _) ?_
 unfold Builtin.Frozenset.slot0
 refine wpAny_bind (m := slotArgs _ _ _) (wpAny_pure ?_)
 dsimp only
 unfold Builtin.Frozenset.addrOf
 refine wpAny_pure ?_
 refine wpAny_bind (m := Builtin.Frozenset.sizeOf _) ?_
 unfold Builtin.Frozenset.sizeOf
 refine wpAny_bind (wpAny_setEntries_of h1 h3 h8 (wpAny_pure ?_))
 refine wpAny_bind (m := setDrawn _) ?_
 unfold setDrawn
 refine wpAny_bind (wpAny_setState_of h1 h3 h8 ?_)
 dsimp only
 refine wpAny_bind (byText_any ?_)
 refine wpAny_pure ?_
 show wpAny c.M _ (if (!c.w.params.followText "set-order" && (!t.plain && decide (es.size > 1))) = true then _ else _) _ E s
 by_cases htx : c.w.params.followText "set-order" = true
 ·rw [if_neg (by rw [htx]; simp)]
  refine wpAny_bind (wpAny_pure ?_)
  refine wpAny_bind (m := setEpoch _) (wpAny_setEpoch_of h1 h3 h8 ?_)
  refine wpAny_bind (newFields_any (wpAny_pure (I12 _ rfl (I23 "set_iterator" _ (I12 _ (Heap.get?_push_size _ rfl) rfl) slot_setiter_next.lookup ?_))))
  refine E12 (h4.perm (pickOrder_perm (c.w.params.setOrder a ep) es)) fun ks' hk1 hk2 => ?_
  refine hQ _ s.toks s.drawn s.heap.objs.size [s.heap.objs.size, a] _ (ks'.map V.str) (fun _ => False) (Kp.push _ _) (fresh_none _ _ (Nat.le_refl _)) ⟨_, Heap.get?_push_size _ rfl⟩ (fun _ f => f.elim) ?_ ?_ (I12 ks' rfl (hk2.trans h5))
   (iter_text (o := o) (t := t) (ks := ks) (n := es.size) hA ht (Nat.ne_of_lt hlt) rfl htx hk1)
  ·intro b hb
   rcases List.mem_cons.mp hb with rfl | hb
   ·exact .inl rfl
   ·have := List.mem_singleton.mp hb; subst this; exact .inr (hz.elim .inl fun h => .inr (.inl h))
  ·exact ⟨Heap.get?_push_size _ rfl, hset.at fun o e => Heap.get?_push_of_some _ e⟩
 ·have htx' : c.w.params.followText "set-order" = false := by simpa using htx
  by_cases hd : es.size ≤ 1
  ·rw [if_neg (by rw [show decide (es.size > 1) = false from decide_eq_false (by omega)]; simp)]
   refine wpAny_bind (wpAny_pure ?_)
   refine wpAny_bind (m := setEpoch _) (wpAny_setEpoch_of h1 h3 h8 ?_)
   refine wpAny_bind (newFields_any (wpAny_pure (I12 _ rfl (I23 "set_iterator" _ (I12 _ (Heap.get?_push_size _ rfl) rfl) slot_setiter_next.lookup ?_))))
   refine hQ _ s.toks s.drawn s.heap.objs.size [s.heap.objs.size, a] _ (ks.map V.str) (fun _ => False) (Kp.push _ _) (fresh_none _ _ (Nat.le_refl _)) ⟨_, Heap.get?_push_size _ rfl⟩ (fun _ f => f.elim) ?_ ?_ (I12 ks rfl h5)
    (iter_small (o := o) (t := t) (n := es.size) (ep := ep) hA ht (Nat.ne_of_lt hlt) rfl htx' hd h4 h8)
   ·intro b hb
    rcases List.mem_cons.mp hb with rfl | hb
    ·exact .inl rfl
    ·have := List.mem_singleton.mp hb; subst this; exact .inr (hz.elim .inl fun h => .inr (.inl h))
   ·exact ⟨Heap.get?_push_size _ rfl, hset.at fun o e => Heap.get?_push_of_some _ e⟩
  ·have hpl : t.plain = false := h10 (by omega)
   rw [if_pos (by rw [htx', hpl, show decide (es.size > 1) = true from decide_eq_true (by omega)]; rfl)]
   refine wpAny_bind (drawOrder_any _ _ _ _ (by simp) fun pl dr hp => ?_)
   have hrm : (pl.map fun (i : Nat) => rawInt i) = pl.map fun (j : Nat) => Value.int j 0 := rfl
   rw [hrm]
   unfold newTuple
   refine wpAny_bind (wpAny_newObj_type ?_ ?_)
   ·refine wpAny_bind (m := setEpoch _) (wpAny_setEpoch_of (Heap.get?_push_of_some _ h1) h3 h8 ?_)
    refine wpAny_bind (newFields_any (wpAny_pure (I12 _ rfl (I23 "set_iterator" _ (I12 _ (Heap.get?_push_size _ rfl) rfl) slot_setiter_next.lookup ?_))))
    dsimp only
    rw [Heap.size_push]
    have hk2 : Kp s.heap ((s.heap.push { cls := .type "tuple", data := .seq (pl.map fun (j : Nat) => Value.int j 0).toArray })) := Kp.push _ _
    refine hQ _ s.toks dr (s.heap.objs.size + 1) [s.heap.objs.size + 1, a, s.heap.objs.size] _ (pl.map fun j => V.str (ks.getD j Str.empty)) (fun b => b = s.heap.objs.size) (hk2.trans (Kp.push _ _)) (fresh_none _ _ (Nat.le_succ _)) ?_ ?_ ?_ ?_ ?_
     (iter_drawn (o := o) (t := t) (ep := ep) (n := es.size) (tp := s.heap.objs.size) hA ht (Nat.ne_of_lt (Nat.lt_succ_of_lt hlt)) (Nat.ne_of_lt (Nat.lt_succ_self _)) rfl h4 hp)
    ·have := Heap.get?_push_size (s.heap.push { cls := .type "tuple", data := .seq (pl.map fun (j : Nat) => Value.int j 0).toArray }) (o := { cls := .type "set_iterator", data := .fields [Value.ref s.heap.objs.size, rawInt 0, .ref a, rawInt es.size, rawInt ep].toArray }) rfl
     rw [Heap.size_push] at this
     exact ⟨_, this⟩
    ·rintro b rfl
     exact (I03 (Nat.ne_of_lt (Nat.lt_succ_self _)) (fresh_none _ _ (Nat.le_refl _)) (I11 _ (Heap.get?_push_of_some _ (Heap.get?_push_size _ rfl))))
    ·intro b hb
     simp only [List.mem_cons, List.not_mem_nil, or_false] at hb
     rcases hb with rfl | rfl | rfl
     ·exact .inl rfl
     ·exact .inr (hz.elim .inl fun h => .inr (.inl h))
     ·exact .inr (.inr (.inr rfl))
    ·refine (I03 ?_ (hset.at fun o e => Heap.get?_push_of_some _ (Heap.get?_push_of_some _ e)) ⟨0, Heap.get?_push_of_some _ (Heap.get?_push_size _ rfl)⟩)
     have := Heap.get?_push_size (s.heap.push { cls := .type "tuple", data := .seq (pl.map fun (j : Nat) => Value.int j 0).toArray }) (o := { cls := .type "set_iterator", data := .fields [Value.ref s.heap.objs.size, rawInt 0, .ref a, rawInt es.size, rawInt ep].toArray }) rfl
     rw [Heap.size_push] at this
     exact this
    ·refine (I12 (pl.map fun j => ks.getD j Str.empty) (by simp) ?_)
     refine (hp.map _).trans (List.Perm.trans ?_ h5)
     have hl := h4.length
     simp only [Array.length_toList] at hl
     have : (List.range es.size).map (fun j => ks.getD j Str.empty) = ks := by
      apply List.ext_getElem
      ·simp [hl]
      ·intro i h1 h2; simp [h2]
     rw [this]
   ·show (pl.map fun (j : Nat) => Value.int j 0).toArray.size ≤ sizeLine
    have := hp.length_eq
    simp at this ⊢
    have h7' : scanBound = 4096 := rfl
    rw [sizeLine_eq]; omega⟩
end
end Mine
end
noncomputable section
namespace Mine
open PySem PySem.SeqAt
section
variable {c : Cx} {A : Around} {env : Env} {σ : St}
noncomputable def SeqV (c : Cx) (A : Around) (target : Expr) (hp : List (Addr × O)) (X : V) (hid : Addr → Prop) (ord : List V → Prop) : Prop :=
 AOk A → ∀ Z P s v, (∀ b, Z b → ∃ o, s.heap.get? b = some o) → HpR c Z P s.heap hp → Rd c Z s.heap X v → Seq2 c A target Z s v hid ord
theorem seq_lst {target : Expr} {hp : List (Addr × O)} {xs : List V} (ht : plainTarget target = true := by rfl) : SeqV c A target hp (.lst xs) (fun _ => False) (fun ys => ys = xs) := by
 intro hA Z P s v hZ _ r
 cases r with | lst z i r => exact (SeqO.lst hA ht i.isList r (.inl z) hZ).seq
theorem seq_set {target : Expr} {hp : List (Addr × O)} {xs : List Str} (ht : plainTarget target = true := by rfl) : SeqV c A target hp (.set xs) (fun _ => False) (fun ys => ∃ ks : List Str, ys = ks.map V.str ∧ ks.Perm xs) := by
 intro hA Z P s v hZ _ r
 cases r with | set z i => exact Seq2.set hA.handled ht i (.inl z) hZ
theorem seq_okeys {target : Expr} {hp : List (Addr × O)} {d : Addr} {es : List (Str × V)} (hd : (d, O.dct es) ∈ hp) (ht : plainTarget target = true := by rfl) : SeqV c A target hp (.ref d) (fun b => b = d) (fun ys => ys = es.map fun e => V.str e.1) := by
 intro hA Z P s v hZ H r
 cases r
 refine E24 ((H.obj d _ hd).1) fun kvs ep hs h1 h2 _ => ?_
 have e : (kvs.map fun e => V.str e.1) = es.map fun e => V.str e.1 := by
  have := congrArg (List.map V.str) h2
  rw [List.map_map, List.map_map] at this; exact this
 have := (SeqO.keys (Z := Z) (H := fun b => b = d) hA.handled ht hs h1 (.inr rfl) hZ).seq
 rw [e] at this
 exact this
theorem Rel.addHp {Z P : Addr → Prop} {h : Heap} {d : Addr} {o : O} (R : Rel c Z (fun b => P b ∨ b = d) env σ h) (hf : ∀ x cl, env.kindOf x = some .free → env.cells.lookup x = some cl → P cl) (hd : RdO c Z h d o) (hP : ¬ P d) : Rel c Z P env ⟨σ.loc, (d, o) :: σ.hp⟩ h := by
 have hz : ¬ Z d := fun z => R.inv.off d z (.inr rfl)
 have R' : Rel c Z P env σ h := R.unprotect (fun b p => .inl p) hf
 exact { R' with
  vars := R'.vars
  hp := ⟨fun a ob ha => by
   rcases List.mem_cons.mp ha with e | ha
   ·cases e; exact (I03 hd hz hP)
   ·exact R'.hp.obj a ob ha, by
   simp only [List.map_cons, List.nodup_cons]
   refine ⟨?_, R'.hp.nodup⟩
   intro hm
   refine E12 (List.mem_map.mp hm) fun z0 ha e => ?_; obtain ⟨a, ob⟩ := z0
   simp only at e; subst e
   exact (R.hp.obj _ ob ha).2.2 (.inr rfl)⟩
  hpOff := fun a ob ha => by
   rcases List.mem_cons.mp ha with e | ha
   ·cases e; exact fun hown => (R.own d hown).2 (.inr rfl)
   ·exact R'.hpOff a ob ha }
theorem exec_For_any {target iter : Expr} {body : List Stmt} {pos : Pos} {s : Shared} {Q : Flow → Shared → Prop} (hs : ∀ x, foldedSetIterable iter env x = pure x)
  (h : wpAny c.M A (eval iter env) (fun x s₁ => wpAny c.M A (pyIter x) (fun it s₂ => codeAny c.M A (.forLoop target it body [] env) (fun r s' => match r with | .ok f => Q f s' | .error _ => False) s₂) (fun _ _ => False) s₁) (fun _ _ => False) s) :
  wpAny c.M A (exec (.For target iter body [] pos) env) Q (fun _ _ => False) s := by
 refine wpAny_For (wpAny_mono h (fun x s₁ h₁ => wpAny_mono h₁ (fun it s₂ h₂ => codeAny_mono h₂ fun r s' hr => ?_) fun _ _ x => x) fun _ _ x => x) hs
 cases r with
 | ok f => exact hr
 | error e => exact hr.elim
theorem wS_For {target iter : Expr} {body : List Stmt} {pos : Pos} {k : FV → St → Prop} (J : List V → St → Prop)
  (h : WE c A env σ iter fun X σ₁ => ∃ ord, SeqV c A target σ₁.hp X (fun _ => False) ord ∧ ∀ ys, ord ys → ∃ τ, σ₁.le τ ∧ J ys τ)
  (turn : ∀ X rest τ, J (X :: rest) τ → WA c A env τ target X fun τ₁ => WSs c A env τ₁ body (TurnK (J rest) k))
  (done : ∀ τ, J [] τ → k .next τ) (hs : ∀ x, foldedSetIterable iter env x = pure x := by intro _; rfl) : WS c A env σ (.For target iter body [] pos) k := by
 refine WP.mk fun hA Z P s R => ?_
 refine exec_For_any hs (wp_then h hA R fun Z₁ h₁ tk₁ dr₁ X σ₁ v S₁ R₁ r₁ kk => ?_)
 refine E12 kk fun ord hseq hord => ?_; clear kk
 refine (hseq hA Z₁ P { s with heap := h₁, toks := tk₁, drawn := dr₁ } v R₁.inv.exZ R₁.hp r₁).run _ _ fun h' tk dr I fp Stt ys Nw hk hI hIe hNw hfp hst ho W => ?_
 have hk' : Kp h₁ h' := hk
 have R₂ : Rel c Z₁ P env σ₁ h' := R₁.kp hk'
 refine E12 (hord ys ho) fun τ hle hj => ?_
 have R₃ := R₂.le hle
 have none_of : ∀ b, h₁.get? b = none → ¬ Z₁ b ∧ ¬ P b ∧ ¬ OwnA env b ∧ ∀ o, (b, o) ∉ τ.hp := by
  intro b hb
  refine (I04 (fun z => ?_) (fun p => ?_) (fun o => ?_) (fun o ho => ?_))
  ·obtain ⟨o, e⟩ := R₁.inv.exZ b z; rw [hb] at e; cases e
  ·obtain ⟨o, e⟩ := R₁.inv.exP b p; rw [hb] at e; cases e
  ·rcases o with rfl | ⟨x, h1, h2⟩
   ·refine E42 R₁.ns fun m o es ep ho _ => ?_; rw [hb] at ho; cases ho
   ·refine E22 (R₁.cells x h1) fun cl v h3 z3 => ?_; obtain ⟨o, ho, _⟩ := z3
    rw [h2] at h3; cases h3; rw [hb] at ho; cases ho
  ·obtain ⟨ob, e⟩ := (R₁.hp.obj b o (hle.2.1 b o ho)).1.some; rw [hb] at e; cases e
 have nI := none_of I hI
 refine codeAny_mono (loop_core (P := P) (H := Nw) (σ₀ := τ) (s := { s with heap := h', toks := tk, drawn := dr }) (k := k) J hA W (fun b hb => ?_) (fun n => (hNw _ n).1 rfl) hst R₃ nI.2.1 nI.1 nI.2.2.1 nI.2.2.2 (fun b hb => ?_) hj turn done) ?_
 ·rcases hfp b hb with h | h | h | h
  ·exact .inl h
  ·exact .inr (.inl h)
  ·exact h.elim
  ·exact .inr (.inr h)
 ·have := none_of b (hNw b hb).2.1
  exact (I04 ((hNw b hb).2.2) (this.1) (this.2.2.1) (this.2.2.2))
 ·intro r s' hr
  cases r with
  | error e => exact hr
  | ok f =>
   refine E65 hr fun Z' h'' tk' dr' fv τ' z6 S' R' rf hk'' => ?_; clear hr; subst z6
   refine (fin_mk ?_ (R'.unprotect (fun b p => .inl p) R.freeP) rf hk'')
   refine S₁.trans ((Step.kp hk').trans ⟨S'.grow, S'.keepZ, fun b o p e => S'.keepP b o (.inl p) e⟩)
theorem wS_ForH {target iter : Expr} {body : List Stmt} {pos : Pos} {k : FV → St → Prop} (J : List V → St → Prop) {d : Addr} {ob : O}
  (h : WE c A env σ iter fun X σ₁ => ∃ ord, SeqV c A target σ₁.hp X (fun b => b = d) ord ∧ (d, ob) ∈ σ₁.hp ∧ ∀ ys, ord ys → (σ₁.hp.map (·.1)).Nodup → ∃ τ, σ₁.le τ ∧ (∀ o, (d, o) ∉ τ.hp) ∧ J ys τ)
  (turn : ∀ X rest τ, J (X :: rest) τ → WA c A env τ target X fun τ₁ => WSs c A env τ₁ body (TurnK (J rest) fun f τ₂ => k f ⟨τ₂.loc, (d, ob) :: τ₂.hp⟩))
  (done : ∀ τ, J [] τ → k .next ⟨τ.loc, (d, ob) :: τ.hp⟩) (hs : ∀ x, foldedSetIterable iter env x = pure x := by intro _; rfl) : WS c A env σ (.For target iter body [] pos) k := by
 refine WP.mk fun hA Z P s R => ?_
 refine exec_For_any hs (wp_then h hA R fun Z₁ h₁ tk₁ dr₁ X σ₁ v S₁ R₁ r₁ kk => ?_)
 refine E13 kk fun ord hseq hdo hord => ?_; clear kk
 refine (hseq hA Z₁ P { s with heap := h₁, toks := tk₁, drawn := dr₁ } v R₁.inv.exZ R₁.hp r₁).run _ _ fun h' tk dr I fp Stt ys Nw hk hI hIe hNw hfp hst ho W => ?_
 have hk' : Kp h₁ h' := hk
 have R₂ : Rel c Z₁ P env σ₁ h' := R₁.kp hk'
 refine E13 (hord ys ho R₁.hp.nodup) fun τ hle hdτ hj => ?_
 have R₃ := R₂.le hle
 have none_of : ∀ b, h₁.get? b = none → ¬ Z₁ b ∧ ¬ P b ∧ ¬ OwnA env b ∧ ∀ o, (b, o) ∉ τ.hp := by
  intro b hb
  refine (I04 (fun z => ?_) (fun p => ?_) (fun o => ?_) (fun o ho => ?_))
  ·obtain ⟨o, e⟩ := R₁.inv.exZ b z; rw [hb] at e; cases e
  ·obtain ⟨o, e⟩ := R₁.inv.exP b p; rw [hb] at e; cases e
  ·rcases o with rfl | ⟨x, h1, h2⟩
   ·refine E42 R₁.ns fun m o es ep ho _ => ?_; rw [hb] at ho; cases ho
   ·refine E22 (R₁.cells x h1) fun cl v h3 z3 => ?_; obtain ⟨o, ho, _⟩ := z3
    rw [h2] at h3; cases h3; rw [hb] at ho; cases ho
  ·obtain ⟨ob, e⟩ := (R₁.hp.obj b o (hle.2.1 b o ho)).1.some; rw [hb] at e; cases e
 have nI := none_of I hI
 refine E03 (R₂.hp.obj d ob hdo) fun hd1 hd2 hd3 => ?_
 obtain ⟨od, hod⟩ := (R₁.hp.obj d ob hdo).1.some
 have hdI : d ≠ I := fun e => by
  have h0 : h₁.get? I = none := hI
  rw [e, h0] at hod; cases hod
 refine codeAny_mono (loop_core (P := P) (H := fun b => b = d ∨ Nw b) (σ₀ := τ) (s := { s with heap := h', toks := tk, drawn := dr }) (k := fun f τ₂ => k f ⟨τ₂.loc, (d, ob) :: τ₂.hp⟩) J hA W (fun b hb => ?_) (fun n => n.elim (fun e => hdI e.symm) fun n => (hNw _ n).1 rfl) hst R₃ nI.2.1 nI.1 nI.2.2.1 nI.2.2.2 (fun b hb => ?_) hj turn done) ?_
 ·rcases hfp b hb with h | h | h | h
  ·exact .inl h
  ·exact .inr (.inl h)
  ·exact .inr (.inr (.inl h))
  ·exact .inr (.inr (.inr h))
 ·rcases hb with rfl | hb
  ·exact (I04 hd1.some hd2 (R₂.hpOff _ ob hdo) hdτ)
  ·have := none_of b (hNw b hb).2.1
   exact (I04 ((hNw b hb).2.2) (this.1) (this.2.2.1) (this.2.2.2))
 ·intro r s' hr
  cases r with
  | error e => exact hr
  | ok f =>
   refine E65 hr fun Z' h'' tk' dr' fv τ' z6 S' R' rf hk'' => ?_; clear hr; subst z6
   have R4 : Rel c Z' (fun b => P b ∨ b = d) env τ' h'' := R'.unprotect (fun b p => p.elim .inl fun e => .inr (.inl e)) (fun x cl h1 h2 => .inl (R.freeP x cl h1 h2))
   refine (fin_mk ?_ (R4.addHp R.freeP (hd1.keep S'.grow S'.keepZ fun o e => S'.keepP d o (.inr (.inl rfl)) e) hd3) rf hk'')
   refine S₁.trans ((Step.kp hk').trans ⟨S'.grow, S'.keepZ, fun b o p e => S'.keepP b o (.inl p) e⟩)
end
end Mine
end
noncomputable section
namespace Mine
open PySem PySem.SeqAt
noncomputable def CallSpec (c : Cx) (n : Nat) (a : Addr) (H : List (Addr × O)) (Xs : List V) (post : V → List (Addr × O) → Prop) : Prop :=
 ∀ A Z P s vs (Q : Value → Shared → Prop), Rm n A → Inv c Z P s.heap → HpR c Z P s.heap H → RdL c Z s.heap Xs vs →
  (∀ v X Z' h' tk dr H', Step Z P s.heap Z' h' → Inv c Z' P h' → HpR c Z' P h' H' → Rd c Z' h' X v → post X H' → Q v { s with heap := h', toks := tk, drawn := dr }) →
  wpAny c.M A (call (.ref a) vs) Q (fun _ _ => False) s
structure FnAt (c : Cx) (a : Addr) (fd : FuncData) : Prop where
 obj : ∃ o, c.G.get? a = some o ∧ o.data = .func fd
 code : c.G.CodeRec fd.code fd.qualname
theorem bindL_not {kd : Str → Option NameKind} : ∀ {binds : List (Str × Value)} {m : Str → Option Value} {x : Str}, x ∉ binds.map (·.1) → bindL kd binds m x = m x
 | [], m, x, _ => rfl
 | (n, v) :: r, m, x, h => by
  simp only [List.map_cons, List.mem_cons, not_or] at h
  unfold bindL
  rw [bindL_not h.2]
  split
  ·simp [h.1]
  ·rfl
theorem bindC_not {kd : Str → Option NameKind} : ∀ {binds : List (Str × Value)} {m : Str → Option Value} {x : Str}, x ∉ binds.map (·.1) → bindC kd binds m x = m x
 | [], m, x, _ => rfl
 | (n, v) :: r, m, x, h => by
  simp only [List.map_cons, List.mem_cons, not_or] at h
  unfold bindC
  rw [bindC_not h.2]
  split
  ·rfl
  ·simp [h.1]
theorem bindL_get {kd : Str → Option NameKind} : ∀ {binds : List (Str × Value)} {m : Str → Option Value} {x : Str} {v : Value}, (binds.map (·.1)).Nodup → binds.lookup x = some v → kd x = some .local → bindL kd binds m x = some v
 | [], m, x, v, _, h, _ => by simp at h
 | (n, u) :: r, m, x, v, hn, h, hk => by
  simp only [List.map_cons, List.nodup_cons] at hn
  rw [List.lookup_cons] at h
  unfold bindL
  by_cases hx : x = n
  ·subst hx
   simp only [beq_self_eq_true] at h
   cases h
   rw [if_pos hk, bindL_not hn.1]; simp
  ·have : (x == n) = false := by simpa using hx
   rw [this] at h
   exact bindL_get hn.2 h hk
theorem bindC_get {kd : Str → Option NameKind} : ∀ {binds : List (Str × Value)} {m : Str → Option Value} {x : Str} {v : Value}, (binds.map (·.1)).Nodup → binds.lookup x = some v → kd x = some .cell → bindC kd binds m x = some v
 | [], m, x, v, _, h, _ => by simp at h
 | (n, u) :: r, m, x, v, hn, h, hk => by
  simp only [List.map_cons, List.nodup_cons] at hn
  rw [List.lookup_cons] at h
  unfold bindC
  by_cases hx : x = n
  ·subst hx
   simp only [beq_self_eq_true] at h
   cases h
   rw [if_neg (by rw [hk]; simp), bindC_not hn.1]; simp
  ·have : (x == n) = false := by simpa using hx
   rw [this] at h
   exact bindC_get hn.2 h hk
theorem cellsFrom_acc : ∀ {names : List (Str × NameKind)} {n : Nat} {acc : List (Str × Addr)} {x : Str}, (acc.lookup x).isSome = true → ((cellsFrom n names acc).lookup x).isSome = true
 | [], n, acc, x, h => h
 | (m, k) :: r, n, acc, x, h => by
  unfold cellsFrom
  split
  ·refine cellsFrom_acc ?_
   rw [List.lookup_cons]
   cases x == m
   ·exact h
   ·rfl
  ·exact cellsFrom_acc h
theorem cellsFrom_some : ∀ {names : List (Str × NameKind)} {n : Nat} {acc : List (Str × Addr)} {x : Str}, names.lookup x = some .cell → ((cellsFrom n names acc).lookup x).isSome = true
 | [], n, acc, x, h => by simp at h
 | (m, k) :: r, n, acc, x, h => by
  rw [List.lookup_cons] at h
  unfold cellsFrom
  cases hx : x == m with
  | true =>
   rw [hx] at h; cases h
   rw [if_pos (by decide)]
   refine cellsFrom_acc ?_
   rw [List.lookup_cons, hx]; rfl
  | false =>
   rw [hx] at h
   split
   ·exact cellsFrom_some h
   ·exact cellsFrom_some h
theorem zip_rd {c : Cx} {Z : Addr → Prop} {h : Heap} : ∀ {ps : List Str} {Xs : List V} {vs : List Value} {x : Str} {X : V}, RdL c Z h Xs vs → (ps.zip Xs).lookup x = some X → ∃ v, (ps.zip vs).lookup x = some v ∧ Rd c Z h X v := by
 intro ps
 induction ps with
 | nil => intro Xs vs x X _ e; cases e
 | cons p ps ih =>
  intro Xs vs x X r e
  cases r with
  | nil => cases e
  | cons r rs =>
   rw [List.zip_cons_cons, List.lookup_cons] at e ⊢
   cases hx : x == p with
   | true => rw [hx] at e; cases e; exact (I12 _ rfl r)
   | false => rw [hx] at e; exact ih rs e
theorem zip_fst {α : Type} : ∀ {ps : List Str} {vs : List α}, ps.length = vs.length → (ps.zip vs).map (·.1) = ps
 | [], [], _ => rfl
 | [], _ :: _, h => by simp at h
 | _ :: _, [], h => by simp at h
 | p :: ps, v :: vs, h => by simp at h; simp [zip_fst h]
noncomputable def retV : FV → V
 | .ret X => X
 | _ => .none
theorem Inv.kp {c : Cx} {Z P : Addr → Prop} {h h' : Heap} (I : Inv c Z P h) (hk : Kp h h') : Inv c Z P h' :=
 ⟨fun b o e => ⟨(I.ground b o e).1, hk _ _ (I.ground b o e).2⟩, fun b z => let ⟨o, e⟩ := I.exZ b z; ⟨o, hk _ _ e⟩, fun b p => let ⟨o, e⟩ := I.exP b p; ⟨o, hk _ _ e⟩, I.off, I.sys, I.top⟩
structure DefOk (fd : FuncData) (ps : List Str) (body : List Stmt) : Prop where
 body : fd.body = .stmts body
 clo : fd.closure = []
 gl : fd.globals = mainGlobals
 bl : fd.builtins = builtinsNs
 fn : fd.scope.kind = .function
 co : fd.scope.isCoroutine = false
 gen : fd.scope.isGenerator = false
 bind : ∀ vs : List Value, vs.length = ps.length → bindArgs fd ⟨vs, []⟩ = pure (ps.zip vs)
 nodup : ps.Nodup
 kinds : ∀ p ∈ ps, fd.scope.names.lookup p = some .local ∨ fd.scope.names.lookup p = some .cell
 noFree : ∀ p ∈ fd.scope.names, p.2 ≠ .free
theorem call_intro {c : Cx} {fd : FuncData} {a : Addr} {n : Nat} {ps : List Str} {Xs : List V} {H : List (Addr × O)} {post : V → List (Addr × O) → Prop} {body : List Stmt} (F : FnAt c a fd) (D : DefOk fd ps body) (hlen : Xs.length = ps.length)
  (h : ∀ A L, Rm n A → WSs c A (callEnvC fd L a) ⟨ps.zip Xs, H⟩ body fun f σ => post (retV f) σ.hp) : CallSpec c (n + 1) a H Xs post := by
 intro A Z P s vs Q hR I hH hX hQ
 refine E12 F.obj fun o ho hd => ?_
 have hl : vs.length = ps.length := by rw [← hX.length]; exact hlen
 have hdep := hR.depth
 refine wpAny_call (codeAny_call_cells (by omega) (I.ground a o ho).2 hd (I.top.nolimit.keeps fun b o e => (I.ground b o e).2) (F.code.keeps fun b o e => (I.ground b o e).2) D.body (D.bind vs hl) D.clo ?_ ?_ D.co D.gen D.fn)
 ·intro x hx
  have hm : x.1 ∈ ps := by
   have := List.mem_map_of_mem (f := (·.1)) hx
   rwa [zip_fst hl.symm] at this
  rcases D.kinds x.1 hm with h | h
  ·exact .inl h
  ·exact .inr ⟨h, cellsFrom_some h⟩
 ·intro s₁ x
  refine E21 x.toInCall.same fun h₁ tk₁ z2 => ?_; subst z2
  have hkp : Kp s.heap h₁ := x.toInCall.keep
  have hL : s.heap.get? s.heap.objs.size = none := fresh_none _ _ (Nat.le_refl _)
  have hnone : ∀ b, OwnA (callEnvC fd s.heap.objs.size a) b → s.heap.get? b = none := by
   rintro b (rfl | ⟨x', _, h2⟩)
   ·exact hL
   ·exact fresh_none _ _ (Nat.le_of_lt (x.above x' b (PySem.mem_of_lookup h2)))
  have R : Rel c Z P (callEnvC fd s.heap.objs.size a) ⟨ps.zip Xs, H⟩ h₁ := {
   inv := I.kp hkp
   fn := D.fn
   gl := D.gl
   bl := D.bl
   ns := ⟨_, x.toInCall.ns⟩
   cells := fun y hy => by
    obtain ⟨cl, hcl⟩ := Option.isSome_iff_exists.mp (cellsFrom_some (n := s.heap.objs.size + 1) (acc := []) hy)
    exact (I22 cl _ hcl (x.cell y cl hcl))
   inj := fun y z cl _ _ h1 h2 => name_of_addr x.apart (PySem.mem_of_lookup h1) (PySem.mem_of_lookup h2)
   cellL := fun y cl _ h1 => Nat.ne_of_gt (x.above y cl (PySem.mem_of_lookup h1))
   freeP := fun y cl h1 _ => absurd rfl (D.noFree (y, .free) (PySem.mem_of_lookup h1))
   own := fun b hb => by
    refine ⟨fun z => ?_, fun p => ?_⟩
    ·obtain ⟨o, e⟩ := I.exZ b z; rw [hnone b hb] at e; cases e
    ·obtain ⟨o, e⟩ := I.exP b p; rw [hnone b hb] at e; cases e
   vars := fun y Y e => by
    refine E12 (zip_rd hX e) fun v hv rv => ?_
    refine (I12 v ?_ (rv.kp hkp))
    have hnd : ((ps.zip vs).map (·.1)).Nodup := by rw [zip_fst hl.symm]; exact D.nodup
    have hm : y ∈ ps := by
     have := List.mem_map_of_mem (f := (·.1)) (PySem.mem_of_lookup hv)
     rwa [zip_fst hl.symm] at this
    rcases D.kinds y hm with h | h
    ·exact .inl (I02 h (I12 _ x.toInCall.ns (bindL_get hnd hv h)))
    ·obtain ⟨cl, hcl⟩ := Option.isSome_iff_exists.mp (cellsFrom_some (n := s.heap.objs.size + 1) (acc := []) h)
     refine .inr (I02 (.inl h) (I12 cl hcl ?_))
     have := x.cell y cl hcl
     rwa [bindC_get hnd hv h] at this
   hp := ⟨fun b ob hb => ⟨(hH.obj b ob hb).1.keep (fun _ z => z) (fun b o _ e => hkp b o e) (fun o => hkp b o), (hH.obj b ob hb).2⟩, hH.nodup⟩
   hpOff := fun b ob hb hown => by
    obtain ⟨o', e⟩ := (hH.obj b ob hb).1.some
    rw [hnone b hown] at e; cases e }
  refine wpAny_mono ((h _ _ (hR.deeper _)).run (hR.deeper _).ok Z P _ R) ?_ fun _ _ x => x.elim
  refine fun f _ => R65 fun Z₁ h₂ tk₂ dr₂ fv σ₁ z6 S₁ R₁ rf k₁ => ?_; subst z6
  have S₀ : Step Z P s.heap Z₁ h₂ := (Step.kp hkp).trans S₁
  cases rf with
  | ret r => exact hQ _ _ Z₁ h₂ tk₂ dr₂ σ₁.hp S₀ R₁.inv R₁.hp r k₁
  | next => exact hQ _ _ Z₁ h₂ tk₂ dr₂ σ₁.hp S₀ R₁.inv R₁.hp .none k₁
  | brk => exact hQ _ _ Z₁ h₂ tk₂ dr₂ σ₁.hp S₀ R₁.inv R₁.hp .none k₁
  | cont => exact hQ _ _ Z₁ h₂ tk₂ dr₂ σ₁.hp S₀ R₁.inv R₁.hp .none k₁
section
variable {c : Cx} {A : Around} {env : Env} {σ : St}
theorem call_from {a : Addr} {n : Nat} {H rest : List (Addr × O)} {Xs : List V} {post : V → List (Addr × O) → Prop} {k : V → St → Prop} {Z₀ Z P : Addr → Prop} {s : Shared} {h₁ : Heap} {tk₁ : Nat} {dr₁ : Drawn} {vs : List Value}
  (S₀ : Step Z₀ P s.heap Z h₁) (R : Rel c Z P env σ h₁) (hR : Rm n A) (hsplit : σ.hp.Perm (H ++ rest)) (C : CallSpec c n a H Xs post) (hX : RdL c Z h₁ Xs vs) (hk : ∀ X H', post X H' → k X ⟨σ.loc, H' ++ rest⟩) :
  wpAny c.M A (call (.ref a) vs) (Fin c P env (RV c) k Z₀ s) (fun _ _ => False) { s with heap := h₁, toks := tk₁, drawn := dr₁ } := by
 have hnd : ((H ++ rest).map (·.1)).Nodup := (hsplit.map _).nodup_iff.mp R.hp.nodup
 rw [List.map_append, List.nodup_append] at hnd
 have memH : ∀ b o, (b, o) ∈ H → (b, o) ∈ σ.hp := fun b o h => hsplit.mem_iff.mpr (List.mem_append_left _ h)
 have memR : ∀ b o, (b, o) ∈ rest → (b, o) ∈ σ.hp := fun b o h => hsplit.mem_iff.mpr (List.mem_append_right _ h)
 have dis : ∀ b o o', (b, o) ∈ H → (b, o') ∈ rest → False := fun b o o' h1 h2 => hnd.2.2 b (List.mem_map_of_mem h1) b (List.mem_map_of_mem h2) rfl
 let N : Addr → Prop := fun b => OwnA env b ∨ ∃ o, (b, o) ∈ rest
 have exN : ∀ b, N b → ∃ o, h₁.get? b = some o := by
  rintro b (hb | ⟨o, hb⟩)
  ·rcases hb with rfl | ⟨x, h1, h2⟩
   ·refine E42 R.ns fun m o es ep ho _ => ?_; exact ⟨o, ho⟩
   ·refine E22 (R.cells x h1) fun cl v h3 z3 => ?_; obtain ⟨o, ho, _⟩ := z3
    rw [h2] at h3; cases h3; exact ⟨o, ho⟩
  ·exact (R.hp.obj b o (memR b o hb)).1.some
 have I : Inv c Z (fun b => P b ∨ N b) h₁ := ⟨R.inv.ground, R.inv.exZ, fun b p => p.elim (R.inv.exP b) (exN b), fun b z p => p.elim (R.inv.off b z) fun n => by
  rcases n with hb | ⟨o, hb⟩
  ·exact (R.own b hb).1 z
  ·exact (R.hp.obj b o (memR b o hb)).2.1 z, R.inv.sys, R.inv.top⟩
 refine C A Z (fun b => P b ∨ N b) { s with heap := h₁, toks := tk₁, drawn := dr₁ } vs _ hR I ⟨fun b o hb => (I03 ((R.hp.obj b o (memH b o hb)).1) ((R.hp.obj b o (memH b o hb)).2.1) (fun p => p.elim (R.hp.obj b o (memH b o hb)).2.2 fun n => ?_)), hnd.1⟩ hX ?_
 ·rcases n with h | ⟨o', h⟩
  ·exact R.hpOff b o (memH b o hb) h
  ·exact dis b o o' hb h
 intro v X Z' h' tk dr H' S I' hH' r hp
 have hkN : ∀ b o, N b → h₁.get? b = some o → h'.get? b = some o := fun b o n e => S.keepP b o (.inr n) e
 refine (fin_mk (S₀.trans ⟨S.grow, S.keepZ, fun b o p e => S.keepP b o (.inl p) e⟩) ?_ r (hk X H' hp))
 exact {
  inv := ⟨I'.ground, I'.exZ, fun b p => I'.exP b (.inl p), fun b z p => I'.off b z (.inl p), I'.sys, I'.top⟩
  fn := R.fn
  gl := R.gl
  bl := R.bl
  ns := let ⟨m, o, es, ep, ho, q⟩ := R.ns; (I42 m o es ep (hkN _ _ (.inl (.inl rfl)) ho) q)
  cells := fun x hx => let ⟨cl, v, h1, ⟨o, ho, q⟩⟩ := R.cells x hx; (I22 cl v h1 (I12 o (hkN _ _ (.inl (.inr (I12 x hx h1))) ho) q))
  inj := R.inj
  cellL := R.cellL
  freeP := R.freeP
  own := fun b hb => ⟨fun z => I'.off b z (.inr (.inl hb)), (R.own b hb).2⟩
  vars := fun x Y e => by
   refine E12 (R.vars x Y e) fun u hu ru => ?_
   refine (I12 u ?_ (ru.keep S.grow S.keepZ))
   rcases hu with ⟨k1, m, ⟨o, es, ep, ho, q⟩, hm1⟩ | ⟨k1, cl, h1, ⟨o, ho, q⟩⟩
   ·exact .inl (I02 k1 (I12 m (I32 o es ep (hkN _ _ (.inl (.inl rfl)) ho) q) hm1))
   ·refine .inr (I02 k1 (I12 cl h1 (I12 o ?_ q)))
    rcases k1 with k1 | k1
    ·exact hkN _ _ (.inl (.inr (I12 x k1 h1))) ho
    ·exact S.keepP _ _ (.inl (R.freeP x cl k1 h1)) ho
  hp := ⟨fun b o hb => by
   rcases List.mem_append.mp hb with hb | hb
   ·exact (I03 ((hH'.obj b o hb).1) ((hH'.obj b o hb).2.1) (fun p => (hH'.obj b o hb).2.2 (.inl p)))
   ·have hr := R.hp.obj b o (memR b o hb)
    exact (I03 (hr.1.keep S.grow S.keepZ (fun o' e => hkN b o' (.inr ⟨o, hb⟩) e)) (fun z => I'.off b z (.inr (.inr ⟨o, hb⟩))) (hr.2.2)), by
   rw [List.map_append, List.nodup_append]
   refine (I03 hH'.nodup (hnd.2.1) ?_)
   rintro b hb b' hb' rfl
   refine E12 (List.mem_map.mp hb) fun z0 hx z2 => ?_; obtain ⟨x, o⟩ := z0; subst z2
   refine E12 (List.mem_map.mp hb') fun z0 hy e => ?_; obtain ⟨y, o'⟩ := z0
   simp only at e; subst e
   exact (hH'.obj _ o hx).2.2 (.inr (.inr ⟨o', hy⟩))⟩
  hpOff := fun b o hb hown => by
   rcases List.mem_append.mp hb with hb | hb
   ·exact (hH'.obj b o hb).2.2 (.inr (.inl hown))
   ·exact R.hpOff b o (memR b o hb) hown }
theorem load_global {f : Str} {v : Value} {s : Shared} {Z P : Addr → Prop} {Q : Value → Shared → Prop} {E : Value → Shared → Prop} {pos : Pos} (R : Rel c Z P env σ s.heap) (hv : c.mg f = some v) (hk : env.kindOf f = some .globalImplicit) (h : Q v s)
  (hd : (f == ("__debug__" : Str)) = false) : wpAny c.M A (eval (.Name f pos) env) Q E s :=
 Calls.Name_function_global R.fn hk (Calls.loadGlobal_global (R.gl ▸ R.inv.top.g.keeps fun b o e => (R.inv.ground b o e).2) hv h) hd
theorem load_builtin {f : Str} {v : Value} {s : Shared} {Z P : Addr → Prop} {Q : Value → Shared → Prop} {E : Value → Shared → Prop} {pos : Pos} (R : Rel c Z P env σ s.heap) (hm : c.mg f = none) (hv : bootBuiltins f = some v) (hn : f ≠ "__name__") (hk : env.kindOf f = some .globalImplicit) (h : Q v s)
  (hd : (f == ("__debug__" : Str)) = false) : wpAny c.M A (eval (.Name f pos) env) Q E s :=
 Calls.Name_function_global R.fn hk (Calls.loadGlobal_builtin (R.gl ▸ R.inv.top.g.keeps fun b o e => (R.inv.ground b o e).2) hm (R.bl ▸ R.inv.top.b.keeps fun b o e => (R.inv.ground b o e).2) ((R.inv.top.blt f hn).trans hv) h) hd
theorem wE_Call {f : Str} {fpos pos : Pos} {e : Expr} {es : List Expr} {a : Addr} {fd : FuncData} {k : V → St → Prop} (hf : c.mg f = some (.ref a)) (F : FnAt c a fd) (hk : env.kindOf f = some .globalImplicit)
  (h : WEs c A env σ pos (e :: es) fun Xs σ₁ => ∃ n H rest post, Rm n A ∧ σ₁.hp.Perm (H ++ rest) ∧ CallSpec c n a H Xs post ∧ ∀ X H', post X H' → k X ⟨σ₁.loc, H' ++ rest⟩)
  (hd : (f == ("__debug__" : Str)) = false := by decide) (he : starEach (e :: es) env = (false, eval e env) :: starEach es env := by rfl) : WE c A env σ (.Call (.Name f fpos) (e :: es) [] pos) k := by
 refine WP.mk fun hA Z P s R => ?_
 refine E12 F.obj fun o ho hdt => ?_
 show wpAny _ _ (do callWith pos (← eval (.Name f fpos) env) [] (backTo pos (starEach (e :: es) env)) (backToKw pos (keywordEach [] env))) _ _ s
 refine wpAny_bind (load_global R hf hk ?_ hd)
 have h' := h.run hA Z P s R
 unfold WEs at h
 rw [he] at h' ⊢
 refine Calls.callWith_function (o := o) (fd := fd) (Calls.evalArgs_plain (wpAny_mono h' ?_ fun _ _ x => x))
 refine fun vs _ => R65 fun Z₁ h₁ tk₁ dr₁ Xs σ₁ z6 S₁ R₁ r₁ y0 => E44 y0 fun n H rest post hR hsp hC k₁ => ?_; subst z6
 exact ⟨⟨(R₁.inv.ground a o ho).2, hdt⟩, call_from S₁ R₁ hR hsp hC r₁ k₁⟩
noncomputable def Pure (c : Cx) (n : Nat) (a : Addr) (Xs : List V) (r : V) : Prop := CallSpec c n a [] Xs fun X H' => X = r ∧ H' = []
theorem wE_Pure {f : Str} {fpos pos : Pos} {e : Expr} {es : List Expr} {a : Addr} {fd : FuncData} {k : V → St → Prop} (hf : c.mg f = some (.ref a)) (F : FnAt c a fd) (hk : env.kindOf f = some .globalImplicit)
  (h : WEs c A env σ pos (e :: es) fun Xs σ₁ => ∃ n r, Rm n A ∧ Pure c n a Xs r ∧ k r σ₁)
  (hd : (f == ("__debug__" : Str)) = false := by decide) (he : starEach (e :: es) env = (false, eval e env) :: starEach es env := by rfl) : WE c A env σ (.Call (.Name f fpos) (e :: es) [] pos) k := by
 refine wE_Call hf F hk ?_ hd he
 refine WP.mk fun hA Z P s R => ?_
 refine wp_then h hA R fun Z₁ h₁ tk₁ dr₁ Xs σ₁ vs S₁ R₁ r₁ kk => ?_
 refine E23 kk fun n r hR hC k₁ => ?_; clear kk
 exact (I65 Z₁ h₁ tk₁ dr₁ Xs σ₁ rfl S₁ R₁ r₁ (I44 n [] σ₁.hp _ hR (.refl _) hC (by rintro X H' ⟨rfl, rfl⟩; exact k₁)))
end
end Mine
end
noncomputable section
namespace Mine
open PySem PySem.SeqAt
noncomputable def turnTree (it : Value) (ipos : Pos) (target : Expr) (ifs : List Expr) (env : Env) (inner : Sem PySem.Fin) (nxt : Code) : Sem PySem.Fin := do
 standAt ipos
 match ← pyNext it with
 | none => pure (.done .next)
 | some v =>
  letOwnedTupleGo target it v
  assign target env v
  let mut ok := true
  for c in ifs do
   if ok then ok ← isTrue c env (eval c env)
  if ok then inner else again nxt
noncomputable def emitTree (elt : Expr) (acc : Value) (env : Env) : Sem Unit := do let _ ← call (.builtin "list.append") [acc, ← eval elt env]
theorem turn_one (elt target iter : Expr) (ifs : List Expr) (scope : Scope) (pos : Pos) (it acc : Value) (env : Env) :
  compTurn (.ListComp elt [⟨target, iter, ifs, 0⟩] scope pos) 0 it acc env = turnTree it iter.pos target ifs env (do emitTree elt acc env; again (.compLoop (.ListComp elt [⟨target, iter, ifs, 0⟩] scope pos) 0 it acc env)) (.compLoop (.ListComp elt [⟨target, iter, ifs, 0⟩] scope pos) 0 it acc env) := by rfl
theorem turn_snd (elt target iter target' iter' : Expr) (ifs ifs' : List Expr) (scope : Scope) (pos : Pos) (it acc : Value) (env : Env) :
  compTurn (.ListComp elt [⟨target, iter, ifs, 0⟩, ⟨target', iter', ifs', 0⟩] scope pos) 1 it acc env = turnTree it iter'.pos target' ifs' env (do emitTree elt acc env; again (.compLoop (.ListComp elt [⟨target, iter, ifs, 0⟩, ⟨target', iter', ifs', 0⟩] scope pos) 1 it acc env)) (.compLoop (.ListComp elt [⟨target, iter, ifs, 0⟩, ⟨target', iter', ifs', 0⟩] scope pos) 1 it acc env) := by rfl
theorem turn_fst (elt target iter target' iter' : Expr) (ifs ifs' : List Expr) (scope : Scope) (pos : Pos) (it acc : Value) (env : Env) :
  compTurn (.ListComp elt [⟨target, iter, ifs, 0⟩, ⟨target', iter', ifs', 0⟩] scope pos) 0 it acc env = turnTree it iter.pos target ifs env (do
    let x ← eval iter' env
    standAt iter'.pos
    let x ← foldedSetIterable iter' env x
    let _ ← runOwn (.compStart (.ListComp elt [⟨target, iter, ifs, 0⟩, ⟨target', iter', ifs', 0⟩] scope pos) 1 (← holding [x] (pyIter x)) acc env) env
    again (.compLoop (.ListComp elt [⟨target, iter, ifs, 0⟩, ⟨target', iter', ifs', 0⟩] scope pos) 0 it acc env)) (.compLoop (.ListComp elt [⟨target, iter, ifs, 0⟩, ⟨target', iter', ifs', 0⟩] scope pos) 0 it acc env) := by rfl
section
variable {c : Cx} {A : Around} {env : Env} {σ : St}
noncomputable def testsTree (ifs : List Expr) (env : Env) (b : Bool) : Sem Bool := forIn ifs b fun c r => if r = true then do let ok ← isTrue c env (eval c env); pure (ForInStep.yield ok) else pure (ForInStep.yield r)
noncomputable def WTs (c : Cx) (A : Around) (env : Env) (σ : St) (ifs : List Expr) (b : Bool) (k : Bool → St → Prop) : Prop := WP c A env σ (testsTree ifs env b) RB k
theorem wTs_nil {b : Bool} {k : Bool → St → Prop} (h : k b σ) : WTs c A env σ [] b k := by
 refine WP.mk fun hA Z P s R => ?_
 unfold testsTree
 rw [List.forIn_nil]
 exact wpAny_pure (fin_mk (Step.refl ..) R rfl h)
theorem wTs_false {ifs : List Expr} {k : Bool → St → Prop} (h : k false σ) : WTs c A env σ ifs false k := by
 induction ifs with
 | nil => exact wTs_nil h
 | cons e es ih =>
  refine WP.mk fun hA Z P s R => ?_
  unfold testsTree
  rw [List.forIn_cons]
  simp only [Bool.false_eq_true, if_false]
  exact wpAny_bind (wpAny_pure (ih.run hA Z P s R))
theorem wTs_cons {e : Expr} {ifs : List Expr} {k : Bool → St → Prop} (h : WT c A env σ e fun b σ₁ => if b then WTs c A env σ₁ ifs true k else k false σ₁) : WTs c A env σ (e :: ifs) true k := by
 refine WP.mk fun hA Z P s R => ?_
 unfold testsTree
 rw [List.forIn_cons]
 simp only [if_true]
 refine wpAny_bind (wpAny_bind (wp_thenB h hA R fun Z₁ h₁ tk₁ dr₁ b σ₁ S₁ R₁ k₁ => ?_))
 refine wpAny_pure ?_
 cases b with
 | true => exact wpAny_mono (k₁.run hA Z₁ P _ R₁) (fun _ _ f => Fin.after S₁ f) fun _ _ x => x
 | false => exact wpAny_mono ((wTs_false k₁).run hA Z₁ P _ R₁) (fun _ _ f => Fin.after S₁ f) fun _ _ x => x
@[reducible] noncomputable def St.acc (σ : St) (D : Addr) (zs : List V) : St := ⟨σ.loc, (D, O.lst zs) :: σ.hp⟩
noncomputable def Emits {α : Type} (c : Cx) (A : Around) (env : Env) (σ τ : St) (D : Addr) (t : Sem α) (ys : List V) : Prop :=
 AOk A → ∀ Z P s zs, zs.length + ys.length ≤ sizeLine → Rel c Z P env (σ.acc D zs) s.heap → wpAny c.M A t (fun _ s' => ∃ Z' h' tk dr, s' = { s with heap := h', toks := tk, drawn := dr } ∧ Step Z P s.heap Z' h' ∧ Rel c Z' P env (τ.acc D (zs ++ ys)) h') (fun _ _ => False) s
theorem Rel.hp_changed {Z P : Addr → Prop} {h h' : Heap} {a : Addr} {o o' : O} {rest : List (Addr × O)} (R : Rel c Z P env σ h) (hσ : σ.hp = (a, o) :: rest) (hs : Heap.SameBut a h h') (ho : RdO c Z h' a o') : Rel c Z P env ⟨σ.loc, (a, o') :: rest⟩ h' := by
 have ha := R.hp.obj a o (by rw [hσ]; exact .head _)
 have hown := R.hpOff a o (by rw [hσ]; exact .head _)
 have hnd := R.hp.nodup
 rw [hσ] at hnd
 simp only [List.map_cons, List.nodup_cons] at hnd
 have R' : Rel c Z P env ⟨σ.loc, rest⟩ h := R.le (I03 (fun x X e => e) (fun b ob hb => by rw [hσ]; exact .tail _ hb) (fun _ => hnd.2))
 have hn : ∀ ob, (a, ob) ∉ rest := fun ob hb => hnd.1 (List.mem_map_of_mem (f := (·.1)) hb)
 have R2 : Rel c Z P env ⟨σ.loc, rest⟩ h' := R'.but (N := fun b => b = a) (fun b ob n e => hs.extBut b ob n e) (by rintro b rfl; exact ha.2.1) (by rintro b rfl; exact hown) (by rintro b rfl; exact hn)
  (by rintro b p rfl; exact absurd p ha.2.2) (by rintro x cl h1 h2 rfl; exact ha.2.2 (R.freeP x _ h1 h2))
 refine { R2 with
  vars := R2.vars
  hp := ⟨fun b ob hb => ?_, by simp only [List.map_cons, List.nodup_cons]; exact hnd⟩
  hpOff := fun b ob hb => ?_ }
 ·rcases List.mem_cons.mp hb with e | hb
  ·cases e; exact ⟨ho, ha.2⟩
  ·exact R2.hp.obj b ob hb
 ·rcases List.mem_cons.mp hb with e | hb
  ·cases e; exact hown
  ·exact R2.hpOff b ob hb
theorem Rel.step_hp {Z P : Addr → Prop} {h h' : Heap} {a : Addr} {o : O} (R : Rel c Z P env σ h) (ha : (a, o) ∈ σ.hp) (hs : Heap.SameBut a h h') : Step Z P h Z h' :=
 ⟨fun _ z => z, fun b ob z e => hs.extBut b ob (fun e' => (R.hp.obj a o ha).2.1 (e' ▸ z)) e, fun b ob p e => hs.extBut b ob (fun e' => (R.hp.obj a o ha).2.2 (e' ▸ p)) e⟩
end
end Mine
end
noncomputable section
namespace Mine
open PySem PySem.SeqAt
section
variable {c : Cx} {A : Around} {env : Env} {σ : St} {Z P : Addr → Prop}
noncomputable def EmitsA (c : Cx) (A : Around) (env : Env) (σ₂ σ : St) (D : Addr) (zs : List V) (t : Sem PySem.Fin) (nxt : Code) (ys : List V) : Prop :=
 AOk A → ∀ Z P s, zs.length + ys.length ≤ sizeLine → Rel c Z P env σ₂ s.heap → wpAny c.M A t (fun fin s' => fin = .again nxt ∧ ∃ Z' h' tk dr, s' = { s with heap := h', toks := tk, drawn := dr } ∧ Step Z P s.heap Z' h' ∧ Rel c Z' P env (σ.acc D (zs ++ ys)) h') (fun _ _ => False) s
theorem emitsA_elt {elt : Expr} {D : Addr} {σ₂ : St} {zs ys : List V} {nxt : Code} (h : WE c A env σ₂ elt fun Y σ' => ys = [Y] ∧ σ'.le (σ.acc D zs)) : EmitsA c A env σ₂ σ D zs (do emitTree elt (.ref D) env; again nxt) nxt ys := by
 intro hA Z P s hsz R
 unfold emitTree
 refine wpAny_bind (wpAny_bind (wp_then h hA R fun Z₁ h₁ tk₁ dr₁ X σ₁ v S₁ R₁ r₁ kk => ?_))
 obtain ⟨rfl, hle⟩ := kk
 have R₂ := R₁.le hle
 refine E03 (R₂.hp.obj D _ (.head _)) fun z0 hz hp => ?_; obtain ⟨items, hpl, rl⟩ := z0
 have hl := rl.length
 simp only [Array.length_toList] at hl
 simp only [List.length_cons, List.length_nil] at hsz
 refine wpAny_bind (wpAny_list_append_plain (s := { s with heap := h₁, toks := tk₁, drawn := dr₁ }) hpl (fun h' hpl' hs' => wpAny_pure (wpAny_pure (I02 rfl (I43 Z₁ h' tk₁ dr₁ rfl (S₁.trans (R₂.step_hp (.head _) hs')) (R₂.hp_changed rfl hs' (I12 (items.push v) hpl' ?_)))))) (by omega))
 have := (rl.append (.cons r₁ .nil)).keep (fun _ z => z) (fun b o z e => hs'.extBut b o (fun e' => hz (e' ▸ z)) e)
 simpa using this
noncomputable def TurnC (c : Cx) (A : Around) (env : Env) (σ : St) (D : Addr) (target : Expr) (ifs : List Expr) (inner : Sem PySem.Fin) (nxt : Code) (X : V) (ys : List V) : Prop :=
 ∀ zs, WA c A env (σ.acc D zs) target X fun σ₁ => WTs c A env σ₁ ifs true fun ok σ₂ => if ok then EmitsA c A env σ₂ σ D zs inner nxt ys else σ₂.le (σ.acc D zs) ∧ ys = []
theorem next_bind {β : Type} {target : Expr} {it : Value} {f : Option Value → Sem β} {rest : Value → Sem β} {Q : β → Shared → Prop} {E : Value → Shared → Prop} {s : Shared}
  (h : wpAny c.M A (pyNext it) (fun r s₁ => match r with | none => False | some v => wpAny c.M A (letOwnedTupleGo target it v) (fun _ s₂ => wpAny c.M A (rest v) Q E s₂) E s₁) E s)
  (hf : ∀ v, f (some v) = (do letOwnedTupleGo target it v; rest v)) : wpAny c.M A (pyNext it >>= f) Q E s := by
 refine wpAny_bind (wpAny_mono h ?_ fun _ _ x => x)
 intro r s₁ hr
 cases r with
 | none => exact hr.elim
 | some v => rw [hf]; exact wpAny_bind hr
theorem compLoop_core {e : Expr} {d : Nat} {target : Expr} {ipos : Pos} {ifs : List Expr} {inner : Sem PySem.Fin} {xs : List V} {I D : Addr} {fp : List Addr} {Stt : Nat → Heap → Prop} {H : Addr → Prop} {s : Shared} {zs : List V} (g : V → List V)
  (hq : (Code.compLoop e d (.ref I) (.ref D) env).quiet = true)
  (hden : c.M.den (.compLoop e d (.ref I) (.ref D) env) = (compTurn e d (.ref I) (.ref D) env).onRaise (fun x => do noteFrame x env; theTreesLotGoes x)) (hund : A.under (.compLoop e d (.ref I) (.ref D) env) = A)
  (htree : compTurn e d (.ref I) (.ref D) env = turnTree (.ref I) ipos target ifs env inner (.compLoop e d (.ref I) (.ref D) env))
  (hA : AOk A) (W : Iter c A target I fp xs Stt Z s.heap) (hfp : ∀ b ∈ fp, b = I ∨ Z b ∨ H b) (hHI : ¬ H I)
  (hst : Stt 0 s.heap) (R : Rel c Z P env (σ.acc D zs) s.heap) (hPI : ¬ P I) (hZI : ¬ Z I) (hOI : ¬ OwnA env I) (hHI' : ∀ o, (I, o) ∉ (σ.acc D zs).hp)
  (hH : ∀ b, H b → (∃ o, s.heap.get? b = some o) ∧ ¬ Z b ∧ ¬ OwnA env b ∧ ∀ o, (b, o) ∉ (σ.acc D zs).hp)
  (hsz : zs.length + (xs.flatMap g).length ≤ sizeLine)
  (turn : ∀ X ∈ xs, TurnC c A env σ D target ifs inner (.compLoop e d (.ref I) (.ref D) env) X (g X)) :
  codeAny c.M A (.compLoop e d (.ref I) (.ref D) env) (fun r s' => r = .ok .next ∧ ∃ Z' h' tk dr, s' = { s with heap := h', toks := tk, drawn := dr } ∧ Step Z (fun b => P b ∨ H b) s.heap Z' h' ∧ Rel c Z' (fun b => P b ∨ H b) env (σ.acc D (zs ++ xs.flatMap g)) h') s := by
 have hfree := R.freeP
 let P₁ : Addr → Prop := fun b => P b ∨ (b = I ∨ H b)
 have hexI : ∃ o, s.heap.get? I = some o := W.ex 0 _ hst
 have R₁ : Rel c Z P₁ env (σ.acc D zs) s.heap := R.protect fun b hb => by
  rcases hb with rfl | hb
  ·exact (I04 hexI hZI hOI hHI')
  ·exact hH b hb
 refine codeAny_loop (M := c.M) (A := A) hq (fun n s' => ∃ i Z' h' tk dr, n = xs.length + 1 - i ∧ i ≤ xs.length ∧ s' = { s with heap := h', toks := tk, drawn := dr } ∧ Step Z (fun b => P b ∨ H b) s.heap Z' h' ∧ Rel c Z' P₁ env (σ.acc D (zs ++ (xs.take i).flatMap g)) h' ∧ Stt i h')
  ?_ (xs.length + 1) (I56 0 Z s.heap s.toks s.drawn rfl (Nat.zero_le _) rfl (Step.refl ..) (by simpa using R₁) hst)
 refine fun n _ => R56 fun i Z' h' tk dr z5 hi z7 S' R' hst' => ?_; subst z5; subst z7
 rw [hund, hden]
 refine wpAny_noted ?_
 rw [htree]
 unfold turnTree
 refine wpAny_bind (wpAny_standAt ?_)
 have hPP : ∀ b, (P b ∨ H b) → P₁ b := fun b p => p.elim .inl fun x => .inr (.inr x)
 have hfree' : ∀ x cl, env.kindOf x = some .free → env.cells.lookup x = some cl → P cl ∨ H cl := fun x cl h1 h2 => .inl (hfree x cl h1 h2)
 generalize hτ : σ.acc D (zs ++ (xs.take i).flatMap g) = τ at R'
 have offI : ∀ b, b = I → ¬ Z' b := by rintro b rfl z; exact R'.inv.off _ z (.inr (.inl rfl))
 have offO : ∀ b, b = I → ¬ OwnA env b := by rintro b rfl o; exact (R'.own _ o).2 (.inr (.inl rfl))
 have offH : ∀ b, b = I → ∀ o, (b, o) ∉ τ.hp := by rintro b rfl o ho; exact (R'.hp.obj _ o ho).2.2 (.inr (.inl rfl))
 have offF : ∀ x cl, env.kindOf x = some .free → env.cells.lookup x = some cl → ¬ cl = I := fun x cl h1 h2 e => hPI (e ▸ hfree x cl h1 h2)
 have ext : ∀ h₁ : Heap, (∀ b o, b ≠ I → h'.get? b = some o → h₁.get? b = some o) → Step Z (fun b => P b ∨ H b) s.heap Z' h₁ := fun h₁ hk =>
  ⟨S'.grow, fun b o z e => hk b o (by rintro rfl; exact hZI z) (S'.keepZ b o z e), fun b o p e => hk b o (by rintro rfl; exact p.elim hPI hHI) (S'.keepP b o p e)⟩
 by_cases hlt : i < xs.length
 ·obtain ⟨X, hX⟩ : ∃ X, xs[i]? = some X := ⟨xs[i], by simp [hlt]⟩
  refine next_bind (target := target) (rest := fun v => do
    assign target env v
    let ok ← testsTree ifs env true
    if ok then inner else again (.compLoop e d (.ref I) (.ref D) env)) (W.item i X _ Z' _ _ hX hst' S'.grow S'.keepZ ?_) (fun v => rfl)
  intro v h₁ tk₁ N hst₁ hk₁ hN rX
  have hkI := W.ex _ _ hst₁
  have R₀ : Rel c Z' P₁ env τ h₁ := R'.but (N := fun b => b = I) (fun b o n e => hk₁ b o n e) offI offO offH (fun b _ n => n ▸ hkI) offF
  have hNn : ∀ b, N b → h'.get? b = none := fun b hb => (hN b hb).1
  have R₁' : Rel c (fun b => Z' b ∨ N b) P₁ env τ h₁ := R₀.freeze fun b hb => by
   refine (I04 ((hN b hb).2) (fun p => ?_) (fun o => ?_) (fun o ho => ?_))
   ·obtain ⟨o, e⟩ := R'.inv.exP b p
    rw [hNn b hb] at e; cases e
   ·rcases o with rfl | ⟨x, h1, h2⟩
    ·refine E42 R'.ns fun m o es ep ho _ => ?_
     rw [hNn _ hb] at ho; cases ho
    ·refine E22 (R'.cells x h1) fun cl v h3 z3 => ?_; obtain ⟨o, ho, _⟩ := z3
     rw [h2] at h3; cases h3
     rw [hNn _ hb] at ho; cases ho
   ·obtain ⟨ob, e⟩ := (R'.hp.obj b o ho).1.some
    rw [hNn b hb] at e; cases e
  have S₁ : Step Z (fun b => P b ∨ H b) s.heap (fun b => Z' b ∨ N b) h₁ := let x := ext h₁ hk₁; ⟨fun b z => .inl (x.grow b z), x.keepZ, x.keepP⟩
  subst hτ
  have hXm : X ∈ xs := List.mem_of_getElem? hX
  have htake : (xs.take (i + 1)).flatMap g = (xs.take i).flatMap g ++ g X := by
   rw [List.take_add_one, hX]; simp
  have hszi : (zs ++ (xs.take i).flatMap g).length + (g X).length ≤ sizeLine := by
   have h1 : ((xs.take (i + 1)).flatMap g).length ≤ (xs.flatMap g).length := by
    conv => rhs; rw [← List.take_append_drop (i + 1) xs]
    rw [List.flatMap_append, List.length_append]; omega
   rw [htake, List.length_append] at h1
   rw [List.length_append]; omega
  have stop : ∀ (Z₃ : Addr → Prop) (h₃ : Heap) (tk₃ : Nat) (dr₃ : Drawn), Step (fun b => Z' b ∨ N b) P₁ h₁ Z₃ h₃ → Rel c Z₃ P₁ env (σ.acc D (zs ++ (xs.take (i + 1)).flatMap g)) h₃ →
    ∃ m, m < xs.length + 1 - i ∧ ∃ i' Z' h' tk dr, m = xs.length + 1 - i' ∧ i' ≤ xs.length ∧ ({ s with heap := h₃, toks := tk₃, drawn := dr₃ } : Shared) = { s with heap := h', toks := tk, drawn := dr } ∧ Step Z (fun b => P b ∨ H b) s.heap Z' h' ∧ Rel c Z' P₁ env (σ.acc D (zs ++ (xs.take i').flatMap g)) h' ∧ Stt i' h' := by
   intro Z₃ h₃ tk₃ dr₃ S₃ R₃
   have hSt : Stt (i + 1) h₃ := W.frame _ _ _ hst₁ fun b hb o e => by
    rcases hfp b hb with rfl | z | hh
    ·exact S₃.keepP _ o (.inr (.inl rfl)) e
    ·exact S₃.keepZ _ o (.inl (S'.grow b z)) e
    ·exact S₃.keepP _ o (.inr (.inr hh)) e
   have S₄ : Step Z (fun b => P b ∨ H b) s.heap Z₃ h₃ := ⟨fun b z => S₃.grow b (S₁.grow b z), fun b o z e => S₃.keepZ b o (S₁.grow b z) (S₁.keepZ b o z e), fun b o p e => S₃.keepP b o (p.elim .inl fun x => .inr (.inr x)) (S₁.keepP b o p e)⟩
   exact (I12 (xs.length + 1 - (i + 1)) (by omega) (I56 (i + 1) Z₃ h₃ tk₃ dr₃ rfl hlt rfl S₄ R₃ hSt))
  refine wpAny_bind (wpAny_mono (turn X hXm (zs ++ (xs.take i).flatMap g) hA _ P₁ { s with heap := h₁, toks := tk₁, drawn := dr } v R₁' rX) ?_ fun _ _ x => x.elim)
  refine fun _ _ => R65 fun Z₂ h₂ tk₂ dr₂ _ τ₂ z6 S₂ R₂ _ k₂ => ?_; subst z6
  refine wpAny_bind (m := testsTree ifs env true) (wp_thenB k₂ hA R₂ fun Z₃ h₃ tk₃ dr₃ ok τ₃ S₃ R₃ k₃ => ?_)
  cases ok with
  | true =>
   refine wpAny_mono (k₃ hA Z₃ P₁ { s with heap := h₃, toks := tk₃, drawn := dr₃ } hszi R₃) ?_ fun _ _ x => x.elim
   refine fun fin _ => R02 fun z0 y0 => E43 y0 fun Z₄ h₄ tk₄ dr₄ z5 S₄ R₄ => ?_; subst z0; subst z5
   refine ⟨rfl, stop Z₄ h₄ tk₄ dr₄ ((S₂.trans S₃).trans S₄) ?_⟩
   rw [htake, ← List.append_assoc]; exact R₄
  | false =>
   obtain ⟨hle, hnil⟩ := k₃
   refine wpAny_pure ⟨rfl, stop Z₃ h₃ tk₃ dr₃ (S₂.trans S₃) ?_⟩
   rw [htake, hnil, List.append_nil]; exact R₃.le hle
 ·have hin : i = xs.length := by omega
  subst hin
  refine wpAny_bind (W.done _ _ _ hst' fun h₁ tk₁ hk₁ => wpAny_pure ?_)
  have Rp : Rel c Z' (fun b => P b ∨ H b) env τ h' := R'.unprotect hPP hfree'
  have R₁' : Rel c Z' (fun b => P b ∨ H b) env τ h₁ := Rp.but (N := fun b => b = I) (fun b o n e => hk₁ b o n e) offI offO offH (fun b p n => absurd p (n ▸ fun x => x.elim hPI hHI)) offF
  refine (I02 rfl (I43 Z' h₁ tk₁ dr rfl (ext h₁ hk₁) ?_))
  rw [← hτ, List.take_length] at R₁'
  exact R₁'
end
end Mine
end
noncomputable section
namespace Mine
open PySem PySem.SeqAt
theorem lookup_append {α : Type} (l₁ l₂ : List (Str × α)) (x : Str) : (l₁ ++ l₂).lookup x = (l₁.lookup x).or (l₂.lookup x) := by
 induction l₁ with
 | nil => simp
 | cons p r ih =>
  obtain ⟨n, v⟩ := p
  simp only [List.cons_append, List.lookup_cons]
  cases x == n
  ·exact ih
  ·rfl
theorem cellsFrom_append : ∀ (names : List (Str × NameKind)) (n : Nat) (acc cl : List (Str × Addr)), cellsFrom n names (acc ++ cl) = cellsFrom n names acc ++ cl
 | [], n, acc, cl => rfl
 | (m, k) :: r, n, acc, cl => by
  unfold cellsFrom
  split
  ·exact cellsFrom_append r (n + 1) ((m, n) :: acc) cl
  ·exact cellsFrom_append r n acc cl
theorem cellsFrom_keys : ∀ (names : List (Str × NameKind)) (n : Nat) (acc : List (Str × Addr)) (x : Str) (a : Addr), (x, a) ∈ cellsFrom n names acc → (x, a) ∈ acc ∨ (x, NameKind.cell) ∈ names
 | [], n, acc, x, a, h => .inl h
 | (m, k) :: r, n, acc, x, a, h => by
  unfold cellsFrom at h
  split at h
  ·rename_i hk
   rcases cellsFrom_keys r (n + 1) _ x a h with h | h
   ·rcases List.mem_cons.mp h with e | h
    ·cases e
     have : k = .cell := by simpa using hk
     exact .inr (by rw [this]; exact .head _)
    ·exact .inl h
   ·exact .inr (.tail _ h)
  ·rcases cellsFrom_keys r n acc x a h with h | h
   ·exact .inl h
   ·exact .inr (.tail _ h)
noncomputable def closL (env : Env) : List (Str × NameKind) → List (Str × Addr) → List (Str × Addr)
 | [], acc => acc
 | (n, k) :: r, acc => if k == .free then closL env r ((n, (env.cells.lookup n).getD 0) :: acc) else closL env r acc
theorem closureFor_go (env : Env) (f : Str × NameKind → List (Str × Addr) → Sem (ForInStep (List (Str × Addr)))) (hf : ∀ n k acc, f (n, k) acc = if k == .free then (do let a ← cellOf env n; pure (.yield ((n, a) :: acc))) else pure (.yield acc)) :
  ∀ (names : List (Str × NameKind)) (acc : List (Str × Addr)), (∀ p ∈ names, p.2 = .free → (env.cells.lookup p.1).isSome = true) → forIn names acc f = (pure (closL env names acc) : Sem _)
 | [], acc, _ => by rw [List.forIn_nil]; rfl
 | (n, k) :: r, acc, h => by
  rw [List.forIn_cons, hf]
  unfold closL
  split
  ·rename_i hk
   have hk' : k = .free := by simpa using hk
   obtain ⟨a, ha⟩ := Option.isSome_iff_exists.mp (h (n, k) (.head _) hk')
   unfold cellOf
   rw [ha]
   simp only [pure_bind, Option.getD_some]
   exact closureFor_go env f hf r _ fun p hp => h p (.tail _ hp)
  ·simp only [pure_bind]
   exact closureFor_go env f hf r _ fun p hp => h p (.tail _ hp)
theorem closureFor_eq {scope : Scope} {env : Env} (h : ∀ p ∈ scope.names, p.2 = .free → (env.cells.lookup p.1).isSome = true) : closureFor scope env = pure (closL env scope.names []) := by
 unfold closureFor
 dsimp only
 rw [closureFor_go env _ (fun n k acc => by cases hk : k == NameKind.free <;> simp [hk]) _ _ h]
 rfl
theorem closL_mem {env : Env} : ∀ (names : List (Str × NameKind)) (acc : List (Str × Addr)) (x : Str) (a : Addr), (x, a) ∈ closL env names acc → (x, a) ∈ acc ∨ ((x, NameKind.free) ∈ names ∧ a = (env.cells.lookup x).getD 0)
 | [], acc, x, a, h => .inl h
 | (m, k) :: r, acc, x, a, h => by
  unfold closL at h
  split at h
  ·rename_i hk
   have hk' : k = .free := by simpa using hk
   rcases closL_mem r _ x a h with h | h
   ·rcases List.mem_cons.mp h with e | h
    ·cases e; exact .inr ⟨by rw [hk']; exact .head _, rfl⟩
    ·exact .inl h
   ·exact .inr ⟨.tail _ h.1, h.2⟩
  ·rcases closL_mem r acc x a h with h | h
   ·exact .inl h
   ·exact .inr ⟨.tail _ h.1, h.2⟩
theorem closL_has {env : Env} : ∀ (names : List (Str × NameKind)) (acc : List (Str × Addr)) (x : Str), ((x, NameKind.free) ∈ names ∨ ∃ a, (x, a) ∈ acc) → ∃ a, (x, a) ∈ closL env names acc
 | [], acc, x, h => h.elim (fun h => nomatch h) id
 | (m, k) :: r, acc, x, h => by
  unfold closL
  split
  ·rename_i hk
   refine closL_has r _ x ?_
   rcases h with h | ⟨a, h⟩
   ·rcases List.mem_cons.mp h with e | h
    ·cases e; exact .inr ⟨_, .head _⟩
    ·exact .inl h
   ·exact .inr ⟨a, .tail _ h⟩
  ·rename_i hk
   refine closL_has r _ x ?_
   rcases h with h | h
   ·rcases List.mem_cons.mp h with e | h
    ·cases e; exact absurd rfl hk
    ·exact .inl h
   ·exact .inr h
theorem lookup_of_mem {α : Type} : ∀ {l : List (Str × α)} {x : Str} {a : α}, (l.map (·.1)).Nodup → (x, a) ∈ l → l.lookup x = some a
 | (n, b) :: r, x, a, hn, h => by
  simp only [List.map_cons, List.nodup_cons] at hn
  rw [List.lookup_cons]
  rcases List.mem_cons.mp h with e | h'
  ·cases e; simp
  ·have : (x == n) = false := by
    simp only [beq_eq_false_iff_ne]
    rintro rfl; exact hn.1 (List.mem_map_of_mem (f := (·.1)) h')
   rw [this]; exact lookup_of_mem hn.2 h'
theorem lookup_none_of {α : Type} : ∀ {l : List (Str × α)} {x : Str}, (∀ a, (x, a) ∉ l) → l.lookup x = none
 | [], x, _ => rfl
 | (n, b) :: r, x, h => by
  rw [List.lookup_cons]
  have : (x == n) = false := by
   simp only [beq_eq_false_iff_ne]
   rintro rfl; exact h b (.head _)
  rw [this]; exact lookup_none_of fun a ha => h a (.tail _ ha)
theorem exists_lookup {α : Type} : ∀ {l : List (Str × α)} {x : Str} {a : α}, (x, a) ∈ l → ∃ b, l.lookup x = some b
 | (n, b) :: r, x, a, h => by
  rw [List.lookup_cons]
  cases hx : x == n with
  | true => exact ⟨b, rfl⟩
  | false =>
   rcases List.mem_cons.mp h with e | h
   ·cases e; simp at hx
   ·exact exists_lookup h
noncomputable def compCells (scope : Scope) (env : Env) (C : Addr) : List (Str × Addr) := cellsFrom (C + 1) scope.names (closL env scope.names [])
noncomputable def cenvOf (scope : Scope) (env : Env) (C : Addr) : Env := compEnvC scope (compCells scope env C) C env
theorem relabel_lookup {env : Env} (hfn : env.scope.kind = .function) : ∀ (names : List (Str × NameKind)) (x : Str), (names.map fun (n, k) => if (k == NameKind.free && env.scope.kind == .function && env.kindOf n == some .cell) then (n, NameKind.cell) else (n, k)).lookup x
  = match names.lookup x with | some .free => if env.kindOf x = some .cell then some .cell else some .free | o => o
 | [], x => rfl
 | (n, k) :: r, x => by
  have ih := relabel_lookup hfn r x
  show List.lookup x ((if (k == NameKind.free && env.scope.kind == .function && env.kindOf n == some .cell) = true then (n, NameKind.cell) else (n, k)) :: _) = _
  rw [show (List.lookup x ((n, k) :: r)) = (match x == n with | true => some k | false => List.lookup x r) from List.lookup_cons ..]
  cases hx : x == n with
  | true =>
   have hxn : x = n := by simpa using hx
   subst hxn
   dsimp only
   by_cases hc : (k == NameKind.free && env.scope.kind == .function && env.kindOf x == some .cell) = true
   ·rw [if_pos hc, List.lookup_cons, hx]
    simp only [Bool.and_eq_true, beq_iff_eq] at hc
    obtain ⟨⟨rfl, _⟩, h2⟩ := hc
    simp [h2]
   ·rw [if_neg hc, List.lookup_cons, hx]
    dsimp only
    cases k <;> try rfl
    have : ¬ env.kindOf x = some .cell := by
     intro h2; apply hc; rw [hfn, h2]; rfl
    simp [this]
  | false =>
   dsimp only
   by_cases hc : (k == NameKind.free && env.scope.kind == .function && env.kindOf n == some .cell) = true
   ·rw [if_pos hc, List.lookup_cons, hx]; exact ih
   ·rw [if_neg hc, List.lookup_cons, hx]; exact ih
theorem kindOf_cenv {scope : Scope} {env : Env} {C : Addr} (hfn : env.scope.kind = .function) (x : Str) : (cenvOf scope env C).kindOf x = match scope.names.lookup x with | some .free => if env.kindOf x = some .cell then some .cell else some .free | o => o :=
 relabel_lookup hfn scope.names x
structure CompOk (scope : Scope) (env : Env) : Prop where
 fn : scope.kind = .function
 nodup : (scope.names.map (·.1)).Nodup
 free : ∀ p ∈ scope.names, p.2 = .free → env.kindOf p.1 = some .cell
noncomputable def capsOf (scope : Scope) (loc : List (Str × V)) : List (Str × V) := loc.filter fun p => scope.names.lookup p.1 == some .free
theorem lookup_caps {scope : Scope} (loc : List (Str × V)) (x : Str) : (capsOf scope loc).lookup x = if scope.names.lookup x = some .free then loc.lookup x else none := by
 unfold capsOf
 induction loc with
 | nil => simp
 | cons p r ih =>
  obtain ⟨n, X⟩ := p
  rw [List.filter_cons]
  by_cases hn : scope.names.lookup n = some .free
  ·simp only [hn, beq_self_eq_true, if_true, List.lookup_cons]
   cases hx : x == n with
   | true =>
    have : x = n := by simpa using hx
    subst this; simp [hn]
   | false => exact ih
  ·have : (scope.names.lookup n == some NameKind.free) = false := by simpa using hn
   simp only [this, Bool.false_eq_true, if_false, ih, List.lookup_cons]
   cases hx : x == n with
   | true =>
    have : x = n := by simpa using hx
    subst this; simp [hn]
   | false => rfl
section
variable {c : Cx} {A : Around} {env : Env} {σ : St} {Z P : Addr → Prop}
theorem cells_captured {scope : Scope} {h : Heap} (O : CompOk scope env) (hcells : ∀ x, env.kindOf x = some .cell → ∃ cl v, env.cells.lookup x = some cl ∧ h.IsCell cl v) {C : Addr} {x : Str} (hx : scope.names.lookup x = some .free) :
  (compCells scope env C).lookup x = env.cells.lookup x := by
 have hm := PySem.mem_of_lookup hx
 refine E22 (hcells x (O.free (x, .free) hm rfl)) fun cl v h1 _ => ?_
 have e : compCells scope env C = cellsFrom (C + 1) scope.names [] ++ closL env scope.names [] := by
  unfold compCells
  rw [show closL env scope.names [] = [] ++ closL env scope.names [] from rfl, cellsFrom_append]; simp
 have hnone : (cellsFrom (C + 1) scope.names []).lookup x = none := lookup_none_of fun a ha => by
  rcases cellsFrom_keys _ _ _ _ _ ha with h | h
  ·cases h
  ·have := lookup_of_mem O.nodup h
   rw [hx] at this; cases this
 rw [e, lookup_append, hnone, Option.none_or]
 obtain ⟨a, ha⟩ := closL_has (env := env) scope.names [] x (.inl hm)
 obtain ⟨b, hb⟩ := exists_lookup ha
 have hmb := PySem.mem_of_lookup hb
 rcases closL_mem _ _ _ _ hmb with h | ⟨_, h⟩
 ·cases h
 ·rw [hb, h, h1]; rfl
theorem cells_own {scope : Scope} {C : Addr} {x : Str} (hx : scope.names.lookup x = some .cell) : ∃ b, (compCells scope env C).lookup x = some b ∧ (cellsFrom (C + 1) scope.names []).lookup x = some b := by
 have e : compCells scope env C = cellsFrom (C + 1) scope.names [] ++ closL env scope.names [] := by
  unfold compCells
  rw [show closL env scope.names [] = [] ++ closL env scope.names [] from rfl, cellsFrom_append]; simp
 obtain ⟨b, hb⟩ := Option.isSome_iff_exists.mp (cellsFrom_some (n := C + 1) (acc := []) hx)
 exact (I12 b (by rw [e, lookup_append, hb]; rfl) hb)
theorem newEnv_comp {scope : Scope} {s : Shared} {Q : Env → Shared → Prop} {E : Value → Shared → Prop}
  (hQ : ∀ h', Kp s.heap h' → h'.Ns s.heap.objs.size (fun _ => none) → CellsOk h' (s.heap.objs.size + 1) (cellsFrom (s.heap.objs.size + 1) scope.names []) →
   Q { scope := scope, locals := s.heap.objs.size, globals := env.globals, cells := compCells scope env s.heap.objs.size, qual := env.qual, func := none, code := env.code, frame := env.frame, builtins := env.builtins } { s with heap := h' }) :
  wpAny c.M A (newFunctionEnv scope env.globals (closL env scope.names []) [] env.qual none .none (some env)) Q E s := by
 simp only [newFunctionEnv, Option.isSome_some, if_true]
 refine wpAny_bind (wpAny_alloc ?_)
 refine wpAny_bind (wpAny_layCells _ (fun name kind cells => by cases hkc : kind == NameKind.cell <;> simp [hkc]) _ _ _ _ ?_)
 have ok := cellsFrom_ok scope.names (s.heap.push { cls := .type "dict", data := .dict #[] }) (s.heap.objs.size + 1) [] ⟨fun _ _ hm => (nomatch hm), List.Pairwise.nil⟩ (by rw [Heap.size_push]; exact Nat.le_refl _)
 rw [Heap.size_push] at ok
 rw [show ({ s with heap := s.heap.push { cls := .type "dict", data := .dict #[] } } : Shared).heap.objs.size = s.heap.objs.size + 1 from Heap.size_push ..]
 simp only [List.forIn_nil, pure_bind]
 exact wpAny_pure (hQ _ (fun b o e => pushCells_keeps _ _ b o (Heap.get?_push_of_some _ e)) ((Heap.Ns.new s.heap (.type "dict")).keeps (pushCells_keeps _ _)) ok)
end
end Mine
end
noncomputable section
namespace Mine
open PySem PySem.SeqAt
section
variable {c : Cx} {A : Around} {env : Env} {σ : St} {Z P : Addr → Prop}
noncomputable def Capt (scope : Scope) (env : Env) (b : Addr) : Prop := ∃ x, scope.names.lookup x = some .free ∧ env.cells.lookup x = some b
noncomputable def Rest (scope : Scope) (env : Env) (b : Addr) : Prop := OwnA env b ∧ ¬ Capt scope env b
theorem Rel.exOwn {h : Heap} (R : Rel c Z P env σ h) {b : Addr} (hb : OwnA env b) : ∃ o, h.get? b = some o := by
 rcases hb with rfl | ⟨x, h1, h2⟩
 ·refine E42 R.ns fun m o es ep ho _ => ?_; exact ⟨o, ho⟩
 ·refine E22 (R.cells x h1) fun cl v h3 z3 => ?_; obtain ⟨o, ho, _⟩ := z3
  rw [h2] at h3; cases h3; exact ⟨o, ho⟩
theorem capt_own {scope : Scope} (O : CompOk scope env) {b : Addr} (h : Capt scope env b) : OwnA env b := by
 refine E12 h fun x h1 h2 => ?_; clear h
 exact .inr (I12 x (O.free (x, .free) (PySem.mem_of_lookup h1) rfl) h2)
theorem own_cenv {scope : Scope} {h : Heap} (R : Rel c Z P env σ h) (O : CompOk scope env) {C b : Addr} (hb : OwnA (cenvOf scope env C) b) : b = C ∨ Capt scope env b ∨ ∃ x, (cellsFrom (C + 1) scope.names []).lookup x = some b := by
 rcases hb with rfl | ⟨x, h1, h2⟩
 ·exact .inl rfl
 ·rw [kindOf_cenv R.fn] at h1
  have h2' : (compCells scope env C).lookup x = some b := h2
  cases hx : scope.names.lookup x with
  | none => rw [hx] at h1; cases h1
  | some k =>
   rw [hx] at h1
   cases k <;> simp at h1
   ·refine E12 (cells_own (env := env) (C := C) hx) fun b' h3 h4 => ?_
    rw [h2'] at h3; cases h3
    exact .inr (.inr ⟨x, h4⟩)
   ·rw [cells_captured O R.cells hx] at h2'
    exact .inr (.inl (I12 x hx h2'))
theorem capt_cenv {scope : Scope} {h : Heap} (R : Rel c Z P env σ h) (O : CompOk scope env) {C b : Addr} (hb : Capt scope env b) : OwnA (cenvOf scope env C) b := by
 refine E12 hb fun x h1 h2 => ?_; clear hb
 refine .inr (I12 x ?_ ?_)
 ·rw [kindOf_cenv R.fn, h1]
  simp only [O.free (x, .free) (PySem.mem_of_lookup h1) rfl, if_true]
 ·show (compCells scope env C).lookup x = some b
  rw [cells_captured O R.cells h1]; exact h2
theorem Rel.enter {scope : Scope} {h h' : Heap} (R : Rel c Z P env σ h) (O : CompOk scope env) (hk : Kp h h') (hns : h'.Ns h.objs.size fun _ => none) (hok : CellsOk h' (h.objs.size + 1) (cellsFrom (h.objs.size + 1) scope.names [])) :
  Rel c Z (fun b => P b ∨ Rest scope env b) (cenvOf scope env h.objs.size) ⟨capsOf scope σ.loc, σ.hp⟩ h' := by
 have R' := R.kp hk
 have hC : h.get? h.objs.size = none := fresh_none _ _ (Nat.le_refl _)
 have newCell : ∀ x b, (cellsFrom (h.objs.size + 1) scope.names []).lookup x = some b → h.get? b = none ∧ h.objs.size < b ∧ h'.IsCell b none := fun x b hb =>
  (I03 (fresh_none _ _ (Nat.le_of_succ_le (hok.empty x b (PySem.mem_of_lookup hb)).2)) ((hok.empty x b (PySem.mem_of_lookup hb)).2) ((hok.empty x b (PySem.mem_of_lookup hb)).1))
 have none_not : ∀ b, h.get? b = none → ¬ Z b ∧ ¬ P b ∧ ¬ OwnA env b ∧ ∀ o, (b, o) ∉ σ.hp := by
  intro b hb
  refine (I04 (fun z => ?_) (fun p => ?_) (fun o => ?_) (fun o ho => ?_))
  ·obtain ⟨o, e⟩ := R.inv.exZ b z; rw [hb] at e; cases e
  ·obtain ⟨o, e⟩ := R.inv.exP b p; rw [hb] at e; cases e
  ·obtain ⟨o', e⟩ := R.exOwn o; rw [hb] at e; cases e
  ·obtain ⟨ob, e⟩ := (R.hp.obj b o ho).1.some; rw [hb] at e; cases e
 refine {
  inv := ⟨R'.inv.ground, R'.inv.exZ, fun b p => p.elim (R'.inv.exP b) fun n => R'.exOwn n.1, fun b z p => p.elim (R'.inv.off b z) fun n => (R'.own b n.1).1 z, R'.inv.sys, R'.inv.top⟩
  fn := O.fn
  gl := R.gl
  bl := R.bl
  ns := ⟨_, hns⟩
  cells := fun x hx => ?_
  inj := fun x y cl hx hy h1 h2 => ?_
  cellL := fun x cl hx h1 => ?_
  freeP := fun x cl hx h1 => ?_
  own := fun b hb => ?_
  vars := fun x X e => ?_
  hp := ⟨fun b o hb => ?_, R.hp.nodup⟩
  hpOff := fun b o hb hown => ?_ }
 ·rw [kindOf_cenv R.fn] at hx
  cases hs : scope.names.lookup x with
  | none => rw [hs] at hx; cases hx
  | some k =>
   rw [hs] at hx
   cases k <;> simp at hx
   ·refine E12 (cells_own (env := env) (C := h.objs.size) hs) fun b h3 h4 => ?_
    exact (I22 b _ h3 ((newCell x b h4).2.2))
   ·refine E22 (R'.cells x hx) fun cl v h1 h2 => ?_
    exact (I22 cl v ((cells_captured O R.cells hs).trans h1) h2)
 ·have h1' : (compCells scope env h.objs.size).lookup x = some cl := h1
  have h2' : (compCells scope env h.objs.size).lookup y = some cl := h2
  rw [kindOf_cenv R.fn] at hx hy
  have one : ∀ z, (match scope.names.lookup z with | some .free => if env.kindOf z = some .cell then some NameKind.cell else some .free | o => o) = some .cell → (scope.names.lookup z = some .cell ∧ (cellsFrom (h.objs.size + 1) scope.names []).lookup z = (compCells scope env h.objs.size).lookup z) ∨ (env.kindOf z = some .cell ∧ (compCells scope env h.objs.size).lookup z = env.cells.lookup z) := by
   intro z hz
   cases hs : scope.names.lookup z with
   | none => rw [hs] at hz; cases hz
   | some k =>
    rw [hs] at hz
    cases k <;> simp at hz
    ·refine E12 (cells_own (env := env) (C := h.objs.size) hs) fun b h3 h4 => ?_
     exact .inl ⟨rfl, by rw [h3, h4]⟩
    ·exact .inr ⟨hz, cells_captured O R.cells hs⟩
  rcases one x hx with ⟨_, a1⟩ | ⟨a0, a1⟩ <;> rcases one y hy with ⟨_, b1⟩ | ⟨b0, b1⟩
  ·rw [h1'] at a1; rw [h2'] at b1
   exact name_of_addr hok.apart (PySem.mem_of_lookup a1) (PySem.mem_of_lookup b1)
  ·rw [h1'] at a1; rw [h2'] at b1
   obtain ⟨o, e⟩ := R.exOwn (.inr (I12 y b0 b1.symm))
   rw [(newCell x cl a1).1] at e; cases e
  ·rw [h1'] at a1; rw [h2'] at b1
   obtain ⟨o, e⟩ := R.exOwn (.inr (I12 x a0 a1.symm))
   rw [(newCell y cl b1).1] at e; cases e
  ·rw [h1'] at a1; rw [h2'] at b1
   exact R.inj x y cl a0 b0 a1.symm b1.symm
 ·rcases own_cenv R O (C := h.objs.size) (.inr (I12 x hx h1)) with rfl | hc | ⟨y, hy⟩
  ·exfalso
   have h1' : (compCells scope env h.objs.size).lookup x = some h.objs.size := h1
   rw [kindOf_cenv R.fn] at hx
   cases hs : scope.names.lookup x with
   | none => rw [hs] at hx; cases hx
   | some k =>
    rw [hs] at hx
    cases k <;> simp at hx
    ·refine E12 (cells_own (env := env) (C := h.objs.size) hs) fun b h3 h4 => ?_
     rw [h1'] at h3; cases h3
     exact Nat.lt_irrefl _ (newCell x _ h4).2.1
    ·rw [cells_captured O R.cells hs] at h1'
     obtain ⟨o, e⟩ := R.exOwn (.inr (I12 x hx h1'))
     rw [hC] at e; cases e
  ·intro e
   obtain ⟨o, e'⟩ := R.exOwn (capt_own O hc)
   have : cl = h.objs.size := e
   rw [this, hC] at e'; cases e'
  ·exact Nat.ne_of_gt (newCell y cl hy).2.1
 ·exfalso
  rw [kindOf_cenv R.fn] at hx
  cases hs : scope.names.lookup x with
  | none => rw [hs] at hx; cases hx
  | some k =>
   rw [hs] at hx
   cases k <;> simp at hx
   exact hx (O.free (x, .free) (PySem.mem_of_lookup hs) rfl)
 ·rcases own_cenv R O hb with rfl | hc | ⟨y, hy⟩
  ·have := none_not _ hC
   exact ⟨this.1, fun p => p.elim this.2.1 fun n => this.2.2.1 n.1⟩
  ·exact ⟨(R.own b (capt_own O hc)).1, fun p => p.elim (R.own b (capt_own O hc)).2 fun n => n.2 hc⟩
  ·have := none_not _ (newCell y b hy).1
   exact ⟨this.1, fun p => p.elim this.2.1 fun n => this.2.2.1 n.1⟩
 ·rw [lookup_caps] at e
  by_cases hs : scope.names.lookup x = some .free
  ·rw [if_pos hs] at e
   refine E12 (R'.vars x X e) fun v hv r => ?_
   have hkx := O.free (x, .free) (PySem.mem_of_lookup hs) rfl
   refine (I12 v (.inr ⟨.inl ?_, ?_⟩) r)
   ·rw [kindOf_cenv R.fn, hs]; simp [hkx]
   ·rcases hv with ⟨k1, _⟩ | ⟨_, cl, h1, h2⟩
    ·rw [hkx] at k1; cases k1
    ·exact (I12 cl ((cells_captured O R.cells hs).trans h1) h2)
  ·rw [if_neg hs] at e; cases e
 ·have := R'.hp.obj b o hb
  exact (I03 (this.1) (this.2.1) (fun p => p.elim this.2.2 fun n => R'.hpOff b o hb n.1))
 ·rcases own_cenv R O hown with rfl | hc | ⟨y, hy⟩
  ·exact (none_not _ hC).2.2.2 o hb
  ·exact R.hpOff b o hb (capt_own O hc)
  ·exact (none_not _ (newCell y b hy).1).2.2.2 o hb
theorem Rel.leave {scope : Scope} {h h' : Heap} {Z' : Addr → Prop} {C : Addr} {hp' : List (Addr × O)} {P' : Addr → Prop} (R : Rel c Z P env σ h) (O : CompOk scope env) (hC : h.get? C = none)
  (R' : Rel c Z' P' (cenvOf scope env C) ⟨capsOf scope σ.loc, hp'⟩ h') (hP' : ∀ b, (P b ∨ Rest scope env b) → P' b) (S : Step Z P' h Z' h') : Rel c Z' (fun b => P b ∨ b = C) env ⟨σ.loc, hp'⟩ h' := by
 have hrest : ∀ x cl, env.kindOf x = some .cell → env.cells.lookup x = some cl → ¬ scope.names.lookup x = some .free → Rest scope env cl := fun x cl h1 h2 h3 =>
  ⟨.inr (I12 x h1 h2), fun ⟨y, hy1, hy2⟩ => by
   have := R.inj x y cl h1 (O.free (y, .free) (PySem.mem_of_lookup hy1) rfl) h2 hy2
   subst this; exact h3 hy1⟩
 have hL : Rest scope env env.locals := ⟨.inl rfl, fun ⟨y, hy1, hy2⟩ => R.cellL y _ (O.free (y, .free) (PySem.mem_of_lookup hy1) rfl) hy2 rfl⟩
 have keepR : ∀ b o, Rest scope env b → h.get? b = some o → h'.get? b = some o := fun b o n e => S.keepP b o (hP' b (.inr n)) e
 have hCown : OwnA (cenvOf scope env C) C := .inl rfl
 have offOwn : ∀ b, OwnA env b → ¬ Z' b := fun b hb z => by
  by_cases hc : Capt scope env b
  ·exact (R'.own b (capt_cenv R O hc)).1 z
  ·exact R'.inv.off b z (hP' b (.inr ⟨hb, hc⟩))
 have hCo : ∀ b, OwnA env b → b ≠ C := fun b hb e => by
  obtain ⟨o, e'⟩ := R.exOwn hb
  rw [e, hC] at e'; cases e'
 refine {
  inv := ⟨R'.inv.ground, R'.inv.exZ, fun b p => p.elim (fun p => R'.inv.exP b (hP' b (.inl p))) fun e => e ▸ R'.exOwn hCown, fun b z p => p.elim (fun p => R'.inv.off b z (hP' b (.inl p))) fun e => (R'.own C hCown).1 (e ▸ z), R'.inv.sys, R'.inv.top⟩
  fn := R.fn
  gl := R.gl
  bl := R.bl
  ns := let ⟨m, o, es, ep, ho, q⟩ := R.ns; (I42 m o es ep (keepR _ _ hL ho) q)
  cells := fun x hx => ?_
  inj := R.inj
  cellL := R.cellL
  freeP := fun x cl h1 h2 => .inl (R.freeP x cl h1 h2)
  own := fun b hb => ⟨offOwn b hb, fun p => p.elim (R.own b hb).2 (hCo b hb)⟩
  vars := fun x X e => ?_
  hp := ⟨fun b o hb => (I03 ((R'.hp.obj b o hb).1) ((R'.hp.obj b o hb).2.1) (fun p => p.elim (fun p => (R'.hp.obj b o hb).2.2 (hP' b (.inl p))) fun e => R'.hpOff b o hb (e ▸ hCown))), R'.hp.nodup⟩
  hpOff := fun b o hb hown => ?_ }
 ·refine E22 (R.cells x hx) fun cl v h1 z3 => ?_; obtain ⟨o, ho, q⟩ := z3
  by_cases hs : scope.names.lookup x = some .free
  ·refine E22 (R'.cells x (by rw [kindOf_cenv R.fn, hs]; simp [hx])) fun cl' v' h1' h2' => ?_
   have h1'' : (compCells scope env C).lookup x = some cl' := h1'
   rw [cells_captured O R.cells hs] at h1''
   exact (I22 cl' v' h1'' h2')
  ·exact (I22 cl v h1 (I12 o (keepR _ _ (hrest x cl hx h1 hs) ho) q))
 ·refine E12 (R.vars x X e) fun v hv r => ?_
  rcases hv with ⟨k1, m, ⟨o, es, ep, ho, q⟩, hm1⟩ | ⟨k1, cl, h1, ⟨o, ho, q⟩⟩
  ·exact (I12 v (.inl (I02 k1 (I12 m (I32 o es ep (keepR _ _ hL ho) q) hm1))) (r.keep S.grow S.keepZ))
  ·rcases k1 with k1 | k1
   ·by_cases hs : scope.names.lookup x = some .free
    ·refine E12 (R'.vars x X (by rw [lookup_caps, if_pos hs]; exact e)) fun v' hv' r' => ?_
     refine (I12 v' (.inr ⟨.inl k1, ?_⟩) r')
     rcases hv' with ⟨k2, _⟩ | ⟨_, cl', h1', h2'⟩
     ·rw [kindOf_cenv R.fn, hs] at k2; simp [k1] at k2
     ·have h1'' : (compCells scope env C).lookup x = some cl' := h1'
      rw [cells_captured O R.cells hs] at h1''
      exact (I12 cl' h1'' h2')
    ·exact (I12 v (.inr (I02 (.inl k1) (I12 cl h1 (I12 o (keepR _ _ (hrest x cl k1 h1 hs) ho) q)))) (r.keep S.grow S.keepZ))
   ·exact (I12 v (.inr (I02 (.inr k1) (I12 cl h1 (I12 o (S.keepP _ _ (hP' _ (.inl (R.freeP x cl k1 h1))) ho) q)))) (r.keep S.grow S.keepZ))
 ·by_cases hc : Capt scope env b
  ·exact R'.hpOff b o hb (capt_cenv R O hc)
  ·exact (R'.hp.obj b o hb).2.2 (hP' b (.inr ⟨hown, hc⟩))
end
end Mine
end
noncomputable section
namespace Mine
open PySem PySem.SeqAt
section
variable {c : Cx} {A : Around} {env : Env} {σ : St} {Z P : Addr → Prop}
theorem compStart_any {elt : Expr} {gens : List Comprehension} {scope : Scope} {pos : Pos} {d : Nat} {g : Comprehension} {it acc : Value} {R : Result → Shared → Prop} {s : Shared} (hg : gens[d]? = some g) (ha : g.is_async = 0)
  (h0 : codeAny c.M A (.compLoop (.ListComp elt gens scope pos) d it acc env) R s)
  (h : wpAny c.M A (pyIter it) (fun it' s' => codeAny c.M A (.compLoop (.ListComp elt gens scope pos) d it' acc env) R s') (fun _ _ => False) s) :
  codeAny c.M A (.compStart (.ListComp elt gens scope pos) d it acc env) R s := by
 refine codeAny_of_tree ?_
 show wpAny _ A ((compStart (.ListComp elt gens scope pos) d it acc env).onRaise (fun x => do noteFrame x env; standAt theWindowsPlace)) _ _ s
 refine wpAny_notedAt ?_
 unfold compStart
 have e1 : ((clausesOf (.ListComp elt gens scope pos))[d]?).elim false (·.is_async != 0) = false := by
  show (gens[d]?).elim false (fun x => x.is_async != 0) = false
  rw [hg]; simp [ha]
 rw [e1]
 simp only [Bool.false_eq_true, if_false]
 refine wpAny_bind (wpAny_askSetting (wpAny_ite ?_))
 split
 ·exact wpAny_pure ⟨rfl, h0⟩
 ·refine wpAny_bind (wpAny_rule ?_)
  have e2 : (clausesOf (.ListComp elt gens scope pos))[d]? = some g := hg
  rw [e2]
  refine wpAny_bind (wpAny_standAt (wpAny_bind (wpAny_mono h (fun it' s' h' => wpAny_pure ⟨rfl, h'⟩) fun _ _ x => x.elim)))
noncomputable def Turn1 (c : Cx) (A : Around) (cenv : Env) (σc : St) (target : Expr) (ifs : List Expr) (elt : Expr) (X : V) (ys : List V) : Prop :=
 ∀ D zs, WA c A cenv (σc.acc D zs) target X fun σ₂ => WTs c A cenv σ₂ ifs true fun ok σ₃ => if ok then WE c A cenv σ₃ elt fun Y σ₄ => ys = [Y] ∧ σ₄.le (σc.acc D zs) else σ₃.le (σc.acc D zs) ∧ ys = []
theorem WP.imp {α β : Type} {t : Sem α} {Rr : (Addr → Prop) → Heap → β → α → Prop} {k k' : β → St → Prop} (h : WP c A env σ t Rr k) (hk : ∀ b σ, k b σ → k' b σ) : WP c A env σ t Rr k' := by
 refine WP.mk fun hA Z P s R => ?_
 exact wpAny_mono (h.run hA Z P s R) (fun a s' => R65 fun Z' h' tk dr b σ' e S R' r kk => I65 Z' h' tk dr b σ' e S R' r (hk b σ' kk)) fun _ _ x => x
theorem WA.imp {t : Expr} {X : V} {k k' : St → Prop} (h : WA c A env σ t X k) (hk : ∀ σ, k σ → k' σ) : WA c A env σ t X k' := by
 intro hA Z P s v R r
 exact wpAny_mono (h hA Z P s v R r) (fun a s' => R65 fun Z' h' tk dr b σ' e S R' r kk => I65 Z' h' tk dr b σ' e S R' r (hk σ' kk)) fun _ _ x => x
theorem Turn1.turnC {cenv : Env} {σc : St} {target : Expr} {ifs : List Expr} {elt : Expr} {X : V} {ys : List V} {D : Addr} {nxt : Code} (h : Turn1 c A cenv σc target ifs elt X ys) : TurnC c A cenv σc D target ifs (do emitTree elt (.ref D) cenv; again nxt) nxt X ys := by
 intro zs
 refine WA.imp (h D zs) fun σ₂ h₂ => WP.imp h₂ fun ok σ₃ h₃ => ?_
 cases ok with
 | true => exact emitsA_elt h₃
 | false => exact h₃
theorem comp_block {elt : Expr} {gens : List Comprehension} {scope : Scope} {pos : Pos} {gc : Comprehension} {inner : Addr → Addr → Sem PySem.Fin} {s : Shared} {I : Addr} {fp : List Addr} {Stt : Nat → Heap → Prop} {xs : List V} {Nw : Addr → Prop} (g : V → List V) (OK : CompOk scope env)
  {RR : Value → Env → Result → Shared → Prop} (hA : AOk A) (R : Rel c Z P env σ s.heap) (hg : gens[0]? = some gc) (ha : gc.is_async = 0)
  (htree : ∀ C D, compTurn (.ListComp elt gens scope pos) 0 (.ref I) (.ref D) (cenvOf scope env C) = turnTree (.ref I) gc.iter.pos gc.target gc.ifs (cenvOf scope env C) (inner C D) (.compLoop (.ListComp elt gens scope pos) 0 (.ref I) (.ref D) (cenvOf scope env C)))
  (W : Iter c A gc.target I fp xs Stt Z s.heap) (hst : Stt 0 s.heap) (hfp : ∀ b ∈ fp, b = I ∨ Z b ∨ Nw b) (hNw : ∀ b, Nw b → b ≠ I ∧ ¬ Z b ∧ ¬ P b ∧ ¬ OwnA env b ∧ (∀ o, (b, o) ∉ σ.hp) ∧ ∃ o, s.heap.get? b = some o) (hI : ¬ Z I ∧ ¬ P I ∧ ¬ OwnA env I ∧ ∀ o, (I, o) ∉ σ.hp)
  (hsz : (xs.flatMap g).length ≤ sizeLine)
  (turn : ∀ C D, ∀ X ∈ xs, TurnC c A (cenvOf scope env C) ⟨capsOf scope σ.loc, σ.hp⟩ D gc.target gc.ifs (inner C D) (.compLoop (.ListComp elt gens scope pos) 0 (.ref I) (.ref D) (cenvOf scope env C)) X (g X))
  (done : ∀ D C Z' h' tk dr, Step Z P s.heap Z' h' → Rel c Z' (fun b => P b ∨ b = C) env ⟨σ.loc, (D, O.lst (xs.flatMap g)) :: σ.hp⟩ h' → (∃ m, h'.Ns C m) → ¬ P C → ∀ cenv : Env, cenv.locals = C → RR (.ref D) cenv (.ok .next) { s with heap := h', toks := tk, drawn := dr }) :
  wpAny c.M A (newList []) (fun acc s₃ => wpAny c.M A (newFunctionEnv scope env.globals (closL env scope.names []) [] env.qual none .none (some env)) (fun cenv s₄ =>
   codeAny c.M A (.compStart (.ListComp elt gens scope pos) 0 (.ref I) acc { cenv with scope := relabel scope env }) (RR acc cenv) s₄) (fun _ _ => False) s₃) (fun _ _ => False) s := by
 have hIex : ∃ o, s.heap.get? I = some o := W.ex _ _ hst
 refine wpAny_newObj_type (newEnv_comp fun h' hk hns hok => ?_) (by size_fits)
 dsimp only at hk hns hok ⊢
 generalize hH : s.heap.push { cls := .type "list", data := .seq ([] : List Value).toArray } = H at hk hns hok ⊢
 have hkH : Kp s.heap H := hH ▸ Kp.push _ _
 have hD : H.get? s.heap.objs.size = some { cls := .type "list", data := .seq ([] : List Value).toArray } := hH ▸ Heap.get?_push_size _ rfl
 have hDn : s.heap.get? s.heap.objs.size = none := fresh_none _ _ (Nat.le_refl _)
 have RH : Rel c Z P env σ H := R.kp hkH
 have none_not : ∀ b, s.heap.get? b = none → ¬ Z b ∧ ¬ P b ∧ ¬ OwnA env b ∧ ∀ o, (b, o) ∉ σ.hp := by
  intro b hb
  refine (I04 (fun z => ?_) (fun p => ?_) (fun o => ?_) (fun o ho => ?_))
  ·obtain ⟨o, e⟩ := R.inv.exZ b z; rw [hb] at e; cases e
  ·obtain ⟨o, e⟩ := R.inv.exP b p; rw [hb] at e; cases e
  ·obtain ⟨o', e⟩ := R.exOwn o; rw [hb] at e; cases e
  ·obtain ⟨ob, e⟩ := (R.hp.obj b o ho).1.some; rw [hb] at e; cases e
 have nD := none_not _ hDn
 have hIne : I ≠ s.heap.objs.size := fun e => by obtain ⟨o, ho⟩ := hIex; rw [e, hDn] at ho; cases ho
 have RD : Rel c Z P env (σ.acc s.heap.objs.size []) H := by
  have Rp : Rel c Z (fun b => P b ∨ b = s.heap.objs.size) env σ H := RH.protect fun b hb => by subst hb; exact (I04 ⟨_, hD⟩ (nD.1) (nD.2.2.1) (nD.2.2.2))
  exact Rp.addHp R.freeP (I12 (#[]) ⟨0, hD⟩ .nil) nD.2.1
 have Re := RD.enter OK hk hns hok
 have hIexH : ∃ o, H.get? I = some o := let ⟨o, ho⟩ := hIex; ⟨o, hkH _ _ ho⟩
 have notOwnC : ∀ b, (∃ o, H.get? b = some o) → ¬ OwnA env b → ¬ OwnA (cenvOf scope env H.objs.size) b := by
  intro b hb hno hown
  obtain ⟨o, ho⟩ := hb
  rcases own_cenv RH OK hown with rfl | hc | ⟨y, hy⟩
  ·exact absurd (Heap.lt_size ho) (Nat.lt_irrefl _)
  ·exact hno (capt_own OK hc)
  ·have h1 := (hok.empty y b (PySem.mem_of_lookup hy)).2
   have h2 := Heap.lt_size ho
   exact absurd h2 (Nat.not_lt.mpr (Nat.le_of_succ_le h1))
 have hst' : Stt 0 h' := W.frame _ _ _ hst fun b hb o e => hk b o (hkH b o e)
 have W' : Iter c A gc.target I fp xs Stt Z h' := ⟨W.frame, W.ex, fun i X s' Z' Q E hX st hZ hk' hQ => W.item i X s' Z' Q E hX st hZ (fun b o z e => hk' b o z (hk b o (hkH b o e))) hQ, W.done, W.self⟩
 have loop := compLoop_core (c := c) (A := A) (env := cenvOf scope env H.objs.size) (σ := ⟨capsOf scope σ.loc, σ.hp⟩) (P := fun b => P b ∨ Rest scope env b) (H := Nw) (s := { s with heap := h' }) (zs := []) (D := s.heap.objs.size) g
  (e := .ListComp elt gens scope pos) (d := 0) (ipos := gc.iter.pos) (ifs := gc.ifs) (inner := inner H.objs.size s.heap.objs.size) rfl rfl rfl (htree _ _) hA W' hfp (fun n => (hNw I n).1 rfl) hst' Re
  (fun p => p.elim hI.2.1 fun n => hI.2.2.1 n.1) hI.1 (notOwnC I hIexH hI.2.2.1) (fun o ho => by
   rcases List.mem_cons.mp ho with e | ho
   ·cases e; exact hIne rfl
   ·exact hI.2.2.2 o ho)
  (fun b hb => by
   refine E06 (hNw b hb) fun h1 h2 h3 h4 h5 y0 => E11 y0 fun o h6 => ?_
   refine (I04 ⟨o, hk _ _ (hkH _ _ h6)⟩ h2 (notOwnC b ⟨o, hkH _ _ h6⟩ h4) (fun o' ho' => ?_))
   rcases List.mem_cons.mp ho' with e | ho'
   ·cases e; rw [hDn] at h6; cases h6
   ·exact h5 o' ho')
  (by simpa using hsz) (turn _ _)
 have fin : codeAny c.M A (.compLoop (.ListComp elt gens scope pos) 0 (.ref I) (.ref s.heap.objs.size) (cenvOf scope env H.objs.size)) (RR (.ref s.heap.objs.size) { scope := scope, locals := H.objs.size, globals := env.globals, cells := compCells scope env H.objs.size, qual := env.qual, func := none, code := env.code, frame := env.frame, builtins := env.builtins }) { s with heap := h' } := by
  refine codeAny_mono loop ?_
  refine fun r _ => R02 fun z0 y0 => E43 y0 fun Z' h'' tk dr z5 S' R' => ?_; subst z0; subst z5
  simp only [List.nil_append] at R'
  have S0 : Step Z (fun b => P b ∨ Rest scope env b) h' Z' h'' := ⟨S'.grow, S'.keepZ, fun b o p e => S'.keepP b o (.inl p) e⟩
  have S1 : Step Z (fun b => (P b ∨ Rest scope env b) ∨ Nw b) H Z' h'' := (Step.kp hk).trans S'
  have hCn : H.get? H.objs.size = none := fresh_none _ _ (Nat.le_refl _)
  have RL := RD.leave OK hCn (hp' := (s.heap.objs.size, O.lst (xs.flatMap g)) :: σ.hp) R' (fun b p => .inl p) S1
  refine done s.heap.objs.size H.objs.size Z' h'' tk dr ((Step.kp (hkH.trans hk)).trans ⟨S0.grow, S0.keepZ, fun b o p e => S0.keepP b o (.inl p) e⟩) RL R'.ns (fun p => ?_) _ rfl
  obtain ⟨o, e⟩ := RH.inv.exP _ p
  rw [hCn] at e; cases e
 exact compStart_any hg ha fin (W.self 0 _ _ _ hst' fin)
end
end Mine
end
noncomputable section
namespace Mine
open PySem PySem.SeqAt
section
variable {c : Cx} {A : Around} {env : Env} {σ : St} {Z P : Addr → Prop}
theorem Rel.freezeHp {h : Heap} {D : Addr} {o : O} {hp' : List (Addr × O)} (R : Rel c Z P env ⟨σ.loc, (D, o) :: hp'⟩ h) : Rel c (fun b => Z b ∨ b = D) P env ⟨σ.loc, hp'⟩ h := by
 have hnd := R.hp.nodup
 simp only [List.map_cons, List.nodup_cons] at hnd
 have hD := R.hp.obj D o (.head _)
 have R' : Rel c Z P env ⟨σ.loc, hp'⟩ h := R.le (I03 (fun x X e => e) (fun b ob hb => .tail _ hb) (fun _ => hnd.2))
 refine R'.freeze fun b hb => ?_
 subst hb
 exact (I04 (hD.1.some) (hD.2.2) (R.hpOff _ o (.head _)) (fun ob hb => hnd.1 (List.mem_map_of_mem (f := (·.1)) hb)))
theorem rd_frozen {h : Heap} {D : Addr} {ys : List V} (hD : RdO c Z h D (.lst ys)) : Rd c (fun b => Z b ∨ b = D) h (.lst ys) (.ref D) := by
 refine E12 hD fun items h1 h2 => ?_; clear hD
 exact .lst (.inr rfl) h1 (h2.more fun _ z => .inl z)
theorem Step.freeze {h : Heap} {D : Addr} : Step Z P h (fun b => Z b ∨ b = D) h := ⟨fun _ z => .inl z, fun _ _ _ e => e, fun _ _ _ e => e⟩
theorem hclos_of {scope : Scope} {h : Heap} (R : Rel c Z P env σ h) (OK : CompOk scope env) : closureFor scope env = pure (closL env scope.names []) :=
 closureFor_eq fun p hp hf => let ⟨cl, v, h1, _⟩ := R.cells p.1 (OK.free p hp hf); by rw [h1]; rfl
theorem hnames_of {scope : Scope} (OK : CompOk scope env) : ∀ x ∈ scope.names, x.2 = .local → scope.names.lookup x.1 = some .local := fun x hx hl => by
 obtain ⟨n, k⟩ := x
 simp only at hl; subst hl
 exact lookup_of_mem OK.nodup hx
theorem Rel.offC {h h' : Heap} {C : Addr} {Z' : Addr → Prop} (R : Rel c Z' (fun b => P b ∨ b = C) env σ h) (hf : ∀ x cl, env.kindOf x = some .free → env.cells.lookup x = some cl → P cl) (hPC : ¬ P C) (hs : Heap.SameBut C h h') : Rel c Z' P env σ h' := by
 have R1 : Rel c Z' P env σ h := R.unprotect (fun b p => .inl p) hf
 refine R1.but (N := fun b => b = C) (fun b o n e => hs.extBut b o n e) (by rintro b rfl z; exact R.inv.off _ z (.inr rfl)) (by rintro b rfl o; exact (R.own _ o).2 (.inr rfl)) (by rintro b rfl o ho; exact (R.hp.obj _ o ho).2.2 (.inr rfl)) (by rintro b p rfl; exact absurd p hPC) (by rintro x cl h1 h2 rfl; exact hPC (hf x _ h1 h2))
theorem Step.offC {h h' : Heap} {C : Addr} (I : Inv c Z (fun b => P b ∨ b = C) h) (hPC : ¬ P C) (hs : Heap.SameBut C h h') : Step Z P h Z h' :=
 ⟨fun _ z => z, fun b o z e => hs.extBut b o (fun e' => I.off b z (.inr e')) e, fun b o p e => hs.extBut b o (fun e' => hPC (e' ▸ p)) e⟩
noncomputable def CompSrc (c : Cx) (A : Around) (env : Env) (σ : St) (target iter : Expr) (k : List V → St → Prop) : Prop :=
 WE c A env σ iter fun X σ₁ => ∃ xs, SeqV c A target σ₁.hp X (fun _ => False) (fun ys => ys = xs) ∧ k xs σ₁
theorem comp_run {elt : Expr} {gens : List Comprehension} {scope : Scope} {pos : Pos} {gc : Comprehension} {gs : List Comprehension} {use : Option (Value → Sem Unit)} {s : Shared} {Q : Value → Shared → Prop} {ipos : Pos} (inner : Addr → Addr → Addr → Sem PySem.Fin) (OK : CompOk scope env) (hA : AOk A) (R : Rel c Z P env σ s.heap)
  (hgens : gens = gc :: gs) (ha : gc.is_async = 0) (hs : ∀ x, foldedSetIterable gc.iter env x = pure x)
  (htree : ∀ I C D, compTurn (.ListComp elt gens scope pos) 0 (.ref I) (.ref D) (cenvOf scope env C) = turnTree (.ref I) gc.iter.pos gc.target gc.ifs (cenvOf scope env C) (inner I C D) (.compLoop (.ListComp elt gens scope pos) 0 (.ref I) (.ref D) (cenvOf scope env C)))
  (kk : List V → St → Prop)
  (h : CompSrc c A env σ gc.target gc.iter fun xs σ₁ => ∃ g : V → List V, (xs.flatMap g).length ≤ sizeLine ∧ (∀ I C D, ∀ X ∈ xs, TurnC c A (cenvOf scope env C) ⟨capsOf scope σ₁.loc, σ₁.hp⟩ D gc.target gc.ifs (inner I C D) (.compLoop (.ListComp elt gens scope pos) 0 (.ref I) (.ref D) (cenvOf scope env C)) X (g X)) ∧ kk (xs.flatMap g) σ₁)
  (done : ∀ ys σ₁ D C Z' h' tk dr, kk ys σ₁ → Step Z P s.heap Z' h' → Rel c Z' (fun b => P b ∨ b = C) env ⟨σ₁.loc, (D, O.lst ys) :: σ₁.hp⟩ h' → (∃ m, h'.Ns C m) → ¬ P C → compPost c.M A (fun _ _ => False) use Q (.ref D) C (.ok .next) { s with heap := h', toks := tk, drawn := dr }) :
  wpAny c.M A (comprehension (.ListComp elt gens scope pos) scope env ipos (newList []) false (eval gc.iter env) use) Q (fun _ _ => False) s := by
 refine wpAny_comprehension_free (g := gc) (gs := gs) (by subst hgens; rfl) hs (hclos_of R OK) OK.fn (hnames_of OK) ?_
 refine wp_then h hA R fun Z₁ h₁ tk₁ dr₁ X σ₁ v S₁ R₁ r₁ kk => ?_
 refine E12 kk fun xs hseq y0 => E13 y0 fun g hsz hturn hkk => ?_; clear kk
 refine (hseq hA Z₁ P { s with heap := h₁, toks := tk₁, drawn := dr₁ } v R₁.inv.exZ R₁.hp r₁).run _ _ fun h' tk dr I fp Stt ys Nw hk hI hIe hNw hfp hst ho W => ?_
 subst ho
 have hk' : Kp h₁ h' := hk
 have R₂ : Rel c Z₁ P env σ₁ h' := R₁.kp hk'
 have none_not : ∀ b, h₁.get? b = none → ¬ Z₁ b ∧ ¬ P b ∧ ¬ OwnA env b ∧ ∀ o, (b, o) ∉ σ₁.hp := by
  intro b hb
  refine (I04 (fun z => ?_) (fun p => ?_) (fun o => ?_) (fun o ho => ?_))
  ·obtain ⟨o, e⟩ := R₁.inv.exZ b z; rw [hb] at e; cases e
  ·obtain ⟨o, e⟩ := R₁.inv.exP b p; rw [hb] at e; cases e
  ·obtain ⟨o', e⟩ := R₁.exOwn o; rw [hb] at e; cases e
  ·obtain ⟨ob, e⟩ := (R₁.hp.obj b o ho).1.some; rw [hb] at e; cases e
 refine comp_block (s := { s with heap := h', toks := tk, drawn := dr }) (Z := Z₁) (P := P) (σ := σ₁) (gc := gc) (inner := inner I) (Nw := Nw) (RR := fun acc cenv => compPost c.M A (fun _ _ => False) use Q acc cenv.locals) g OK hA R₂ (by subst hgens; rfl) ha (htree I) W hst
  (fun b hb => by
   rcases hfp b hb with h | h | h | h
   ·exact .inl h
   ·exact .inr (.inl h)
   ·exact h.elim
   ·exact .inr (.inr h))
  (fun b hb => by
   have n := none_not b (hNw b hb).2.1
   exact (I06 ((hNw b hb).1) (n.1) (n.2.1) (n.2.2.1) (n.2.2.2) ((hNw b hb).2.2)))
  (none_not I hI) hsz (hturn I) ?_
 intro D C Z' h'' tk' dr' S' R' hns hPC cenv hcenv
 subst hcenv
 exact done _ σ₁ D _ Z' h'' tk' dr' hkk (S₁.trans ((Step.kp hk').trans S')) R' hns hPC
theorem wE_comp {elt : Expr} {gens : List Comprehension} {scope : Scope} {pos : Pos} {gc : Comprehension} {gs : List Comprehension} {k : V → St → Prop} (inner : Addr → Addr → Addr → Sem PySem.Fin) (OK : CompOk scope env)
  (hgens : gens = gc :: gs) (ha : gc.is_async = 0) (hs : ∀ x, foldedSetIterable gc.iter env x = pure x)
  (htree : ∀ I C D, compTurn (.ListComp elt gens scope pos) 0 (.ref I) (.ref D) (cenvOf scope env C) = turnTree (.ref I) gc.iter.pos gc.target gc.ifs (cenvOf scope env C) (inner I C D) (.compLoop (.ListComp elt gens scope pos) 0 (.ref I) (.ref D) (cenvOf scope env C)))
  (h : CompSrc c A env σ gc.target gc.iter fun xs σ₁ => ∃ g : V → List V, (xs.flatMap g).length ≤ sizeLine ∧ (∀ I C D, ∀ X ∈ xs, TurnC c A (cenvOf scope env C) ⟨capsOf scope σ₁.loc, σ₁.hp⟩ D gc.target gc.ifs (inner I C D) (.compLoop (.ListComp elt gens scope pos) 0 (.ref I) (.ref D) (cenvOf scope env C)) X (g X)) ∧ k (.lst (xs.flatMap g)) σ₁) :
  WE c A env σ (.ListComp elt gens scope pos) k := by
 refine WP.mk fun hA Z P s R => ?_
 rw [arm_eval_ListComp]
 have e1 : firstAsync gens = false := by subst hgens; obtain ⟨t, i, f, a⟩ := gc; simp only at ha; subst ha; rfl
 have e2 : firstIter gens env = eval gc.iter env := by subst hgens; obtain ⟨t, i, f, a⟩ := gc; rfl
 dsimp only
 rw [e1, e2]
 refine comp_run inner OK hA R hgens ha hs htree (fun ys σ₁ => k (.lst ys) σ₁) h ?_
 intro ys σ₁ D C Z' h' tk dr hk S' R' hns hPC
 obtain ⟨m, hm⟩ := hns
 refine (I12 m hm (fun h'' hsb => ?_))
 have Ro := R'.offC R.freeP hPC hsb
 exact (fin_mk ((S'.trans (Step.offC R'.inv hPC hsb)).trans Step.freeze) Ro.freezeHp (rd_frozen (Ro.hp.obj D _ (.head _)).1) hk)
theorem wS_AssignComp {elt t : Expr} {gens : List Comprehension} {scope : Scope} {pos spos : Pos} {gc : Comprehension} {gs : List Comprehension} {k : FV → St → Prop} (inner : Addr → Addr → Addr → Sem PySem.Fin) (OK : CompOk scope env)
  (hgens : gens = gc :: gs) (ha : gc.is_async = 0) (hs : ∀ x, foldedSetIterable gc.iter env x = pure x)
  (htree : ∀ I C D, compTurn (.ListComp elt gens scope pos) 0 (.ref I) (.ref D) (cenvOf scope env C) = turnTree (.ref I) gc.iter.pos gc.target gc.ifs (cenvOf scope env C) (inner I C D) (.compLoop (.ListComp elt gens scope pos) 0 (.ref I) (.ref D) (cenvOf scope env C)))
  (h : CompSrc c A env σ gc.target gc.iter fun xs σ₁ => ∃ g : V → List V, (xs.flatMap g).length ≤ sizeLine ∧ (∀ I C D, ∀ X ∈ xs, TurnC c A (cenvOf scope env C) ⟨capsOf scope σ₁.loc, σ₁.hp⟩ D gc.target gc.ifs (inner I C D) (.compLoop (.ListComp elt gens scope pos) 0 (.ref I) (.ref D) (cenvOf scope env C)) X (g X)) ∧ WA c A env σ₁ t (.lst (xs.flatMap g)) fun σ₂ => k .next σ₂)
  (hsw : swapsWith (.ListComp elt gens scope pos) (some t) spos.line env = pure true) (hte : (assignEach [t] env).map (·.2) = [assign t env]) :
  WS c A env σ (.Assign [t] (.ListComp elt gens scope pos) spos) k := by
 refine WP.mk fun hA Z P s R => ?_
 have e1 : firstAsync gens = false := by subst hgens; obtain ⟨t, i, f, a⟩ := gc; simp only at ha; subst ha; rfl
 have e2 : firstIter gens env = eval gc.iter env := by subst hgens; obtain ⟨t, i, f, a⟩ := gc; rfl
 show wpAny _ _ (do
  standAt spos
  if ← swapsWithSole [t] (.ListComp elt gens scope pos) spos.line env then do
   evalThenUse (.ListComp elt gens scope pos) env fun v => assignAll v ((assignEach [t] env).map (fun x : Bool × (Value → Sem Unit) => x.2))
   pure Flow.next
  else do
   let v ← eval (.ListComp elt gens scope pos) env
   assignStores env v (← swappedStores [t] (.ListComp elt gens scope pos) env) ((assignEach [t] env).map (fun x : Bool × (Value → Sem Unit) => x.2))) _ _ s
 rw [show swapsWithSole [t] (.ListComp elt gens scope pos) spos.line env = swapsWith (.ListComp elt gens scope pos) (some t) spos.line env from rfl, hsw, hte]
 refine wpAny_bind (wpAny_standAt (wpAny_bind (wpAny_pure ?_)))
 simp only [if_true]
 refine wpAny_bind ?_
 show wpAny _ _ (do let _ ← comprehension (.ListComp elt gens scope pos) scope env (firstIterPos gens pos) (newList []) (firstAsync gens) (firstIter gens env) (some fun v => assignAll v [assign t env])) _ _ s
 rw [e1, e2]
 refine wpAny_bind (comp_run inner OK hA R hgens ha hs htree (fun ys σ₁ => WA c A env σ₁ t (.lst ys) fun σ₂ => k .next σ₂) h ?_)
 intro ys σ₁ D C Z' h' tk dr hk S' R' hns hPC
 show wpAny c.M A (assign t env (.ref D)) _ _ _
 have hD := (R'.hp.obj D _ (.head _)).1
 refine wpAny_mono (hk hA _ (fun b => P b ∨ b = C) { s with heap := h', toks := tk, drawn := dr } (.ref D) R'.freezeHp (rd_frozen hD)) ?_ fun _ _ x => x
 refine fun _ _ => R65 fun Z₂ h₂ tk₂ dr₂ _ σ₂ z6 S₂ R₂ _ k₂ => ?_; subst z6
 refine E42 hns fun m o es ep ho q => ?_; clear hns
 refine (I12 m (I32 o es ep (S₂.keepP C _ (.inr rfl) ho) q) (fun h'' hsb => ?_))
 refine wpAny_pure (wpAny_pure (fin_mk ?_ (R₂.offC R.freeP hPC hsb) .next k₂))
 exact (S'.trans (Step.freeze.trans ⟨S₂.grow, S₂.keepZ, fun b o p e => S₂.keepP b o (.inl p) e⟩)).trans (Step.offC R₂.inv hPC hsb)
end
end Mine
end
noncomputable section
namespace Mine
open PySem PySem.SeqAt
section
variable {c : Cx} {A : Around} {env : Env} {σ : St} {Z P : Addr → Prop}
theorem wE_Comp1 {elt target iter : Expr} {ifs : List Expr} {scope : Scope} {pos : Pos} {k : V → St → Prop} (OK : CompOk scope env)
  (h : CompSrc c A env σ target iter fun xs σ₁ => ∃ g : V → List V, (xs.flatMap g).length ≤ sizeLine ∧ (∀ C, ∀ X ∈ xs, Turn1 c A (cenvOf scope env C) ⟨capsOf scope σ₁.loc, σ₁.hp⟩ target ifs elt X (g X)) ∧ k (.lst (xs.flatMap g)) σ₁)
  (hs : ∀ x, foldedSetIterable iter env x = pure x := by intro _; rfl) : WE c A env σ (.ListComp elt [⟨target, iter, ifs, 0⟩] scope pos) k := by
 refine wE_comp (gc := ⟨target, iter, ifs, 0⟩) (gs := []) (fun I C D => do emitTree elt (.ref D) (cenvOf scope env C); again (.compLoop (.ListComp elt [⟨target, iter, ifs, 0⟩] scope pos) 0 (.ref I) (.ref D) (cenvOf scope env C))) OK rfl rfl hs (fun I C D => turn_one ..) ?_
 exact WP.imp h fun X σ₁ ⟨xs, h1, g, h2, h3, h4⟩ => (I12 xs h1 (I13 g h2 (fun I C D X hX => (h3 C X hX).turnC) h4))
theorem wS_AssignComp1 {elt t target iter : Expr} {ifs : List Expr} {scope : Scope} {pos spos : Pos} {k : FV → St → Prop} (OK : CompOk scope env)
  (h : CompSrc c A env σ target iter fun xs σ₁ => ∃ g : V → List V, (xs.flatMap g).length ≤ sizeLine ∧ (∀ C, ∀ X ∈ xs, Turn1 c A (cenvOf scope env C) ⟨capsOf scope σ₁.loc, σ₁.hp⟩ target ifs elt X (g X)) ∧ WA c A env σ₁ t (.lst (xs.flatMap g)) fun σ₂ => k .next σ₂)
  (hs : ∀ x, foldedSetIterable iter env x = pure x := by intro _; rfl) (hsw : swapsWith (.ListComp elt [⟨target, iter, ifs, 0⟩] scope pos) (some t) spos.line env = pure true := by rfl)
  (hte : (assignEach [t] env).map (·.2) = [assign t env] := by rfl) : WS c A env σ (.Assign [t] (.ListComp elt [⟨target, iter, ifs, 0⟩] scope pos) spos) k := by
 refine wS_AssignComp (gc := ⟨target, iter, ifs, 0⟩) (gs := []) (fun I C D => do emitTree elt (.ref D) (cenvOf scope env C); again (.compLoop (.ListComp elt [⟨target, iter, ifs, 0⟩] scope pos) 0 (.ref I) (.ref D) (cenvOf scope env C))) OK rfl rfl hs (fun I C D => turn_one ..) ?_ hsw hte
 exact WP.imp h fun X σ₁ ⟨xs, h1, g, h2, h3, h4⟩ => (I12 xs h1 (I13 g h2 (fun I C D X hX => (h3 C X hX).turnC) h4))
noncomputable def Turn2 (c : Cx) (A : Around) (cenv : Env) (σc : St) (target : Expr) (ifs : List Expr) (target' iter' : Expr) (ifs' : List Expr) (elt : Expr) (X : V) (ys : List V) : Prop :=
 ∀ D zs, WA c A cenv (σc.acc D zs) target X fun σ₂ => WTs c A cenv σ₂ ifs true fun ok σ₃ => if ok then CompSrc c A cenv σ₃ target' iter' fun xs' σ₄ => ∃ (τ : St) (g' : V → List V), σ₄.le (τ.acc D zs) ∧ ys = xs'.flatMap g' ∧
   (∀ x X, σc.loc.lookup x = some X → τ.loc.lookup x = some X) ∧ τ.hp = σc.hp ∧ ∀ Y ∈ xs', Turn1 c A cenv τ target' ifs' elt Y (g' Y)
  else σ₃.le (σc.acc D zs) ∧ ys = []
theorem Turn2.turnC {cenv : Env} {σc : St} {target : Expr} {ifs : List Expr} {target' iter' : Expr} {ifs' : List Expr} {elt iter : Expr} {scope : Scope} {pos : Pos} {X : V} {ys : List V} {D I : Addr} (hs : ∀ x, foldedSetIterable iter' cenv x = pure x) (hfr : ∀ (x : Str) (cl : Addr), cenv.kindOf x = some .free → cenv.cells.lookup x = some cl → False)
  (h : Turn2 c A cenv σc target ifs target' iter' ifs' elt X ys) : TurnC c A cenv σc D target ifs (do
    let x ← eval iter' cenv
    standAt iter'.pos
    let x ← foldedSetIterable iter' cenv x
    let _ ← runOwn (.compStart (.ListComp elt [⟨target, iter, ifs, 0⟩, ⟨target', iter', ifs', 0⟩] scope pos) 1 (← holding [x] (pyIter x)) (.ref D) cenv) cenv
    again (.compLoop (.ListComp elt [⟨target, iter, ifs, 0⟩, ⟨target', iter', ifs', 0⟩] scope pos) 0 (.ref I) (.ref D) cenv)) (.compLoop (.ListComp elt [⟨target, iter, ifs, 0⟩, ⟨target', iter', ifs', 0⟩] scope pos) 0 (.ref I) (.ref D) cenv) X ys := by
 intro zs
 refine WA.imp (h D zs) fun σ₂ h₂ => WP.imp h₂ fun ok σ₃ h₃ => ?_
 cases ok with
 | false => exact h₃
 | true =>
  intro hA Z P s hsz R
  refine wpAny_bind (wp_then h₃ hA R fun Z₁ h₁ tk₁ dr₁ X' σ₄ v S₁ R₁ r₁ kk => ?_)
  refine E12 kk fun xs' hseq y0 => E25 y0 fun τ g' hle hys hloc hhp hturn => ?_; clear kk
  refine wpAny_bind (wpAny_standAt (wpAny_bind (wpAny_of_eq (hs v) (wpAny_bind (wpAny_holding ?_)))))
  refine (hseq hA Z₁ P { s with heap := h₁, toks := tk₁, drawn := dr₁ } v R₁.inv.exZ R₁.hp r₁).run _ _ fun h' tk dr J fp Stt ys' Nw hk hJ hJe hNw hfp hst ho W => ?_
  subst ho
  have hk' : Kp h₁ h' := hk
  have R₂ : Rel c Z₁ P cenv (τ.acc D zs) h' := (R₁.kp hk').le hle
  have none_not : ∀ b, h₁.get? b = none → ¬ Z₁ b ∧ ¬ P b ∧ ¬ OwnA cenv b ∧ ∀ o, (b, o) ∉ (τ.acc D zs).hp := by
   intro b hb
   refine (I04 (fun z => ?_) (fun p => ?_) (fun o => ?_) (fun o ho => ?_))
   ·obtain ⟨o, e⟩ := R₁.inv.exZ b z; rw [hb] at e; cases e
   ·obtain ⟨o, e⟩ := R₁.inv.exP b p; rw [hb] at e; cases e
   ·obtain ⟨o', e⟩ := R₁.exOwn o; rw [hb] at e; cases e
   ·obtain ⟨ob, e⟩ := (R₁.hp.obj b o (hle.2.1 b o ho)).1.some; rw [hb] at e; cases e
  have nJ := none_not J hJ
  have loop := compLoop_core (c := c) (A := A) (env := cenv) (σ := τ) (P := P) (Z := Z₁) (H := Nw) (s := { s with heap := h', toks := tk, drawn := dr }) (zs := zs) (D := D) (I := J) g'
   (e := .ListComp elt [⟨target, iter, ifs, 0⟩, ⟨target', iter', ifs', 0⟩] scope pos) (d := 1) (ipos := iter'.pos) (ifs := ifs') (target := target') (inner := do emitTree elt (.ref D) cenv; again (.compLoop (.ListComp elt [⟨target, iter, ifs, 0⟩, ⟨target', iter', ifs', 0⟩] scope pos) 1 (.ref J) (.ref D) cenv)) rfl rfl rfl (turn_snd ..) hA W
   (fun b hb => by
    rcases hfp b hb with h | h | h | h
    ·exact .inl h
    ·exact .inr (.inl h)
    ·exact h.elim
    ·exact .inr (.inr h))
   (fun n => (hNw J n).1 rfl) hst R₂ nJ.2.1 nJ.1 nJ.2.2.1 nJ.2.2.2
   (fun b hb => by
    have n := none_not b (hNw b hb).2.1
    exact (I04 ((hNw b hb).2.2) (n.1) (n.2.2.1) (n.2.2.2)))
   (by rw [← hys]; exact hsz) (fun Y hY => (hturn Y hY).turnC)
  have fin : codeAny c.M A (.compLoop (.ListComp elt [⟨target, iter, ifs, 0⟩, ⟨target', iter', ifs', 0⟩] scope pos) 1 (.ref J) (.ref D) cenv) (fun r s' => match r with | .ok _ => wpAny c.M A (again (.compLoop (.ListComp elt [⟨target, iter, ifs, 0⟩, ⟨target', iter', ifs', 0⟩] scope pos) 0 (.ref I) (.ref D) cenv)) (fun fin s' => fin = .again (.compLoop (.ListComp elt [⟨target, iter, ifs, 0⟩, ⟨target', iter', ifs', 0⟩] scope pos) 0 (.ref I) (.ref D) cenv) ∧ ∃ Z' h' tk dr, s' = { s with heap := h', toks := tk, drawn := dr } ∧ Step Z P s.heap Z' h' ∧ Rel c Z' P cenv (σc.acc D (zs ++ ys)) h') (fun _ _ => False) s' | .error e => cameBackBy c.M A cenv (fun _ _ => False) e s') { s with heap := h', toks := tk, drawn := dr } := by
   refine codeAny_mono loop ?_
   refine fun r _ => R02 fun z0 y0 => E43 y0 fun Z' h'' tk' dr' z5 S' R' => ?_; subst z0; subst z5
   refine wpAny_pure (I02 rfl (I43 Z' h'' tk' dr' rfl (S₁.trans ((Step.kp hk').trans ⟨S'.grow, S'.keepZ, fun b o p e => S'.keepP b o (.inl p) e⟩)) ?_))
   rw [hys]
   have R'' : Rel c Z' P cenv (τ.acc D (zs ++ ys'.flatMap g')) h'' := R'.unprotect (fun b p => .inl p) (fun x cl h1 h2 => (hfr x cl h1 h2).elim)
   refine R''.le (I03 hloc (fun b o hb => ?_) ?_)
   ·show (b, o) ∈ (D, O.lst (zs ++ ys'.flatMap g')) :: τ.hp
    rw [hhp]; exact hb
   ·intro this
    show (((D, O.lst (zs ++ ys'.flatMap g')) :: σc.hp).map (·.1)).Nodup
    rw [← hhp]; exact this
  exact wpAny_bind (wpAny_runOwn (compStart_any (by rfl) (by rfl) fin (W.self 0 _ _ _ hst fin)))
theorem free_cenv {scope : Scope} {C : Addr} (hfn : env.scope.kind = .function) (OK : CompOk scope env) : ∀ (x : Str) (cl : Addr), (cenvOf scope env C).kindOf x = some .free → (cenvOf scope env C).cells.lookup x = some cl → False := by
 intro x cl hx _
 rw [kindOf_cenv hfn] at hx
 cases hs : scope.names.lookup x with
 | none => rw [hs] at hx; cases hx
 | some k =>
  rw [hs] at hx
  cases k <;> simp at hx
  exact hx (OK.free (x, .free) (PySem.mem_of_lookup hs) rfl)
end
end Mine
end
noncomputable section
namespace Mine
open PySem PySem.SeqAt
noncomputable def Fresh (c : Cx) (A : Around) (Z : Addr → Prop) (s : Shared) (t : Sem Value) (o : O) : Prop :=
 ∀ Q E, (∀ a h' tk dr, Kp s.heap h' → s.heap.get? a = none → RdO c Z h' a o → Q (.ref a) { s with heap := h', toks := tk, drawn := dr }) → wpAny c.M A t Q E s
noncomputable def O.frz : O → Option V
 | .lst xs => some (.lst xs)
 | .dct es => some (.dct es)
 | .set xs => some (.set xs)
 | _ => none
theorem RdO.frz {c : Cx} {Z : Addr → Prop} {h : Heap} {a : Addr} {o : O} {X : V} (r : RdO c Z h a o) (hX : o.frz = Option.some X) : Rd c (fun b => Z b ∨ b = a) h X (.ref a) := by
 cases o with
 | lst xs => cases hX; refine E12 r fun items h1 h2 => ?_; clear r; exact .lst (.inr rfl) h1 (h2.more fun _ z => .inl z)
 | dct es => cases hX; refine E24 r fun kvs ep h1 h2 h3 h4 => ?_; clear r; exact .dct (.inr rfl) h1 h2 h3 (h4.more fun _ z => .inl z)
 | set xs => cases hX; exact .set (.inr rfl) r
 | inst C d => cases hX
 | ns es => cases hX
theorem Fresh.res {c : Cx} {A : Around} {Z : Addr → Prop} {s : Shared} {t : Sem Value} {o : O} {X : V} (f : Fresh c A Z s t o) (hX : o.frz = some X) : Res c A Z s t X := fun Q E hQ =>
 f Q E fun a h' tk dr hk hn r => hQ (.ref a) h' tk dr (fun b => b = a) hk (fun b hb => by subst hb; exact ⟨hn, r.some⟩) (r.frz hX)
section
variable {c : Cx} {A : Around} {env : Env} {σ : St}
theorem Rel.adopt {Z P : Addr → Prop} {h h' : Heap} {a : Addr} {o : O} (R : Rel c Z P env σ h) (hk : Kp h h') (hn : h.get? a = none) (ho : RdO c Z h' a o) : Rel c Z P env ⟨σ.loc, (a, o) :: σ.hp⟩ h' := by
 have R' := R.kp hk
 have hz : ¬ Z a := fun z => by obtain ⟨o, e⟩ := R.inv.exZ a z; rw [hn] at e; cases e
 have hp : ¬ P a := fun z => by obtain ⟨o, e⟩ := R.inv.exP a z; rw [hn] at e; cases e
 exact { R' with
  vars := R'.vars
  hp := ⟨fun b ob hb => by
   rcases List.mem_cons.mp hb with e | hb
   ·cases e; exact (I03 ho hz hp)
   ·exact R'.hp.obj b ob hb, by
   simp only [List.map_cons, List.nodup_cons]
   refine ⟨?_, R'.hp.nodup⟩
   intro hm
   refine E12 (List.mem_map.mp hm) fun z0 hb e => ?_; obtain ⟨b, ob⟩ := z0
   simp only at e; subst e
   obtain ⟨x, hx⟩ := (R.hp.obj _ ob hb).1.some
   rw [hn] at hx; cases hx⟩
  hpOff := fun b ob hb => by
   rcases List.mem_cons.mp hb with e | hb
   ·cases e
    intro hown
    obtain ⟨x, hx⟩ := R.exOwn hown
    rw [hn] at hx; cases hx
   ·exact R'.hpOff b ob hb }
theorem Rel.notin {Z P : Addr → Prop} {h : Heap} {a : Addr} (R : Rel c Z P env σ h) (hn : h.get? a = none) : a ∉ σ.hp.map (·.1) := by
 intro hm
 refine E12 (List.mem_map.mp hm) fun z0 hb e => ?_; obtain ⟨b, ob⟩ := z0
 simp only at e; subst e
 obtain ⟨x, hx⟩ := (R.hp.obj _ ob hb).1.some
 rw [hn] at hx; cases hx
theorem Fresh.own {P Z Z₀ : Addr → Prop} {s : Shared} {h₁ : Heap} {tk₁ : Nat} {dr₁ : Drawn} {t : Sem Value} {o : O} {k : V → St → Prop}
  (S : Step Z₀ P s.heap Z h₁) (R : Rel c Z P env σ h₁) (f : Fresh c A Z { s with heap := h₁, toks := tk₁, drawn := dr₁ } t o) (hk : ∀ a, a ∉ σ.hp.map (·.1) → k (.ref a) ⟨σ.loc, (a, o) :: σ.hp⟩) :
  wpAny c.M A t (Fin c P env (RV c) k Z₀ s) (fun _ _ => False) { s with heap := h₁, toks := tk₁, drawn := dr₁ } :=
 f _ _ fun a h' tk dr hkp hn ho => (fin_mk (S.trans (Step.kp hkp)) (R.adopt hkp hn ho) (.ref a) (hk a (R.notin hn)))
theorem RdL.two {Z : Addr → Prop} {h : Heap} {X Y : V} {vs : List Value} (r : RdL c Z h [X, Y] vs) : ∃ v u, vs = [v, u] ∧ Rd c Z h X v ∧ Rd c Z h Y u := by
 cases r with | cons a b => cases b with | cons a' b' => cases b'; exact (I23 _ _ rfl a a')
@[elab_as_elim] theorem RdL.one_elim {Z : Addr → Prop} {h : Heap} {X : V} {vs : List Value} {C : List Value → Prop} (r : RdL c Z h [X] vs) (k : ∀ v, Rd c Z h X v → C [v]) : C vs := by
 cases r with | cons a b => cases b; exact k _ a
@[elab_as_elim] theorem RdL.two_elim {Z : Addr → Prop} {h : Heap} {X Y : V} {vs : List Value} {C : List Value → Prop} (r : RdL c Z h [X, Y] vs) (k : ∀ v u, Rd c Z h X v → Rd c Z h Y u → C [v, u]) : C vs := by
 cases r with | cons a b => cases b with | cons a' b' => cases b'; exact k _ _ a a'
noncomputable def BCall (c : Cx) (A : Around) (hp : List (Addr × O)) (f : Value) (Xs : List V) (r : V) : Prop :=
 AOk A → ∀ Z P s vs, (Z sysModules ∧ ∀ b, Z b → ∃ o, s.heap.get? b = some o) → HpR c Z P s.heap hp → RdL c Z s.heap Xs vs → Res c A Z s (call f vs) r
noncomputable def FCall (c : Cx) (A : Around) (hp : List (Addr × O)) (f : Value) (Xs : List V) (o : O) : Prop :=
 AOk A → ∀ Z P s vs, (Z sysModules ∧ ∀ b, Z b → ∃ o, s.heap.get? b = some o) → HpR c Z P s.heap hp → RdL c Z s.heap Xs vs → Fresh c A Z s (call f vs) o
theorem FCall.frz {hp : List (Addr × O)} {f : Value} {Xs : List V} {o : O} {X : V} (h : FCall c A hp f Xs o) (hX : o.frz = some X) : BCall c A hp f Xs X := fun hA Z P s vs hZ H r => (h hA Z P s vs hZ H r).res hX
inductive PlainF : Value → Prop
 | type (T) : PlainF (.type T)
 | blt (id) : PlainF (.builtin id)
theorem callWith_plain {f : Value} {pos : Pos} {e : Expr} {rest : List Expr} {s : Shared} {Q : Value → Shared → Prop} {E : Value → Shared → Prop} (hf : PlainF f)
  (h : wpAny c.M A (spliced (backTo pos (starEach (e :: rest) env))) (fun vs s₁ => wpAny c.M A (call f vs) Q E s₁) E s) (he : starEach (e :: rest) env = (false, eval e env) :: starEach rest env)
  (hplain : (backTo pos (starEach rest env)).any (·.1) = false) : wpAny c.M A (callWith pos f [] (backTo pos (starEach (e :: rest) env)) []) Q E s := by
 cases hf with
 | type T => exact PyProof.Rows.callWith_type1 h he hplain
 | blt id => exact PyProof.Rows.callWith_builtin1 h he hplain
theorem wE_CallB {f : Str} {fv : Value} {fpos pos : Pos} {e : Expr} {es : List Expr} {k : V → St → Prop} (hm : c.mg f = none) (hv : bootBuiltins f = some fv) (hf : PlainF fv) (hk : env.kindOf f = some .globalImplicit)
  (h : WEs c A env σ pos (e :: es) fun Xs σ₁ => ∃ r, BCall c A σ₁.hp fv Xs r ∧ k r σ₁)
  (hn : f ≠ "__name__" := by decide) (hd : (f == ("__debug__" : Str)) = false := by decide) (he : starEach (e :: es) env = (false, eval e env) :: starEach es env := by rfl)
  (hplain : (backTo pos (starEach es env)).any (·.1) = false := by rfl) : WE c A env σ (.Call (.Name f fpos) (e :: es) [] pos) k := by
 refine WP.mk fun hA Z P s R => ?_
 show wpAny _ _ (do callWith pos (← eval (.Name f fpos) env) [] (backTo pos (starEach (e :: es) env)) (backToKw pos (keywordEach [] env))) _ _ s
 refine wpAny_bind (load_builtin R hm hv hn hk ?_ hd)
 refine callWith_plain hf (wp_then h hA R fun Z₁ h₁ tk₁ dr₁ Xs σ₁ vs S₁ R₁ r₁ kk => ?_) he hplain
 refine E12 kk fun r hB k₁ => ?_; clear kk
 exact Res.fin S₁ R₁ (hB hA Z₁ P _ vs ⟨R₁.inv.sys, R₁.inv.exZ⟩ R₁.hp r₁) k₁
theorem wE_CallF {f : Str} {fv : Value} {fpos pos : Pos} {e : Expr} {es : List Expr} {k : V → St → Prop} (hm : c.mg f = none) (hv : bootBuiltins f = some fv) (hf : PlainF fv) (hk : env.kindOf f = some .globalImplicit)
  (h : WEs c A env σ pos (e :: es) fun Xs σ₁ => ∃ o, FCall c A σ₁.hp fv Xs o ∧ ∀ a, a ∉ σ₁.hp.map (·.1) → k (.ref a) ⟨σ₁.loc, (a, o) :: σ₁.hp⟩)
  (hn : f ≠ "__name__" := by decide) (hd : (f == ("__debug__" : Str)) = false := by decide) (he : starEach (e :: es) env = (false, eval e env) :: starEach es env := by rfl)
  (hplain : (backTo pos (starEach es env)).any (·.1) = false := by rfl) : WE c A env σ (.Call (.Name f fpos) (e :: es) [] pos) k := by
 refine WP.mk fun hA Z P s R => ?_
 show wpAny _ _ (do callWith pos (← eval (.Name f fpos) env) [] (backTo pos (starEach (e :: es) env)) (backToKw pos (keywordEach [] env))) _ _ s
 refine wpAny_bind (load_builtin R hm hv hn hk ?_ hd)
 refine callWith_plain hf (wp_then h hA R fun Z₁ h₁ tk₁ dr₁ Xs σ₁ vs S₁ R₁ r₁ kk => ?_) he hplain
 refine E12 kk fun o hB k₁ => ?_; clear kk
 exact Fresh.own S₁ R₁ (hB hA Z₁ P _ vs ⟨R₁.inv.sys, R₁.inv.exZ⟩ R₁.hp r₁) k₁
end
section
variable {c : Cx} {A : Around} {hp : List (Addr × O)}
theorem f_list_lst {xs : List V} (hl : xs.length ≤ sizeLine) : FCall c A hp (.type "list") [.lst xs] (.lst xs) := by
 intro hA Z P s vs hZ H r Q E hQ
 refine RdL.one_elim r fun v r1 => ?_
 refine Rd.lst_elim r1 fun a items z i ri => ?_
 have l := ri.length
 simp only [Array.length_toList] at l
 obtain ⟨n, ho⟩ := i
 exact call_list_seq a (.inl rfl) ho rfl rfl (fun h' c' hk hn => hQ _ h' s.toks s.drawn hk (fresh_none _ _ (Nat.le_refl _)) (I12 items ⟨c', hn⟩ (ri.kp hk))) (by omega)
theorem f_list_tup {xs : List V} (hl : xs.length ≤ sizeLine) : FCall c A hp (.type "list") [.tup xs] (.lst xs) := by
 intro hA Z P s vs hZ H r Q E hQ
 refine RdL.one_elim r fun v r1 => ?_
 refine Rd.tup_elim r1 fun a items z i ri => ?_
 have l := ri.length
 simp only [Array.length_toList] at l
 obtain ⟨n, ho⟩ := i
 exact call_list_seq a (.inr rfl) ho rfl rfl (fun h' c' hk hn => hQ _ h' s.toks s.drawn hk (fresh_none _ _ (Nat.le_refl _)) (I12 items ⟨c', hn⟩ (ri.kp hk))) (by omega)
theorem f_list_own {a : Addr} {xs : List V} (ha : (a, O.lst xs) ∈ hp) (hl : xs.length ≤ sizeLine) : FCall c A hp (.type "list") [.ref a] (.lst xs) := by
 intro hA Z P s vs hZ H r Q E hQ
 refine RdL.one_elim r fun v r1 => ?_
 first | refine Rd.int_elim r1 fun _ => ?_ | refine Rd.ref_elim r1 ?_ | refine Rd.str_elim r1 fun _ => ?_ | refine Rd.bool_elim r1 ?_ | refine Rd.typ_elim r1 ?_ | cases r1
 refine E12 ((H.obj a _ ha).1) fun items i r => ?_
 have l := r.length
 simp only [Array.length_toList] at l
 obtain ⟨n, ho⟩ := i
 exact call_list_seq a (.inl rfl) ho rfl rfl (fun h' c' hk hn => hQ _ h' s.toks s.drawn hk (fresh_none _ _ (Nat.le_refl _)) (I12 items ⟨c', hn⟩ (r.kp hk))) (by omega)
theorem b_len_lst {xs : List V} (hl : xs.length ≤ sizeLine) : BCall c A hp (.builtin "len") [.lst xs] (.int xs.length) := by
 intro hA Z P s vs hZ H r
 refine RdL.one_elim r fun v r1 => ?_
 refine Rd.lst_elim r1 fun a items z i ri => ?_
 have l := ri.length
 simp only [Array.length_toList] at l
 refine Res.pure fun Q E h => Calls.call_len_list i.isList (by rw [sizeLine_eq] at hl; omega) ?_
 rw [← l]; exact h _ _ (.int _ _)
theorem b_len_oset {a : Addr} {xs : List Str} (ha : (a, O.set xs) ∈ hp) : BCall c A hp (.builtin "len") [.ref a] (.int xs.length) := by
 intro hA Z P s vs hZ H r
 refine RdL.one_elim r fun v r1 => ?_
 first | refine Rd.int_elim r1 fun _ => ?_ | refine Rd.ref_elim r1 ?_ | refine Rd.str_elim r1 fun _ => ?_ | refine Rd.bool_elim r1 ?_ | refine Rd.typ_elim r1 ?_ | cases r1
 refine E59 ((H.obj a _ ha).1) fun o es ep t ks h1 h2 h3 h4 h5 h6 h7 h8 _ => ?_
 have hlen : es.size = xs.length := by rw [← h5.length_eq, ← h4.length]; simp
 have hb : scanBound < 2 ^ 60 := by decide
 refine Res.pure fun Q E h => call_len_set h1 h2 h3 h8 (by omega) ?_
 rw [hlen]; exact h _ _ (.int _ _)
theorem b_type_int {i : Int} : BCall c A hp (.type "type") [.int i] (.typ "int") := by
 intro hA Z P s vs hZ H r
 refine RdL.one_elim r fun v r1 => ?_
 first | refine Rd.int_elim r1 fun _ => ?_ | refine Rd.ref_elim r1 ?_ | refine Rd.str_elim r1 fun _ => ?_ | refine Rd.bool_elim r1 ?_ | refine Rd.typ_elim r1 ?_ | cases r1
 exact Res.pure fun Q E h => call_type_of (Tx := "int") rfl (by decide) (h _ s.toks (.typ _))
end
end Mine
end
noncomputable section
namespace Mine
open PySem PySem.SeqAt
noncomputable def sadd (xs : List Str) (k : Str) : List Str := if k ∈ xs then xs else xs ++ [k]
noncomputable def sof (xs : List Str) : List Str := xs.foldl sadd []
theorem sadd_len (xs : List Str) (k : Str) : (sadd xs k).length ≤ xs.length + 1 := by
 unfold sadd; split <;> simp
theorem sfold_len : ∀ (ks xs : List Str), (ks.foldl sadd xs).length ≤ xs.length + ks.length
 | [], xs => by simp
 | k :: ks, xs => by
  have h1 := sfold_len ks (sadd xs k)
  have h2 := sadd_len xs k
  simp only [List.foldl_cons, List.length_cons]; omega
section
variable {c : Cx} {A : Around} {E : Value → Shared → Prop} {s : Shared}
noncomputable def newSetObj (c : Cx) : Obj := { cls := .type "set", dict := none, data := .set #[] 0 (.fresh 0 0 (!c.w.params.followText "set-order")) }
theorem newSetL {h : Heap} {a : Addr} (hg : h.get? a = some (newSetObj c)) : SetL c h a [] := by
 refine (I510 _ (#[]) 0 _ [] hg (I03 rfl rfl rfl) rfl .nil (.refl _) .nil (by decide) (by rfl) ?_ (by simp))
 show (!c.w.params.followText "set-order") = true ∨ _
 cases c.w.params.followText "set-order" <;> simp
theorem code_set_newL (xs : List Value) {Q₁ : Value → Shared → Prop} (hck : checkBuiltinCall "set.__new__" ⟨.type "set" :: xs, []⟩ = pure ())
  (h : Q₁ (.ref s.heap.objs.size) { s with heap := s.heap.push (newSetObj c) }) :
  codeAny c.M A (.call (.builtin "set.__new__") ⟨.type "set" :: xs, []⟩) (wants Q₁ E) s := by
 refine codeAny_of_tree ?_
 show wpAny _ A.in1 (do checkBuiltinCall "set.__new__" ⟨.type "set" :: xs, []⟩; again (.builtin "set.__new__" ⟨.type "set" :: xs, []⟩)) _ _ s
 refine wpAny_bind (wpAny_of_eq hck (wpAny_pure ⟨plainId_quiet F.plain_set_new _, codeAny_builtin F.entry_set_new ?_⟩))
 rw [Around.under_plainId F.plain_set_new _]
 unfold Builtin.«set.__new__» Builtin.Frozenset.newClass
 have hsub := sub_set_self
 obtain ⟨hp, g, d, tk, os⟩ := s
 dsimp only
 wp_walk
 refine wpAny_askSetting (wpAny_pure ?_)
 dsimp only
 simp only [newObj]
 refine wpAny_bind (wpAny_alloc (wpAny_pure ?_))
 exact wpAny_pure h
set_option maxHeartbeats 1000000 in
set_option maxRecDepth 100000 in
theorem call_set0L {Q : Value → Shared → Prop} (h : Q (.ref s.heap.objs.size) { s with heap := s.heap.push (newSetObj c) }) :
  wpAny c.M A (call (.type "set") []) Q E s := by
 refine E21 F.called_set.mro fun cc tl hmro => ?_
 have hmade := F.called_set.made
 have hsub := F.called_set.sub
 refine wpAny_call (codeAny_of_tree ?_)
 show wpAny _ _ (callAny (.type "set") _) _ _ _
 refine wpAny_pure ⟨Code.quiet_builtin _ (by decide +kernel), codeAny_builtin F.entry_type_call ?_⟩
 rw [Around.under_plain (weight_type_call_type "set" [] []) rfl]
 have h1 := F.called_set.notType
 have h2 := F.called_set.canCreate
 have hct := F.typeCall_set_0
 repeat (any_goals (first | assumption | wp_step))
 refine codeAny_mono (code_set_newL [] (E := E) (Q₁ := fun obj s₁ => obj = .ref s.heap.objs.size ∧ s₁ = { s with heap := s.heap.push (newSetObj c) }) F.newCall_set_0 ⟨rfl, rfl⟩) fun r s₁ hr => ?_
 cases r with
 | error e => exact hr
 | ok fl =>
  cases fl with
  | ret obj =>
   obtain ⟨rfl, rfl⟩ := hr
   have hS : (s.heap.push (newSetObj c)).get? s.heap.objs.size = some (newSetObj c) := Heap.get?_push_size _ rfl
   have hT : Shared.TypeIs { s with heap := s.heap.push (newSetObj c) } (.ref s.heap.objs.size) "set" := (I12 _ hS rfl)
   have hli := F.called_set.init.lookup
   have hbi := F.called_set.init.bind (.ref s.heap.objs.size)
   repeat (any_goals (first | assumption | wp_step))
   refine codeAny_mono (codeAny_call_builtin (R := wants (fun r s₂ => r = .none ∧ Q (.ref s.heap.objs.size) s₂) E) F.called_set.init.plain F.entry_set_init (check_set_init hT ?_)) fun r₂ s₂ hr₂ => ?_
   ·unfold Builtin.«set.__init__» noKeywords
    wp_walk
    exact ⟨rfl, h⟩
   ·cases r₂ with
    | error e => exact hr₂
    | ok fl₂ =>
     cases fl₂ with
     | ret r =>
      obtain ⟨rfl, hq⟩ := hr₂
      repeat (any_goals (first | assumption | wp_step))
     | _ => exact hr₂.elim
  | _ => exact hr.elim
theorem update_loopL {R : Result → Shared → Prop} {I : Addr} {fp wr : List Addr} {n : Nat} {P : Nat → Value → Prop} {Stt : Nat → Heap → Prop} (W : Walks c.prog c.w A.in1 I fp wr n P Stt) (S : Addr) (hSf : S ∉ fp)
  (ks : List Str) (hn : ks.length = n) (hval : ∀ (i : Nat) v, P i v → ∃ k t, ks[i]? = some k ∧ v = .str k t) (hb : n + 1 < scanBound) :
  ∀ (k i : Nat) (s : Shared), n - i = k → i ≤ n → Stt i s.heap → SetL c s.heap S (sof (ks.take i)) →
   (∀ h' tk, (∀ b o, b ∉ S :: wr → s.heap.get? b = some o → h'.get? b = some o) → SetL c h' S (sof ks) → R (.ok (.ret .none)) { s with heap := h', toks := tk }) →
   codeAny c.M A (.builtin "set.update.loop" ⟨[.ref S, .ref I], []⟩) R s := by
 have hSw : S ∉ wr := fun h => hSf (W.sub _ h)
 intro k
 induction k with
 | zero =>
  intro i s hk hi hst hS hR
  have hin : i = n := oz hk hi
  subst hin
  refine codeAny_builtin PyProof.Rows.F.entry_set_update_loop ?_
  rw [Around.under_plainId PyProof.Rows.F.plain_set_update_loop _]
  show wpAny _ A.in1 (pyNext (.ref I) >>= _) _ _ s
  refine wpAny_bind (W.done s _ _ hst fun h' tk hm => ?_)
  show wpAny _ A.in1 (ret Value.none) _ _ _
  refine wpAny_pure (hR h' tk (fun b o hb e => hm b o (fun h => hb (List.mem_cons_of_mem _ h)) e) ?_)
  rw [List.take_of_length_le (by omega)] at hS
  exact hS.keep fun o => hm S o hSw
 | succ k ih =>
  intro i s hk hi hst hS hR
  have hlt : i < n := ol hk
  refine codeAny_builtin PyProof.Rows.F.entry_set_update_loop ?_
  rw [Around.under_plainId PyProof.Rows.F.plain_set_update_loop _]
  show wpAny _ A.in1 (pyNext (.ref I) >>= _) _ _ s
  refine wpAny_bind (W.item i s _ _ hlt hst fun v h₁ tk₁ hP hst' hm => ?_)
  refine E22 (hval i v hP) fun x t hx z3 => ?_; subst z3
  have hS' : SetL c h₁ S (sof (ks.take i)) := hS.keep fun o => hm S o hSw
  show wpAny _ A.in1 (holding [Value.str x t] (setAdd S (.str x t)) >>= _) _ _ _
  refine wpAny_bind (wpAny_holding ?_)
  unfold setAdd
  refine wpAny_holding ?_
  refine wpAny_bind (c.K.pyHash (k := x) (strKind_is _ _ _ _) ?_)
  have hroom : (sof (ks.take i)).length + 1 < scanBound := by
   have := sfold_len (ks.take i) []
   rw [List.length_nil, Nat.zero_add] at this
   exact Nat.lt_of_le_of_lt (Nat.succ_le_succ (Nat.le_trans this (Nat.le_trans (List.length_take_le i ks) hi))) hb
  refine setAddL (s := { s with heap := h₁, toks := tk₁ + 1 }) (strKind_is _ _ _ _) rfl ⟨t, rfl⟩ hS' hroom fun h₂ b hsb hS2 => ?_
  have hSi : SetL c h₂ S (sof (ks.take (i + 1))) := by
   have e : sof (ks.take (i + 1)) = sadd (sof (ks.take i)) x := by
    unfold sof
    rw [List.take_add_one, hx, List.foldl_append]; rfl
   rw [e]; exact hS2
  refine wpAny_pure ⟨plainId_quiet PyProof.Rows.F.plain_set_update_loop _, ih (i + 1) _ (os hk) hlt (W.frame _ h₁ _ hst' fun b hb o e => ?_) hSi fun h' tk hm'' hS'' => ?_⟩
  ·rw [hsb.2 b (fun h : b = S => hSf (by rw [← h]; exact hb))]; exact e
  ·refine hR h' tk (fun b o hb e => hm'' b o hb ?_) hS''
   rw [hsb.2 b (fun h : b = S => hb (by rw [h]; exact List.mem_cons_self))]
   exact hm b o (fun h => hb (List.mem_cons_of_mem _ h)) e
set_option maxRecDepth 100000 in
set_option maxHeartbeats 3200000 in
theorem call_set_listL {l : Addr} {items : Array Value} {ks : List Str} {Q : Value → Shared → Prop}
  (hh : A.handled = none) (hl : s.heap.IsList l items) (hn : ks.length = items.size) (hval : ∀ (i : Nat) v, items[i]? = some v → ∃ k t, ks[i]? = some k ∧ v = .str k t) (hb : items.size + 1 < scanBound)
  (h : ∀ (h' : Heap) (tk : Nat), SetL c h' s.heap.objs.size (sof ks) → Kp s.heap h' → Q (.ref s.heap.objs.size) { s with heap := h', toks := tk }) :
  wpAny c.M A (call (.type "set") [.ref l]) Q E s := by
 refine E21 F.called_set.mro fun cc tl hmro => ?_
 have hmade := F.called_set.made
 have hsub := F.called_set.sub
 refine wpAny_call (codeAny_of_tree ?_)
 show wpAny _ _ (callAny (.type "set") _) _ _ _
 refine wpAny_pure ⟨Code.quiet_builtin _ (by decide +kernel), codeAny_builtin F.entry_type_call ?_⟩
 rw [Around.under_plain (weight_type_call_type "set" [.ref l] []) rfl]
 have h1 := F.called_set.notType
 have h2 := F.called_set.canCreate
 have hct := F.typeCall_set_1 (.ref l)
 repeat (any_goals (first | assumption | wp_step))
 refine codeAny_mono (code_set_newL [.ref l] (E := E) (Q₁ := fun obj s₁ => obj = .ref s.heap.objs.size ∧ s₁ = { s with heap := s.heap.push (newSetObj c) }) (F.newCall_set_1 _) ⟨rfl, rfl⟩) fun r s₁ hr => ?_
 cases r with
 | error e => exact hr
 | ok fl =>
  cases fl with
  | ret obj =>
   obtain ⟨rfl, rfl⟩ := hr
   have hS : (s.heap.push (newSetObj c)).get? s.heap.objs.size = some (newSetObj c) := Heap.get?_push_size _ rfl
   have hT : Shared.TypeIs { s with heap := s.heap.push (newSetObj c) } (.ref s.heap.objs.size) "set" := (I12 _ hS rfl)
   have hli := F.called_set.init.lookup
   have hbi := F.called_set.init.bind (.ref s.heap.objs.size)
   repeat (any_goals (first | assumption | wp_step))
   refine codeAny_mono (codeAny_call_builtin (R := wants (fun r s₂ => r = .none ∧ ∃ h' tk, s₂ = { s with heap := h', toks := tk } ∧ SetL c h' s.heap.objs.size (sof ks) ∧ Kp s.heap h') E) F.called_set.init.plain F.entry_set_init (check_set_init_1 hT ?_)) fun r₂ s₂ hr₂ => ?_
   ·refine E13 hl fun ol hol hcl y0 => E11 y0 fun nl hdl => ?_; clear hl
    obtain ⟨ocls, odict, odata, oslots⟩ := ol
    simp only at hcl hdl
    subst hcl; subst hdl
    have hol' : (s.heap.push (newSetObj c)).get? l = some { cls := .type "list", dict := odict, data := .seq items nl, slots := oslots } := Heap.get?_push_of_some _ hol
    have hsls := F.sub_list_set
    have hslf := F.sub_list_frozenset
    have hne : (Value.type "list" == Value.type "dict") = false := by decide
    have hl1 : (s.heap.push (newSetObj c)).IsList l items := (I13 _ hol' rfl (I11 nl rfl))
    unfold Builtin.«set.__init__» noKeywords Builtin.Frozenset.updateFrom
    generalize hPI : pyIter = PI
    wp_walk
    subst hPI
    refine wpAny_pyIter_list hl1 ?_
    refine wpAny_bind (wpAny_runValue ?_)
    have hlS : l < s.heap.objs.size := Heap.lt_size hol
    have hh3 : A.in1.in1.in1.handled = none := by simp [hh]
    have hneI : l ≠ (s.heap.push (newSetObj c)).objs.size := by
     rw [Heap.size_push]; exact Nat.ne_of_lt (Nat.lt_succ_of_lt hlS)
    have hSf : s.heap.objs.size ∉ [(s.heap.push (newSetObj c)).objs.size, l] := by
     rw [Heap.size_push]; simp only [List.mem_cons, List.mem_singleton, List.not_mem_nil, or_false, not_or]
     exact ⟨Nat.ne_of_lt (Nat.lt_succ_self _), Nat.ne_of_gt hlS⟩
    refine update_loopL (Walks.list hh3 _ l hneI items) s.heap.objs.size hSf ks hn hval hb (items.size - 0) 0 _ (by omega) (Nat.zero_le _)
     ⟨(I13 _ (Heap.get?_push_size _ rfl) rfl rfl), (hl1.push _)⟩ (newSetL (Heap.get?_push_of_some _ hS)) fun h' tk hm hS' => ?_
    refine wpAny_pure ?_
    show wpAny _ _ (ret Value.none) _ _ _
    refine wpAny_pure (I02 rfl (I23 h' tk rfl hS' (fun b o e => ?_)))
    have hb := Heap.lt_size e
    have hb1 : b ≠ s.heap.objs.size := Nat.ne_of_lt hb
    have hb2 : b ≠ (s.heap.push (newSetObj c)).objs.size := by
     rw [Heap.size_push]; exact Nat.ne_of_lt (Nat.lt_succ_of_lt hb)
    exact hm b o (by simp only [List.mem_cons, List.mem_singleton, List.not_mem_nil, or_false, not_or]; exact ⟨hb1, hb2⟩) (Heap.get?_push_of_some _ (Heap.get?_push_of_some _ e))
   ·cases r₂ with
    | error e => exact hr₂
    | ok fl₂ =>
     cases fl₂ with
     | ret r =>
      refine E02 hr₂ fun z0 y0 => E23 y0 fun h' tk z3 hS' hk' => ?_; clear hr₂; subst z0; subst z3
      repeat (any_goals (first | assumption | wp_step))
      exact h _ _ hS' hk'
     | _ => exact hr₂.elim
  | _ => exact hr.elim
end
section
variable {c : Cx} {A : Around} {env : Env} {σ : St}
theorem wE_set0 {fpos pos : Pos} {k : V → St → Prop} (hm : c.mg "set" = none) (hk : env.kindOf "set" = some .globalImplicit)
  (h : ∀ a, a ∉ σ.hp.map (·.1) → k (.ref a) ⟨σ.loc, (a, .set []) :: σ.hp⟩) : WE c A env σ (.Call (.Name "set" fpos) [] [] pos) k := by
 refine WP.mk fun hA Z P s R => ?_
 show wpAny _ _ (do callWith pos (← eval (.Name "set" fpos) env) [] (backTo pos (starEach [] env)) (backToKw pos (keywordEach [] env))) _ _ s
 refine wpAny_bind (load_builtin R hm rfl (by decide) hk ?_ (by decide))
 refine PyProof.Rows.callWith_type0 ?_
 exact Fresh.own (o := .set []) (s := s) (tk₁ := s.toks) (dr₁ := s.drawn) (Step.refl ..) R (fun Q E hQ => call_set0L (hQ _ _ s.toks s.drawn (Kp.push _ _) (fresh_none _ _ (Nat.le_refl _)) (newSetL (Heap.get?_push_size _ rfl)))) h
theorem f_set_lst {hp : List (Addr × O)} {ks : List Str} (hl : ks.length + 1 < scanBound) : FCall c A hp (.type "set") [.lst (ks.map .str)] (.set (sof ks)) := by
 intro hA Z P s vs hZ H r Q E hQ
 refine RdL.one_elim r fun v r1 => ?_
 refine Rd.lst_elim r1 fun a items z i ri => ?_
 have l := ri.length
 simp only [Array.length_toList, List.length_map] at l
 refine call_set_listL hA.handled i.isList l (fun i v hv => ?_) (by omega) fun h' tk hS hk => hQ _ h' tk s.drawn hk (fresh_none _ _ (Nat.le_refl _)) hS
 refine E12 (ri.get' i v (by simpa using hv)) fun X hX rX => ?_
 simp only [List.getElem?_map, Option.map_eq_some_iff] at hX
 refine E12 hX fun k hk z2 => ?_; clear hX; subst z2
 first | refine Rd.int_elim rX fun _ => ?_ | refine Rd.ref_elim rX ?_ | refine Rd.str_elim rX fun _ => ?_ | refine Rd.bool_elim rX ?_ | refine Rd.typ_elim rX ?_ | cases rX
 exact (I22 k _ hk rfl)
end
end Mine
end
noncomputable section
namespace Mine
open PySem PySem.SeqAt
noncomputable def dset (es : List (Str × V)) (k : Str) (X : V) : List (Str × V) :=
 if es.any (fun e => e.1 = k) then es.map (fun e => if e.1 = k then (e.1, X) else e) else es ++ [(k, X)]
noncomputable def dfold (ps es : List (Str × V)) : List (Str × V) := ps.foldl (fun es p => dset es p.1 p.2) es
theorem dset_len (es : List (Str × V)) (k : Str) (X : V) : (dset es k X).length ≤ es.length + 1 := by
 unfold dset; split <;> simp
theorem dset_rd {c : Cx} {Z : Addr → Prop} {h : Heap} {es : List (Str × V)} {kvs : List (Str × Value)} {k : Str} {X : V} {v : Value} (e : kvs.map (·.1) = es.map (·.1)) (r : RdL c Z h (es.map (·.2)) (kvs.map (·.2))) (rv : Rd c Z h X v) :
  (stored kvs k v).map (·.1) = (dset es k X).map (·.1) ∧ RdL c Z h ((dset es k X).map (·.2)) ((stored kvs k v).map (·.2)) := by
 have hany : kvs.any (fun e => decide (e.1 = k)) = es.any (fun e => decide (e.1 = k)) := by
  have h1 : kvs.any (fun e => decide (e.1 = k)) = (kvs.map (·.1)).any (fun e => decide (e = k)) := by rw [List.any_map]; rfl
  have h2 : es.any (fun e => decide (e.1 = k)) = (es.map (·.1)).any (fun e => decide (e = k)) := by rw [List.any_map]; rfl
  rw [h1, h2, e]
 unfold stored dset
 rw [hany]
 split
 ·rename_i hany2; clear hany hany2
  induction es generalizing kvs with
  | nil => cases kvs with
   | nil => exact ⟨rfl, .nil⟩
   | cons _ _ => simp at e
  | cons p es ih => cases kvs with
   | nil => simp at e
   | cons q kvs =>
    simp only [List.map_cons, List.cons.injEq] at e
    simp only [List.map_cons] at r
    cases r with | cons r1 r2 =>
    obtain ⟨i1, i2⟩ := ih e.2 r2
    simp only [List.map_cons, e.1]
    by_cases hk : p.1 = k
    ·simp only [hk, if_true]; exact ⟨by rw [i1], .cons rv i2⟩
    ·simp only [hk, if_false]; exact ⟨by rw [i1, e.1], .cons r1 i2⟩
 ·simp only [List.map_append, List.map_cons, List.map_nil]
  exact ⟨by rw [e], r.append (.cons rv .nil)⟩
section
variable {c : Cx} {A : Around} {E : Value → Shared → Prop} {s : Shared}
theorem noKeys {l : Addr} {items : Array Value} {Q : Option Value → Shared → Prop} (hl : s.heap.PlainList l items) (hA : A.handled = none) (h : ∀ h' tk, Kp s.heap h' → Q none { s with heap := h', toks := tk }) :
  wpAny c.M A (getAttr? (.ref l) "keys") Q E s := by
 obtain ⟨n, hx⟩ := hl
 obtain ⟨hp, g, d, tk, os⟩ := s
 have hT : ∀ tk', (⟨hp, g, d, tk', os⟩ : Shared).TypeIs (.ref l) "list" := fun _ => (I12 _ hx rfl)
 have f1 := sub_AttributeError
 have f3 := F.slot_list_getattribute.lookup
 have f4 := F.slot_list_getattribute.bind (.ref l)
 have f5 := am_list_getattr_none
 have hmiss : typeLookup (.type "list") "keys" = pure none := by rw [typeLookup_type, builtinLookup_eq_fast]; kernel_rfl
 unfold getAttr? getAttrBy? getAttrBy
 refine wpAny_bind (wpAny_mkText (wpAny_bind (wpAny_attempt ?_)))
 repeat (any_goals (first | assumption | exact hT _ | ((with_reducible show wpAny _ _ (call (Value.builtin "list.__getattribute__") _ _) _ _ _); refine call_meets F.slot_list_getattribute (hT _) am_entry_list_getattribute (F.args_list_getattribute_2 _ _) (meets_getattribute_miss_list l items n #[] "keys" _ hmiss (by decide) (by decide)) (I03 hx hA (fun h' tk' e hx' => ?_))) | wp_step))
 refine E21 hx'.there fun t' u' he => ?_
 show wpAny _ _ (getattributeRaised _ _ _ _ _ _ _) _ _ _
 unfold getattributeRaised
 repeat (any_goals (first | assumption | wp_step))
 exact h _ _ hx'.of.keeps
theorem entry_dict_loop : entryFor table "dict.update.loop" = some Builtin.«dict.update.loop» := entryFor_of_tree (by kernel_rfl)
theorem plain_dict_loop : plainId "dict.update.loop" = true := by decide +kernel
noncomputable def RdPairs (ps : List (Str × V)) : List V := ps.map fun p => .tup [.str p.1, p.2]
theorem RdO.dctAt {Z : Addr → Prop} {h : Heap} {a : Addr} {es : List (Str × V)} (r : RdO c Z h a (.dct es)) : ∃ kvs, (a == sysModules) = false ∧ h.DictOf c.K a kvs ∧ kvs.map (·.1) = es.map (·.1) ∧ RdL c Z h (es.map (·.2)) (kvs.map (·.2)) :=
 let ⟨kvs, _, h1, h2, h3, h4⟩ := r; (I14 kvs h1 h2.dictOf h3 h4)
theorem RdO.ofDict {Z : Addr → Prop} {h : Heap} {a : Addr} {es : List (Str × V)} {kvs : List (Str × Value)} (h1 : (a == sysModules) = false) (h2 : h.DictOf c.K a kvs) (h3 : kvs.map (·.1) = es.map (·.1)) (h4 : RdL c Z h (es.map (·.2)) (kvs.map (·.2))) : RdO c Z h a (.dct es) :=
 let ⟨ep, h2⟩ := h2.dictAt; (I24 kvs ep h1 h2 h3 h4)
theorem dict_loopL {R : Result → Shared → Prop} {Z : Addr → Prop} {I l d : Addr} {items : Array Value} {result : Value} (hh : A.handled = none) (hne : l ≠ I) (hdI : d ≠ I) (hdl : d ≠ l) (hZI : ¬ Z I) (hZd : ¬ Z d) (ps : List (Str × V)) :
  ∀ (k i : Nat) (es : List (Str × V)) (t : Tok) (s : Shared), items.size - i = k → i ≤ items.size → s.heap.IsListIter I l i → s.heap.IsList l items → RdL c Z s.heap (RdPairs ps) items.toList → RdO c Z s.heap d (.dct es) → es.length + k ≤ sizeLine →
   (∀ h' tk, (∀ b o, b ≠ d → b ≠ I → s.heap.get? b = some o → h'.get? b = some o) → RdO c Z h' d (.dct (dfold (ps.drop i) es)) → R (.ok (.ret result)) { s with heap := h', toks := tk }) →
   codeAny c.M A (.builtin "dict.update.loop" ⟨[.ref d, .ref I, .int i t, result], []⟩) R s := by
 have W := Walks.list (prog := c.prog) (w := c.w) (A := A.in1) (by simp [hh]) I l hne items
 intro k
 induction k with
 | zero =>
  intro i es t s hk hi hit hl hps hd hlen hR
  have hin : i = items.size := oz hk hi
  subst hin
  refine codeAny_builtin entry_dict_loop ?_
  rw [Around.under_plainId plain_dict_loop _]
  show wpAny _ A.in1 (pyNext (.ref I) >>= _) _ _ s
  refine wpAny_bind (W.done s _ _ ⟨hit, hl⟩ fun h' tk hm => ?_)
  show wpAny _ A.in1 (do Builtin.Dict.addKeywords d []; ret result) _ _ _
  refine wpAny_bind (m := Builtin.Dict.addKeywords d []) (wpAny_pure (wpAny_pure (hR h' tk (fun b o hb hb' e => hm b o (by simpa using hb') e) ?_)))
  have hlen := hps.length
  simp only [RdPairs, List.length_map, Array.length_toList] at hlen
  rw [List.drop_of_length_le (by omega)]
  exact hd.keep (fun _ z => z) (fun b o z e => hm b o (by rintro hb; simp at hb; subst hb; exact hZI z) e) fun o e => hm d o (by simpa using hdI) e
 | succ k ih =>
  intro i es t s hk hi hit hl hps hd hlen hR
  have hlt : i < items.size := ol hk
  refine codeAny_builtin entry_dict_loop ?_
  rw [Around.under_plainId plain_dict_loop _]
  show wpAny _ A.in1 (pyNext (.ref I) >>= _) _ _ s
  refine wpAny_bind (W.item i s _ _ hlt ⟨hit, hl⟩ fun v h₁ tk₁ hP hst' hm => ?_)
  have kZ : ∀ b o, Z b → s.heap.get? b = some o → h₁.get? b = some o := fun b o z e => hm b o (by rintro hb; simp at hb; subst hb; exact hZI z) e
  have hps₁ : RdL c Z h₁ (RdPairs ps) items.toList := hps.keep (fun _ z => z) kZ
  have hd₁ : RdO c Z h₁ d (.dct es) := hd.keep (fun _ z => z) kZ fun o e => hm d o (by simpa using hdI) e
  refine E12 (hps₁.get' i v (by simpa using hP)) fun X hX rX => ?_
  simp only [RdPairs, List.getElem?_map, Option.map_eq_some_iff] at hX
  refine E12 hX fun p hp z2 => ?_; clear hX; subst z2
  refine Rd.tup_elim rX fun a its z ht rs => ?_
  obtain ⟨n, ht⟩ := ht
  refine E23 rs.two fun kv vv hkv rk rv => ?_
  show wpAny _ A.in1 (holding [Value.ref a] _ >>= _) _ _ _
  refine wpAny_bind (wpAny_holding ?_)
  refine wpAny_bind (wpAny_tryCatch ?_)
  unfold Builtin.Dict.pairItems
  have hT : Shared.TypeIs { s with heap := h₁, toks := tk₁ } (.ref a) "tuple" := (I12 _ ht rfl)
  refine wpAny_bind (wpAny_typeOf hT ?_)
  rw [if_pos (by decide)]
  refine wpAny_bind (m := seqItems? _) ?_
  unfold seqItems?
  refine wpAny_bind (wpAny_load ht ?_)
  refine wpAny_pure (wpAny_pure ?_)
  simp only [Option.getD_some, hkv]
  refine wpAny_holding ?_
  refine Rd.str_elim rk fun tk' => ?_
  refine E14 hd₁.dctAt fun kvs h1 h2 h3 h4 => ?_
  have hkl : kvs.length = es.length := by simpa using congrArg List.length h3
  refine wpAny_dictSet_pairs (knd := c.K) (strKind_is _ _ p.1 tk') h2 (fun h₂ hd₂ hs₂ => ?_) (by omega)
  have kZ₂ : ∀ b o, Z b → h₁.get? b = some o → h₂.get? b = some o := fun b o z e => hs₂.extBut b o (fun e' => hZd (e' ▸ z)) e
  obtain ⟨h5, h6⟩ := dset_rd (k := p.1) h3 (h4.keep (fun _ z => z) kZ₂) (rv.keep (fun _ z => z) kZ₂)
  refine wpAny_pure ⟨plainId_quiet plain_dict_loop _, ?_⟩
  refine ih (i + 1) (dset es p.1 p.2) _ _ (os hk) hlt (hst'.1.at fun o e => hs₂.extBut I o hdI.symm e) (hst'.2.at fun o e => hs₂.extBut l o hdl.symm e) (hps₁.keep (fun _ z => z) kZ₂) (.ofDict h1 hd₂ h5 h6) (by have := dset_len es p.1 p.2; omega) fun h' tk hm' hd' => hR h' tk (fun b o hb hb' e => hm' b o hb hb' (hs₂.extBut b o hb (hm b o (by simpa using hb') e))) ?_
  have e : ps.drop i = p :: ps.drop (i + 1) := by
   rw [List.drop_eq_getElem_cons (by have := (List.getElem?_eq_some_iff.mp hp).1; exact this)]
   rw [(List.getElem?_eq_some_iff.mp hp).2]
  rw [e]; exact hd'
theorem updateFromL {R : Result → Shared → Prop} {Z : Addr → Prop} {id : String} {l d : Addr} {items : Array Value} {result : Value} {es ps : List (Str × V)} (hh : A.handled = none) (hdl : d ≠ l) (hZd : ¬ Z d) (hZ : ∀ b, Z b → ∃ o, s.heap.get? b = some o) (hl : s.heap.PlainList l items)
  (hps : RdL c Z s.heap (RdPairs ps) items.toList) (hd : RdO c Z s.heap d (.dct es)) (hlen : es.length + ps.length ≤ sizeLine)
  (hR : ∀ h' tk, (∀ b o, b ≠ d → s.heap.get? b = some o → h'.get? b = some o) → RdO c Z h' d (.dct (dfold ps es)) → R (.ok (.ret result)) { s with heap := h', toks := tk }) :
  wpAny c.M A.in1 (Builtin.Dict.updateFrom id d (.ref l) [] result) (fun fin s' => match fin with | .done f => R (.ok f) s' | .again c' => c'.quiet = true ∧ codeAny c.M A c' R s') (fun e s' => R (.error e) s') s := by
 unfold Builtin.Dict.updateFrom
 refine wpAny_bind (wpAny_typeOf hl.isList.typeIs ?_)
 rw [if_pos (by decide)]
 refine wpAny_bind (noKeys hl (by simp [hh]) fun h₁ tk₁ hk₁ => ?_)
 rw [if_pos (by rfl)]
 have hl₁ : h₁.PlainList l items := hl.at fun o => hk₁ l o
 refine wpAny_bind (wpAny_rule ?_)
 refine wpAny_bind (wpAny_pyIter_list (s := { s with heap := h₁, toks := tk₁ }) hl₁.isList ?_)
 have hlt : l < h₁.objs.size := let ⟨_, e⟩ := hl₁; Heap.lt_size e
 have hd₁ : RdO c Z h₁ d (.dct es) := hd.keep (fun _ z => z) (fun b o _ e => hk₁ b o e) fun o => hk₁ d o
 obtain ⟨od, hod⟩ := hd₁.some
 have hdlt : d < h₁.objs.size := Heap.lt_size hod
 have kp : Kp s.heap (h₁.push { cls := .type "list_iterator", data := .fields #[.ref l, .int 0 0] }) := hk₁.trans (Kp.push _ _)
 have hsz := hps.length
 simp only [RdPairs, List.length_map, Array.length_toList] at hsz
 refine wpAny_pure ⟨plainId_quiet plain_dict_loop _, ?_⟩
 refine dict_loopL (Z := Z) (I := h₁.objs.size) (l := l) (d := d) (items := items) hh (Nat.ne_of_lt hlt) (Nat.ne_of_lt hdlt) hdl (fun z => ?_) hZd ps (items.size - 0) 0 es _ _ (by omega) (Nat.zero_le _) (I13 _ (Heap.get?_push_size _ rfl) rfl rfl) (hl₁.isList.push _) (hps.kp kp) (hd.keep (fun _ z => z) (fun b o _ e => kp b o e) fun o => kp d o) (by omega) fun h' tk hm hd' => ?_
 ·obtain ⟨o, e⟩ := hZ _ z
  exact absurd (Heap.lt_size (hk₁ _ _ e)) (Nat.lt_irrefl _)
 ·exact hR h' tk (fun b o hb e => hm b o hb (Nat.ne_of_lt (Heap.lt_size (hk₁ _ _ e))) (kp b o e)) (by simpa using hd')
theorem f_dict_pairs {hp : List (Addr × O)} {ps : List (Str × V)} (hl : ps.length ≤ sizeLine) : FCall c A hp (.type "dict") [.lst (RdPairs ps)] (.dct (dfold ps [])) := by
 intro hA Z P s vs hZ H r Q E hQ
 refine RdL.one_elim r fun v r1 => ?_
 refine Rd.lst_elim r1 fun l items z i ri => ?_
 refine callType_codes (Q₁ := fun obj s₁ => obj = .ref s.heap.objs.size ∧ s₁ = { s with heap := s.heap.push { cls := .type "dict", data := .dict #[] } }) F.kt_called_dict (F.kt_typeCall_dict_1 _) F.entry_dict_init (kt_code_dict_new _ ⟨rfl, rfl⟩) ?_
 rintro obj s₁ ⟨rfl, rfl⟩
 have hnew : (s.heap.push { cls := .type "dict", data := .dict #[] }).DictOf c.K s.heap.objs.size [] := Heap.DictOf.new s.heap
 refine (I03 hnew.typeIs (F.args_dict_init_2 _ _) ?_)
 unfold Builtin.«dict.__init__»
 refine wpAny_bind ?_
 unfold Builtin.Dict.selfAndRest
 refine wpAny_bind (wpAny_notOrdered_dict hnew.typeIs ?_)
 show wpAny _ _ (pure (s.heap.objs.size, [Value.ref l])) _ _ _
 refine wpAny_pure ?_
 show wpAny _ _ (Builtin.Dict.updateFrom "dict.__init__" s.heap.objs.size (.ref l) [] .none) _ _ _
 have hk := Kp.push s.heap { cls := .type "dict", data := .dict #[] }
 have hlt : l < s.heap.objs.size := let ⟨_, e⟩ := i; Heap.lt_size e
 refine updateFromL (Z := Z) (es := []) (ps := ps) (items := items) (by simp [hA.handled]) (Nat.ne_of_gt hlt) (fun z => ?_) (fun b z => let ⟨o, e⟩ := hZ.2 b z; ⟨o, hk b o e⟩) (i.at fun o => hk l o) (ri.kp hk) (.ofDict ?_ hnew rfl .nil) (by simpa using hl) fun h' tk hm hd' => ⟨rfl, ?_⟩
 ·obtain ⟨o, e⟩ := hZ.2 _ z
  exact absurd (Heap.lt_size e) (Nat.lt_irrefl _)
 ·obtain ⟨o, e⟩ := hZ.2 _ hZ.1
  exact beq_false_of_ne (Nat.ne_of_gt (Heap.lt_size e))
 ·exact hQ _ h' tk s.drawn (fun b o e => hm b o (Nat.ne_of_lt (Heap.lt_size e)) (hk b o e)) (fresh_none _ _ (Nat.le_refl _)) hd'
end
end Mine
end
noncomputable section
namespace Mine
open PySem PySem.SeqAt
noncomputable def hset (hp : List (Addr × O)) (a : Addr) (o : O) : List (Addr × O) := hp.map fun e => if e.1 = a then (a, o) else e
theorem hset_fst (hp : List (Addr × O)) (a : Addr) (o : O) : (hset hp a o).map (·.1) = hp.map (·.1) := by
 unfold hset
 rw [List.map_map]
 refine List.map_congr_left fun e _ => ?_
 simp only [Function.comp]
 split
 ·rename_i h; exact h.symm
 ·rfl
section
variable {c : Cx} {A : Around} {env : Env} {σ : St}
theorem Rel.hp_upd {Z P : Addr → Prop} {h h' : Heap} {a : Addr} {o o' : O} (R : Rel c Z P env σ h) (ha : (a, o) ∈ σ.hp) (hs : ∀ b ob, b ≠ a → h.get? b = some ob → h'.get? b = some ob) (ho : RdO c Z h' a o') : Rel c Z P env ⟨σ.loc, hset σ.hp a o'⟩ h' := by
 have hA := R.hp.obj a o ha
 have hown := R.hpOff a o ha
 have hnd := R.hp.nodup
 let rest := σ.hp.filter fun e => e.1 ≠ a
 have hmr : ∀ b ob, (b, ob) ∈ rest → (b, ob) ∈ σ.hp ∧ b ≠ a := fun b ob hb => by
  have := List.mem_filter.mp hb
  exact ⟨this.1, by simpa using this.2⟩
 have R' : Rel c Z P env ⟨σ.loc, rest⟩ h := R.le (I03 (fun x X e => e) (fun b ob hb => (hmr b ob hb).1) (fun hnd => (List.filter_sublist.map _).nodup hnd))
 have R2 : Rel c Z P env ⟨σ.loc, rest⟩ h' := R'.but (N := fun b => b = a) (fun b ob n e => hs b ob n e) (by rintro b rfl; exact hA.2.1) (by rintro b rfl; exact hown) (by rintro b rfl ob hb; exact (hmr _ ob hb).2 rfl)
  (by rintro b p rfl; exact absurd p hA.2.2) (by rintro x cl h1 h2 rfl; exact hA.2.2 (R.freeP x _ h1 h2))
 have hmem : ∀ b ob, (b, ob) ∈ hset σ.hp a o' → (b = a ∧ ob = o') ∨ ((b, ob) ∈ rest) := fun b ob hb => by
  refine E12 (List.mem_map.mp hb) fun e he e' => ?_
  by_cases h1 : e.1 = a
  ·simp only [h1, if_true, Prod.mk.injEq] at e'
   exact .inl ⟨e'.1.symm, e'.2.symm⟩
  ·simp only [h1, if_false] at e'
   subst e'
   exact .inr (List.mem_filter.mpr ⟨he, by simpa using h1⟩)
 refine { R2 with
  vars := R2.vars
  hp := ⟨fun b ob hb => ?_, by show ((hset σ.hp a o').map (·.1)).Nodup; rw [hset_fst]; exact hnd⟩
  hpOff := fun b ob hb => ?_ }
 ·rcases hmem b ob hb with ⟨rfl, rfl⟩ | hb
  ·exact ⟨ho, hA.2⟩
  ·exact R2.hp.obj b ob hb
 ·rcases hmem b ob hb with ⟨rfl, rfl⟩ | hb
  ·exact hown
  ·exact R2.hpOff b ob hb
theorem Rel.step_upd {Z P : Addr → Prop} {h h' : Heap} {a : Addr} {o : O} (R : Rel c Z P env σ h) (ha : (a, o) ∈ σ.hp) (hs : ∀ b ob, b ≠ a → h.get? b = some ob → h'.get? b = some ob) : Step Z P h Z h' :=
 ⟨fun _ z => z, fun b ob z e => hs b ob (fun e' => (R.hp.obj a o ha).2.1 (e' ▸ z)) e, fun b ob p e => hs b ob (fun e' => (R.hp.obj a o ha).2.2 (e' ▸ p)) e⟩
noncomputable def Upd (c : Cx) (A : Around) (Z : Addr → Prop) (s : Shared) (t : Sem Value) (a : Addr) (o' : O) (r : V) : Prop :=
 ∀ Q E, (∀ v h' tk dr, (∀ b ob, b ≠ a → s.heap.get? b = some ob → h'.get? b = some ob) → RdO c Z h' a o' → Rd c Z h' r v → Q v { s with heap := h', toks := tk, drawn := dr }) → wpAny c.M A t Q E s
noncomputable def UCall (c : Cx) (A : Around) (hp : List (Addr × O)) (f : Value) (Xs : List V) (a : Addr) (o' : O) (r : V) : Prop :=
 AOk A → ∀ Z P s vs, (Z sysModules ∧ ∀ b, Z b → ∃ o, s.heap.get? b = some o) → HpR c Z P s.heap hp → RdL c Z s.heap Xs vs → Upd c A Z s (call f vs) a o' r
theorem Upd.fin {P Z Z₀ : Addr → Prop} {s : Shared} {h₁ : Heap} {tk₁ : Nat} {dr₁ : Drawn} {t : Sem Value} {a : Addr} {o o' : O} {r : V} {k : V → St → Prop}
  (S : Step Z₀ P s.heap Z h₁) (R : Rel c Z P env σ h₁) (ha : (a, o) ∈ σ.hp) (f : Upd c A Z { s with heap := h₁, toks := tk₁, drawn := dr₁ } t a o' r) (hk : k r ⟨σ.loc, hset σ.hp a o'⟩) :
  wpAny c.M A t (Fin c P env (RV c) k Z₀ s) (fun _ _ => False) { s with heap := h₁, toks := tk₁, drawn := dr₁ } :=
 f _ _ fun v h' tk dr hs ho hr => (fin_mk (S.trans (R.step_upd ha hs)) (R.hp_upd ha hs ho) hr hk)
noncomputable def VT (c : Cx) (hp : List (Addr × O)) (X : V) (T : String) : Prop :=
 ∀ Z P (s : Shared) v, HpR c Z P s.heap hp → Rd c Z s.heap X v → s.TypeIs v T ∧ (∀ a, v = .ref a → ∃ ob, s.heap.get? a = some ob ∧ ob.dict = none)
theorem vt_lst {hp : List (Addr × O)} {xs : List V} : VT c hp (.lst xs) "list" := by
 intro Z P s v H r
 refine Rd.lst_elim r fun a items z i ri => ?_
 refine ⟨i.isList.typeIs, ?_⟩
 rintro a ⟨⟩
 obtain ⟨n, e⟩ := i; exact (I12 _ e rfl)
theorem vt_dct {hp : List (Addr × O)} {es : List (Str × V)} : VT c hp (.dct es) "dict" := by
 intro Z P s v H r
 refine Rd.dct_elim r fun a kvs ep z hs i e ri => ?_
 refine ⟨i.dictOf.typeIs, ?_⟩
 rintro a ⟨⟩
 refine E23 i fun o es ho h1 _ => ?_; clear i; exact (I12 _ ho (h1.2.1))
theorem vt_olst {hp : List (Addr × O)} {a : Addr} {xs : List V} (ha : (a, O.lst xs) ∈ hp) : VT c hp (.ref a) "list" := by
 intro Z P s v H r
 first | refine Rd.int_elim r fun _ => ?_ | refine Rd.ref_elim r ?_ | refine Rd.str_elim r fun _ => ?_ | refine Rd.bool_elim r ?_ | refine Rd.typ_elim r ?_ | cases r
 refine E12 ((H.obj a _ ha).1) fun items i ri => ?_
 refine ⟨i.isList.typeIs, ?_⟩
 rintro a ⟨⟩
 obtain ⟨n, e⟩ := i; exact (I12 _ e rfl)
theorem vt_odct {hp : List (Addr × O)} {a : Addr} {es : List (Str × V)} (ha : (a, O.dct es) ∈ hp) : VT c hp (.ref a) "dict" := by
 intro Z P s v H r
 first | refine Rd.int_elim r fun _ => ?_ | refine Rd.ref_elim r ?_ | refine Rd.str_elim r fun _ => ?_ | refine Rd.bool_elim r ?_ | refine Rd.typ_elim r ?_ | cases r
 refine E23 ((H.obj a _ ha).1) fun kvs ep _ i _ => ?_
 refine ⟨i.dictOf.typeIs, ?_⟩
 rintro a ⟨⟩
 refine E23 i fun o es ho h1 _ => ?_; clear i; exact (I12 _ ho (h1.2.1))
theorem vt_oset {hp : List (Addr × O)} {a : Addr} {xs : List Str} (ha : (a, O.set xs) ∈ hp) : VT c hp (.ref a) "set" := by
 intro Z P s v H r
 first | refine Rd.int_elim r fun _ => ?_ | refine Rd.ref_elim r ?_ | refine Rd.str_elim r fun _ => ?_ | refine Rd.bool_elim r ?_ | refine Rd.typ_elim r ?_ | cases r
 have i : SetL c s.heap a xs := (H.obj a _ ha).1
 refine ⟨i.typeIs, ?_⟩
 rintro a ⟨⟩
 refine E53 i fun o _ _ _ _ ho h1 _ => ?_; clear i; exact (I12 _ ho (h1.2.1))
structure MethOf (T : String) (name : Str) (id : String) : Prop where
 attrs : PlainAttrs T
 slot : Slot T name id
 ty : typeOf (.builtin id) = pure (.type "method_descriptor")
noncomputable def MRest (c : Cx) (A : Around) (id : String) (Xs : List V) (k : V → St → Prop) (σ : St) : Prop :=
 (∃ r, BCall c A σ.hp (.builtin id) Xs r ∧ k r σ) ∨ (∃ a o o' r, (a, o) ∈ σ.hp ∧ UCall c A σ.hp (.builtin id) Xs a o' r ∧ k r ⟨σ.loc, hset σ.hp a o'⟩)
theorem MRest.run {P Z Z₀ : Addr → Prop} {s : Shared} {h₁ : Heap} {tk₁ : Nat} {dr₁ : Drawn} {id : String} {Xs : List V} {vs : List Value} {k : V → St → Prop} (hA : AOk A) (m : MRest c A id Xs k σ) (S : Step Z₀ P s.heap Z h₁) (R : Rel c Z P env σ h₁) (r : RdL c Z h₁ Xs vs) :
  wpAny c.M A (call (.builtin id) vs) (Fin c P env (RV c) k Z₀ s) (fun _ _ => False) { s with heap := h₁, toks := tk₁, drawn := dr₁ } := by
 rcases m with ⟨x, hB, hk⟩ | ⟨a, o, o', x, ha, hU, hk⟩
 ·exact Res.fin S R (hB hA Z P _ vs ⟨R.inv.sys, R.inv.exZ⟩ R.hp r) hk
 ·exact Upd.fin S R ha (hU hA Z P _ vs ⟨R.inv.sys, R.inv.exZ⟩ R.hp r) hk
theorem wE_Meth0 {o : Expr} {name : Str} {apos pos : Pos} {T id : String} {k : V → St → Prop} (m : MethOf T name id) (h : WE c A env σ o fun X σ₁ => VT c σ₁.hp X T ∧ MRest c A id [X] k σ₁)
  (hbase : attributeBase o name env (eval o env) = eval o env := by rfl) (hline : (apos.endLine == pos.line) = true := by rfl) : WE c A env σ (.Call (.Attribute o name apos) [] [] pos) k := by
 refine WP.mk fun hA Z P s R => ?_
 refine wpAny_Call_method hbase rfl hline m.attrs m.slot m.ty (wp_then h hA R fun Z₁ h₁ tk₁ dr₁ X σ₁ v S₁ R₁ r₁ kk => ?_)
 obtain ⟨hT, hm⟩ := kk
 obtain ⟨t1, t2⟩ := hT Z₁ P { s with heap := h₁, toks := tk₁, drawn := dr₁ } v R₁.hp r₁
 refine (I03 t1 t2 ?_)
 refine Calls.callWith_builtin rfl (evalArgs_none ?_)
 exact hm.run hA S₁ R₁ (.cons r₁ .nil)
theorem wE_Meth {o : Expr} {name : Str} {apos pos : Pos} {T id : String} {e : Expr} {es : List Expr} {k : V → St → Prop} (m : MethOf T name id) (h : WE c A env σ o fun X σ₁ => VT c σ₁.hp X T ∧ WEs c A env σ₁ pos (e :: es) fun Xs σ₂ => MRest c A id (X :: Xs) k σ₂)
  (hbase : attributeBase o name env (eval o env) = eval o env := by rfl) (hline : (apos.endLine == pos.line) = true := by rfl)
  (hfew : ((backTo pos (starEach (e :: es) env)).all (fun x => !x.1) && (backToKw pos (keywordEach [] env)).all (fun x => x.1.isSome) && decide ((e :: es).length + ([] : List Keyword).length + (if ([] : List Keyword).isEmpty then 0 else 1) < 30)) = true := by rfl)
  (he : starEach (e :: es) env = (false, eval e env) :: starEach es env := by rfl) (hplain : (backTo pos (starEach (e :: es) env)).any (·.1) = false := by rfl) : WE c A env σ (.Call (.Attribute o name apos) (e :: es) [] pos) k := by
 refine WP.mk fun hA Z P s R => ?_
 refine wpAny_Call_method hbase hfew hline m.attrs m.slot m.ty (wp_then h hA R fun Z₁ h₁ tk₁ dr₁ X σ₁ v S₁ R₁ r₁ kk => ?_)
 obtain ⟨hT, hm⟩ := kk
 obtain ⟨t1, t2⟩ := hT Z₁ P { s with heap := h₁, toks := tk₁, drawn := dr₁ } v R₁.hp r₁
 refine (I03 t1 t2 ?_)
 refine Calls.callWith_builtin hplain ?_
 have := hm.run hA Z₁ P { s with heap := h₁, toks := tk₁, drawn := dr₁ } R₁
 unfold WEs at hm
 rw [he] at this ⊢
 refine Calls.evalArgs_plain (wpAny_mono this ?_ fun _ _ x => x)
 refine fun vs _ => R65 fun Z₂ h₂ tk₂ dr₂ Xs σ₂ z6 S₂ R₂ r₂ hr => ?_; subst z6
 exact hr.run hA (S₁.trans S₂) R₂ (.cons (r₁.step S₂) r₂)
end
theorem meth_append : MethOf "list" "append" "list.append" := ⟨F.plainAttrs_list, F.slot_list_append, by kernel_rfl⟩
theorem meth_pop : MethOf "list" "pop" "list.pop" := ⟨F.plainAttrs_list, F.slot_list_pop, by kernel_rfl⟩
theorem meth_index : MethOf "list" "index" "list.index" := ⟨F.plainAttrs_list, F.slot_list_index, by kernel_rfl⟩
theorem meth_get : MethOf "dict" "get" "dict.get" := ⟨F.plainAttrs_dict, F.slot_dict_get, by kernel_rfl⟩
theorem meth_items : MethOf "dict" "items" "dict.items" := ⟨F.plainAttrs_dict, F.slot_dict_items, by kernel_rfl⟩
theorem meth_update : MethOf "dict" "update" "dict.update" := ⟨F.plainAttrs_dict, F.slot_dict_update, by kernel_rfl⟩
theorem meth_add : MethOf "set" "add" "set.add" := ⟨F.plainAttrs_set, F.slot_set_add, by kernel_rfl⟩
theorem meth_discard : MethOf "set" "discard" "set.discard" := ⟨F.plainAttrs_set, F.slot_set_discard, by kernel_rfl⟩
section
variable {c : Cx} {A : Around} {hp : List (Addr × O)}
theorem u_append {a : Addr} {xs : List V} {X : V} (ha : (a, O.lst xs) ∈ hp) (hl : xs.length ≤ sizeLine) : UCall c A hp (.builtin "list.append") [.ref a, X] a (.lst (xs ++ [X])) .none := by
 intro hA Z P s vs hZ H r Q E hQ
 refine RdL.two_elim r fun v u r1 r2 => ?_
 first | refine Rd.int_elim r1 fun _ => ?_ | refine Rd.ref_elim r1 ?_ | refine Rd.str_elim r1 fun _ => ?_ | refine Rd.bool_elim r1 ?_ | refine Rd.typ_elim r1 ?_ | cases r1
 refine E12 ((H.obj a _ ha).1) fun items i ri => ?_
 obtain ⟨n, e⟩ := i
 have l := ri.length
 simp only [Array.length_toList] at l
 have hT : s.TypeIs (.ref a) "list" := (I12 _ e rfl)
 refine call_meets F.slot_list_append hT F.entry_list_append (F.args_list_append_2 _ _) (PySem.list_append a items n u (by omega)) ⟨e, ?_⟩
 have hs : Heap.SameBut a s.heap (s.heap.update a (Obj.mapSeq fun x => x.push u)) := Heap.SameBut.update ..
 have kZ : ∀ b o, Z b → s.heap.get? b = some o → (s.heap.update a (Obj.mapSeq fun x => x.push u)).get? b = some o := fun b o z e => hs.extBut b o (fun e' => (H.obj a _ ha).2.1 (e' ▸ z)) e
 have e2 := Heap.get?_update_self (Obj.mapSeq fun x => x.push u) e (by rfl)
 refine hQ _ _ s.toks s.drawn (fun b ob hb e => hs.extBut b ob hb e) (I12 (items.push u) ⟨_, e2⟩ ?_) .none
 rw [Array.toList_push]
 exact (ri.append (.cons r2 .nil)).keep (fun _ z => z) kZ
theorem u_pop0 {a : Addr} {X : V} {xs : List V} (ha : (a, O.lst (X :: xs)) ∈ hp) (hl : xs.length + 1 ≤ sizeLine) : UCall c A hp (.builtin "list.pop") [.ref a, .int 0] a (.lst xs) X := by
 intro hA Z P s vs hZ H r Q E hQ
 refine RdL.two_elim r fun v u r1 r2 => ?_
 first | refine Rd.int_elim r1 fun _ => ?_ | refine Rd.ref_elim r1 ?_ | refine Rd.str_elim r1 fun _ => ?_ | refine Rd.bool_elim r1 ?_ | refine Rd.typ_elim r1 ?_ | cases r1
 refine Rd.int_elim r2 fun t => ?_
 refine E12 ((H.obj a _ ha).1) fun items i ri => ?_
 obtain ⟨n, e⟩ := i
 have l := ri.length
 simp only [Array.length_toList, List.length_cons] at l
 have hT : s.TypeIs (.ref a) "list" := (I12 _ e rfl)
 refine E12 (ri.get 0 X (by simp)) fun y hy ry => ?_
 refine call_meets F.slot_list_pop hT F.entry_list_pop (F.args_list_pop_2 _ _) (PySem.MeetsSeq.list_pop_at a items n 0 t 0 y (by decide) ?_ (by simpa using hy) (by omega)) ⟨e, ?_⟩
 ·unfold seqIndex?
  simp only [show ¬ (0 : Int) < 0 by omega, if_false]
  rw [if_pos]
  ·rfl
  ·simp only [Bool.and_eq_true, decide_eq_true_eq]; omega
 have hs : Heap.SameBut a s.heap (s.heap.update a (Obj.mapSeq fun xs => xs.eraseIdxIfInBounds 0)) := Heap.SameBut.update ..
 have kZ : ∀ b o, Z b → s.heap.get? b = some o → (s.heap.update a (Obj.mapSeq fun xs => xs.eraseIdxIfInBounds 0)).get? b = some o := fun b o z e => hs.extBut b o (fun e' => (H.obj a _ ha).2.1 (e' ▸ z)) e
 have e2 := Heap.get?_update_self (Obj.mapSeq fun xs => xs.eraseIdxIfInBounds 0) e (by rfl)
 refine hQ _ _ s.toks s.drawn (fun b ob hb e => hs.extBut b ob hb e) (I12 (items.eraseIdxIfInBounds 0) ⟨_, e2⟩ ?_) (ry.keep (fun _ z => z) kZ)
 have e3 : (items.eraseIdxIfInBounds 0).toList = items.toList.tail := by
  rw [Array.toList_eraseIdxIfInBounds]
  cases items.toList <;> rfl
 rw [e3]
 have := (ri.drop 1).keep (fun _ z => z) kZ
 simpa using this
end
end Mine
end
noncomputable section
namespace Mine
open PySem PySem.SeqAt
theorem eraseAt_perm {α : Type} (xs : Array α) (i : Nat) (x : α) (h : xs[i]? = some x) : List.Perm (x :: (SetTable.eraseAt xs i).toList) xs.toList := by
 unfold SetTable.eraseAt
 have hi : i < xs.size := by
  have := (Array.getElem?_eq_some_iff.mp h).1; exact this
 have e1 : (xs.extract 0 i ++ xs.extract (i + 1) xs.size).toList = xs.toList.take i ++ xs.toList.drop (i + 1) := by
  simp only [Array.toList_append, Array.toList_extract, List.extract_eq_drop_take, List.drop_zero, Nat.sub_zero]
  congr 1
  rw [List.take_of_length_le (by simp)]
 rw [e1]
 have h' : xs.toList[i]? = some x := by simpa using h
 have hlt : i < xs.toList.length := by simpa using hi
 have e2 : xs.toList = xs.toList.take i ++ x :: xs.toList.drop (i + 1) := by
  conv => lhs; rw [← List.take_append_drop i xs.toList, List.drop_eq_getElem_cons hlt]
  rw [List.getElem?_eq_getElem hlt] at h'
  cases h'; rfl
 conv => rhs; rw [e2]
 exact List.perm_middle.symm
theorem er_size {α : Type} {xs : Array α} {i : Nat} (h : i < xs.size) : (SetTable.eraseAt xs i).size + 1 = xs.size := by
 unfold SetTable.eraseAt
 rw [Array.size_append, Array.size_extract, Array.size_extract, Nat.min_eq_left (Nat.le_of_lt h), Nat.min_self, Nat.sub_zero, Nat.add_right_comm]
 exact Nat.add_sub_of_le h
theorem ar_ins (n p : Nat) : min p n - 0 + 1 + (min n n - p) = n + 1 := by omega
theorem in_size (xs : Array Nat) (p x : Nat) : (SetTable.insertAt xs p x).size = xs.size + 1 := by
 unfold SetTable.insertAt
 rw [Array.size_append, Array.size_push, Array.size_extract, Array.size_extract]
 exact ar_ins _ _
theorem drop_fits {t : SetTable} {n i : Nat} (h : t.fits (n + 1) = true) (hi : i < n + 1) : (t.drop i).fits n = true := by
 unfold SetTable.fits SetTable.fill at h ⊢
 rw [Bool.and_eq_true, beq_iff_eq, decide_eq_true_eq] at h ⊢
 have hi' : i < t.place.size := h.1.symm ▸ hi
 have e := er_size hi'
 unfold SetTable.drop
 rw [Array.getElem?_eq_getElem hi']
 dsimp only
 refine ⟨Nat.succ.inj (e.trans h.1), ?_⟩
 rw [in_size, ← Nat.succ_add_eq_add_succ]
 exact (congrArg (· + t.dummies.size) e).symm ▸ h.2
theorem drop_led (t : SetTable) (i : Nat) : (t.drop i).led = t.led := by
 unfold SetTable.drop; split <;> rfl
theorem drop_plain (t : SetTable) (i : Nat) : (t.drop i).plain = t.plain := by
 unfold SetTable.drop; split <;> rfl
section
variable {c : Cx} {A : Around} {hp : List (Addr × O)}
theorem setDiscardL {s : Shared} {E : Value → Shared → Prop} {a : Addr} {xs : List Str} {k : Str} {x : Value} {Q : Bool → Shared → Prop} (hkey : c.K.is k x = true) (hsc : x.scannable = true) (hS : SetL c s.heap a xs)
  (h : ∀ h' b, Heap.SameBut a s.heap h' → SetL c h' a (xs.filter fun y => decide (y ≠ k)) → Q b { s with heap := h' }) : wpAny c.M A (setDiscardHashed a x (c.K.hash k)) Q E s := by
 refine E510 (id hS) fun o es ep t ks ho hex hd hel hp hnd hb hf hled hpl => ?_
 have hlen : es.size = xs.length := by rw [← hp.length_eq, ← hel.length]; simp
 have hel' := elems_of hel
 unfold setDiscardHashed
 refine wpAny_bind ?_
 unfold setFind setFindIn
 refine wpAny_bind (wpAny_setState_of ho hd hf ?_)
 dsimp only
 rw [byScan_of hsc hb hel']
 simp only [↓reduceIte]
 refine wpAny_bind (wpAny_rule ?_)
 refine wpAny_bind (wpAny_setScan_of hkey ho hd hf hel' ?_)
 cases hr : List.findIdx? (fun e => c.K.is k e.2) es.toList with
 | none =>
  dsimp only
  have hk : k ∉ xs := by
   intro hk
   refine E12 ((mem_keys hel k).mp (hp.mem_iff.mpr hk)) fun e he h1 => ?_
   have := List.findIdx?_eq_none_iff.mp hr e he
   rw [h1] at this; cases this
  refine wpAny_pure (wpAny_pure (h s.heap _ (Heap.SameBut.refl a s.heap) ?_))
  rw [List.filter_eq_self.mpr]
  ·exact hS
  ·intro y hy
   exact decide_eq_true fun e => hk (e ▸ hy)
 | some j =>
  dsimp only
  refine E12 (List.findIdx?_eq_some_iff_getElem.mp hr) fun hj hpj _ => ?_
  refine wpAny_pure ?_
  rw [Nat.zero_add]
  refine wpAny_bind (wpAny_setState_of ho hd hf ?_)
  dsimp only
  have hj' : es[j]? = some es.toList[j] := by
   rw [← Array.getElem?_toList]; exact List.getElem?_eq_getElem hj
  have hperm := eraseAt_perm es j _ hj'
  refine E12 (hel.perm hperm) fun ks1 h1 h2 => ?_
  cases h1 with | cons r1 rs =>
  rename_i k1 ks2
  have hk1 : k1 = k := c.K.inj _ _ _ r1.1 hpj
  subst hk1
  have hpk : (k1 :: ks2).Perm xs := h2.trans hp
  have hnd2 : (k1 :: ks2).Nodup := hpk.nodup_iff.mpr hnd
  have hfil : ks2.Perm (xs.filter fun y => decide (y ≠ k1)) := by
   have := hpk.filter (fun y => decide (y ≠ k1))
   rw [List.filter_cons_of_neg (by simp), List.filter_eq_self.mpr] at this
   ·exact this
   ·intro y hy
    refine decide_eq_true fun e => ?_
    subst e
    exact (List.nodup_cons.mp hnd2).1 hy
  have hsz : (SetTable.eraseAt es j).size + 1 = es.size := by
   have := hperm.length_eq
   simpa using this
  refine wpAny_bind (storeSetL ho hex hd rs hfil (hnd.filter _) (by omega) (drop_fits (by rw [hsz]; exact hf) (by have : es.toList.length = es.size := (by simp); omega)) (by rw [drop_led]; exact hled) (fun h0 => by rw [drop_plain]; exact hpl (by omega)) fun h' o' hsb _ _ _ hS' => ?_)
  exact wpAny_bind (wpAny_point (wpAny_pure (h h' _ hsb hS')))
theorem u_add {a : Addr} {xs : List Str} {k : Str} (ha : (a, O.set xs) ∈ hp) (hl : xs.length + 1 < scanBound) : UCall c A hp (.builtin "set.add") [.ref a, .str k] a (.set (sadd xs k)) .none := by
 intro hA Z P s vs hZ H r Q E hQ
 refine RdL.two_elim r fun v u r1 r2 => ?_
 cases r1; cases r2 with | str _ t =>
 have hS : SetL c s.heap a xs := (H.obj a _ ha).1
 refine wpAny_call_entry F.slot_set_add hS.typeIs F.entry_set_add ?_ (F.args_set_add_2 _ _)
 unfold Builtin.«set.add»
 refine wpAny_bind (m := Builtin.Frozenset.oneOther _ _) ?_
 unfold Builtin.Frozenset.oneOther
 refine wpAny_bind (m := Builtin.Frozenset.addrOf _) (wpAny_pure (wpAny_pure ?_))
 refine wpAny_bind (m := setAdd _ _) ?_
 unfold setAdd
 refine wpAny_holding (wpAny_bind (c.K.pyHash (k := k) (strKind_is _ _ _ _) ?_))
 refine setAddL (s := { s with toks := s.toks + 1 }) (strKind_is _ _ _ _) rfl ⟨t, rfl⟩ hS hl fun h' b hsb hS' => ?_
 exact wpAny_pure (I12 _ rfl (hQ _ h' (s.toks + 1) s.drawn (fun b ob hb e => hsb.extBut b ob hb e) hS' .none))
theorem u_discard {a : Addr} {xs : List Str} {k : Str} (ha : (a, O.set xs) ∈ hp) : UCall c A hp (.builtin "set.discard") [.ref a, .str k] a (.set (xs.filter fun y => decide (y ≠ k))) .none := by
 intro hA Z P s vs hZ H r Q E hQ
 refine RdL.two_elim r fun v u r1 r2 => ?_
 cases r1; cases r2 with | str _ t =>
 have hS : SetL c s.heap a xs := (H.obj a _ ha).1
 refine wpAny_call_entry F.slot_set_discard hS.typeIs F.entry_set_discard ?_ (F.args_set_discard_2 _ _)
 unfold Builtin.«set.discard»
 refine wpAny_bind (m := Builtin.Frozenset.oneOther _ _) ?_
 unfold Builtin.Frozenset.oneOther
 refine wpAny_bind (m := Builtin.Frozenset.addrOf _) (wpAny_pure (wpAny_pure ?_))
 refine wpAny_bind (m := Builtin.Frozenset.withSetAsKey _ _ _) ?_
 unfold Builtin.Frozenset.withSetAsKey
 refine wpAny_tryCatch ?_
 unfold setDiscard
 refine wpAny_holding (wpAny_bind (c.K.pyHash (k := k) (strKind_is _ _ _ _) ?_))
 refine setDiscardL (s := { s with toks := s.toks + 1 }) (strKind_is _ _ _ _) rfl hS fun h' b hsb hS' => ?_
 exact wpAny_pure (I12 _ rfl (hQ _ h' (s.toks + 1) s.drawn (fun b ob hb e => hsb.extBut b ob hb e) hS' .none))
theorem b_items_dct {es : List (Str × V)} : BCall c A hp (.builtin "dict.items") [.dct es] (.view (.dct es)) := by
 intro hA Z P s vs hZ H r Q E hQ
 refine RdL.one_elim r fun v r1 => ?_
 refine Rd.dct_elim r1 fun a kvs ep z hs i e ri => ?_
 refine call_meetsIn F.slot_dict_items i.dictOf.typeIs F.entry_dict_items (F.args_dict_items_1 _) (meets_dict_items c.K a hs) ⟨⟨_, i.dictOf⟩, ?_⟩
 have hk := Kp.push s.heap { cls := .type "dict_items", data := .fields #[.ref a] }
 exact hQ _ _ s.toks s.drawn (fun b => b = s.heap.objs.size) hk new_one (.view (.inr rfl) (I13 _ (Heap.get?_push_size _ rfl) rfl rfl) ((Rd.dct z hs i e ri).keep (fun _ z => .inl z) fun b o _ e => hk b o e))
theorem b_items_odct {d : Addr} {es : List (Str × V)} (hd : (d, O.dct es) ∈ hp) : BCall c A hp (.builtin "dict.items") [.ref d] (.view (.ref d)) := by
 intro hA Z P s vs hZ H r Q E hQ
 refine RdL.one_elim r fun v r1 => ?_
 first | refine Rd.int_elim r1 fun _ => ?_ | refine Rd.ref_elim r1 ?_ | refine Rd.str_elim r1 fun _ => ?_ | refine Rd.bool_elim r1 ?_ | refine Rd.typ_elim r1 ?_ | cases r1
 refine E23 ((H.obj d _ hd).1) fun kvs ep hs i _ => ?_
 refine call_meetsIn F.slot_dict_items i.dictOf.typeIs F.entry_dict_items (F.args_dict_items_1 _) (meets_dict_items c.K d hs) ⟨⟨_, i.dictOf⟩, ?_⟩
 have hk := Kp.push s.heap { cls := .type "dict_items", data := .fields #[.ref d] }
 exact hQ _ _ s.toks s.drawn (fun b => b = s.heap.objs.size) hk new_one (.view (.inr rfl) (I13 _ (Heap.get?_push_size _ rfl) rfl rfl) (.ref d))
theorem b_get {es : List (Str × V)} {k : Str} {X : V} : BCall c A hp (.builtin "dict.get") [.dct es, .str k, X] ((dget es k).getD X) := by
 intro hA Z P s vs hZ H r
 cases r with | cons r1 r => cases r with | cons r2 r => cases r with | cons r3 r => cases r with | nil =>
 refine Rd.str_elim r2 fun t => ?_
 cases r1 with | dct z hs i e ri =>
 rename_i dv a kvs ep
 refine Res.pure fun Q E h => call_meetsIn F.slot_dict_get i.dictOf.typeIs F.entry_dict_get (F.args_dict_get_3 _ _ _) (meets_dict_get_default c.K a (strKind_is _ _ k t) hs dv) (I12 _ i.dictOf.mapOf ?_)
 rcases dget_rd e ri k with ⟨h1, h2⟩ | ⟨X', v, h1, h2, rv⟩
 ·rw [h2]; rw [h1] at h; exact h _ _ r3
 ·rw [h2]; rw [h1] at h; exact h _ _ rv
theorem u_update {d : Addr} {es ps : List (Str × V)} (hd : (d, O.dct es) ∈ hp) (hl : es.length + ps.length ≤ sizeLine) : UCall c A hp (.builtin "dict.update") [.ref d, .lst (RdPairs ps)] d (.dct (dfold ps es)) .none := by
 intro hA Z P s vs hZ H r Q E hQ
 refine RdL.two_elim r fun v u r1 r2 => ?_
 cases r1; cases r2 with | lst z i ri =>
 rename_i l items
 have hO := H.obj d _ hd
 refine E23 (id hO.1) fun kvs ep hs hD _ => ?_
 have hdl : d ≠ l := fun e => hO.2.1 (e ▸ z)
 refine wpAny_call (codeAny_call_builtin F.slot_dict_update.plain F.entry_dict_update (F.slot_dict_update.check _ _ _ _ _ _ _ _ hD.dictOf.typeIs (F.args_dict_update_2 _ _) ?_))
 unfold Builtin.«dict.update»
 refine wpAny_bind (m := Builtin.Dict.selfAndRest _ _) ?_
 unfold Builtin.Dict.selfAndRest
 refine wpAny_bind (wpAny_notOrdered_dict hD.dictOf.typeIs ?_)
 show wpAny _ _ (pure (d, [Value.ref l])) _ _ _
 refine wpAny_pure ?_
 show wpAny _ _ (Builtin.Dict.updateFrom "dict.update" d (.ref l) [] .none) _ _ _
 exact updateFromL (R := wants Q E) (Z := Z) (es := es) (ps := ps) hA.handled hdl hO.2.1 hZ.2 i ri hO.1 hl fun h' tk hm hd' => hQ _ h' tk s.drawn (fun b ob hb e => hm b ob hb e) hd' .none
theorem b_index {xs : List Str} {k : Str} {j : Nat} (hj : xs[j]? = some k) (hno : ∀ m, m < j → xs[m]? ≠ some k) (hl : xs.length ≤ sizeLine) : BCall c A hp (.builtin "list.index") [.lst (xs.map .str), .str k] (.int j) := by
 intro hA Z P s vs hZ H r
 refine RdL.two_elim r fun v u r1 r2 => ?_
 refine Rd.str_elim r2 fun t => ?_
 refine Rd.lst_elim r1 fun a items z i ri => ?_
 obtain ⟨n, ho⟩ := id i
 have l := ri.length
 simp only [Array.length_toList, List.length_map] at l
 have key : ∀ (m : Nat) y, items[m]? = some y → ∃ x u, xs[m]? = some x ∧ y = .str x u := fun m y hy => by
  refine E12 (ri.get' m y (by simpa using hy)) fun X hX rX => ?_
  simp only [List.getElem?_map, Option.map_eq_some_iff] at hX
  refine E12 hX fun x hx z2 => ?_; clear hX; subst z2
  cases rX; exact (I22 x _ hx rfl)
 let e : Value → Bool := fun y => match y with | .str x _ => x.cps.toList == k.cps.toList | _ => false
 have ek : ∀ x : Str, (x.cps.toList == k.cps.toList) = true ↔ x = k := fun x => by
  rw [beq_iff_eq]
  constructor
  ·intro h
   have : x.cps = k.cps := Array.toList_inj.mp h
   cases x; cases k; simp_all
  ·rintro rfl; rfl
 have hjl : j < items.size := by have := (List.getElem?_eq_some_iff.mp hj).1; omega
 refine Res.pure fun Q E h => call_meets F.slot_list_index i.isList.typeIs F.entry_list_index (F.args_list_index_2 _ _) (PySem.MeetsSeq.list_index a items n (.str k t) e (fun y hy => ?_) j hjl (by rw [sizeLine_eq] at hl; omega) ?_ fun m hm hmj => ?_) ⟨ho, h _ _ (.int _ _)⟩
 ·obtain ⟨m, hm⟩ := Array.mem_iff_getElem?.mp hy
  refine E22 (key m y hm) fun x u _ z3 => ?_; subst z3
  exact PySem.SeqRoads2.EqGives.str x k u t
 ·refine E22 (key j _ (Array.getElem?_eq_getElem hjl)) fun x u hx hy => ?_
  rw [hy]
  rw [hj] at hx; cases hx
  exact (ek k).mpr rfl
 ·refine E22 (key m _ (Array.getElem?_eq_getElem hm)) fun x u hx hy => ?_
  rw [hy]
  have : x ≠ k := fun e => hno m hmj (e ▸ hx)
  exact Bool.eq_false_iff.mpr fun h => this ((ek x).mp h)
end
end Mine
end
noncomputable section
namespace Mine
open PySem PySem.SeqAt
theorem setAt_own {c : Cx} {A : Around} {E : Value → Shared → Prop} {s : Shared} {a : Addr} {items : Array Value} {n : Nat} {i : Int} {t : Tok} {v : Value} {Q : Unit → Shared → Prop} (ho : s.heap.get? a = some { cls := .type "list", data := .seq items n }) (h0 : 0 ≤ i) (h1 : i < 2 ^ 62) (h2 : i < items.size)
  (hQ : Q () { s with heap := s.heap.update a (Obj.mapSeq (·.setIfInBounds i.toNat v)) }) : wpAny c.M A (setItem (.ref a) (.int i t) v) Q E s := by
 have hT : s.TypeIs (.ref a) "list" := (I12 _ ho rfl)
 have hf := fitsIndex_of h0 (Int.lt_trans h1 (by decide))
 clear h1
 unfold setItem
 refine wpAny_holding (wpAny_bind (wpAny_sequenceKey hT (by decide) ?_))
 refine wpAny_bind (wpAny_callSpecial?_slot (name := Str.ofString "__setitem__") hT slot_list_setitem (wpAny_call_entry slot_list_setitem hT entry_list_setitem ?_ (args_list_setitem _ _ _)))
 show wpAny _ _ (Builtin.List.listSubscript? (.int i t) >>= _) _ _ s
 refine wpAny_bind (wpAny_listSubscript_int hf ?_)
 clear hf
 obtain ⟨j, rfl⟩ := Int.eq_ofNat_of_zero_le h0
 have hj : j < items.size := by omega
 have hx : items[j]? = some items[j] := Array.getElem?_eq_getElem hj
 show wpAny _ _ ((seqItemAt a j >>= fun r => pure (r.map (j, ·))) >>= _) _ _ s
 refine wpAny_bind (wpAny_bind (wpAny_seqItemAt ho rfl (wpAny_pure ?_)))
 rw [hx]
 show wpAny _ _ (setSeqItemAt a j v >>= _) _ _ s
 refine wpAny_bind (wpAny_setSeqItemAt ho rfl ?_)
 exact wpAny_pure (I12 .none rfl (wpAny_pure hQ))
section
variable {c : Cx} {A : Around} {env : Env} {σ : St} {hp : List (Addr × O)}
noncomputable def SetV (c : Cx) (A : Around) (hp : List (Addr × O)) (X Y W : V) (a : Addr) (o' : O) : Prop :=
 AOk A → ∀ Z P s x y v, HpR c Z P s.heap hp → Rd c Z s.heap X x → Rd c Z s.heap Y y → Rd c Z s.heap W v →
  ∀ Q E, (∀ h' tk, (∀ b ob, b ≠ a → s.heap.get? b = some ob → h'.get? b = some ob) → RdO c Z h' a o' → Q () { s with heap := h', toks := tk }) → wpAny c.M A (setItem x y v) Q E s
theorem set_odct {d : Addr} {es : List (Str × V)} {k : Str} {W : V} (hd : (d, O.dct es) ∈ hp) (hl : es.length ≤ sizeLine) : SetV c A hp (.ref d) (.str k) W d (.dct (dset es k W)) := by
 intro hA Z P s x y v H rX rY rW Q E hQ
 cases rX; cases rY with | str _ t =>
 refine E14 (RdO.dctAt (H.obj d _ hd).1) fun kvs h1 h2 h3 h4 => ?_
 have hkl : kvs.length = es.length := by simpa using congrArg List.length h3
 refine wpAny_setItem_pairs (knd := c.K) (strKind_is _ _ k t) h2 (fun h' hd' hs => ?_) (by omega)
 have kZ : ∀ b o, Z b → s.heap.get? b = some o → h'.get? b = some o := fun b o z e => hs.extBut b o (fun e' => (H.obj d _ hd).2.1 (e' ▸ z)) e
 obtain ⟨h5, h6⟩ := dset_rd (k := k) h3 (h4.keep (fun _ z => z) kZ) (rW.keep (fun _ z => z) kZ)
 exact hQ h' _ (fun b ob hb e => hs.extBut b ob hb e) (.ofDict h1 hd' h5 h6)
theorem RdL.set {Z : Addr → Prop} {h : Heap} {W : V} {v : Value} (rW : Rd c Z h W v) : ∀ {xs : List V} {vs : List Value}, RdL c Z h xs vs → ∀ n, RdL c Z h (xs.set n W) (vs.set n v)
 | _, _, .nil, n => by simpa using RdL.nil
 | _, _, .cons a b, 0 => by simpa using RdL.cons rW b
 | _, _, .cons a b, n + 1 => by simpa using RdL.cons a (b.set rW n)
theorem set_olst {a : Addr} {xs : List V} {i : Int} {W : V} (ha : (a, O.lst xs) ∈ hp) (h0 : 0 ≤ i) (h1 : i < xs.length) (hl : xs.length ≤ sizeLine) : SetV c A hp (.ref a) (.int i) W a (.lst (xs.set i.toNat W)) := by
 intro hA Z P s x y v H rX rY rW Q E hQ
 cases rX; cases rY with | int _ t =>
 refine E12 ((H.obj a _ ha).1) fun items ht rs => ?_
 have l := rs.length
 simp only [Array.length_toList] at l
 obtain ⟨n, ho⟩ := ht
 refine setAt_own (items := items) (n := n) ho h0 (Int.lt_of_lt_of_le (b := 2 ^ 40) (by rw [sizeLine_eq] at hl; omega) (by decide)) (by omega) ?_
 have hs : Heap.SameBut a s.heap (s.heap.update a (Obj.mapSeq (·.setIfInBounds i.toNat v))) := Heap.SameBut.update ..
 have kZ : ∀ b o, Z b → s.heap.get? b = some o → (s.heap.update a (Obj.mapSeq (·.setIfInBounds i.toNat v))).get? b = some o := fun b o z e => hs.extBut b o (fun e' => (H.obj a _ ha).2.1 (e' ▸ z)) e
 have e2 := Heap.get?_update_self (Obj.mapSeq (·.setIfInBounds i.toNat v)) ho (by rfl)
 refine hQ _ s.toks (fun b ob hb e => hs.extBut b ob hb e) (I12 _ ⟨_, e2⟩ ?_)
 rw [Array.toList_setIfInBounds]
 exact (rs.keep (fun _ z => z) kZ).set (rW.keep (fun _ z => z) kZ) _
theorem wA_Sub {o i : Expr} {pos : Pos} {W : V} {k : St → Prop} (h : WE c A env σ o fun X σ₁ => WE c A env σ₁ i fun Y σ₂ => ∃ a oo o', (a, oo) ∈ σ₂.hp ∧ SetV c A σ₂.hp X Y W a o' ∧ k ⟨σ₂.loc, hset σ₂.hp a o'⟩) : WA c A env σ (.Subscript o i pos) W k := by
 intro hA Z P s v R r
 rw [arm_assign_Subscript]
 refine wpAny_bind (wpAny_holding (wp_then h hA R fun Z₁ h₁ tk₁ dr₁ X σ₁ v₁ S₁ R₁ r₁ k₁ => ?_))
 refine wpAny_bind (wpAny_holding (wp_then k₁ hA R₁ fun Z₂ h₂ tk₂ dr₂ Y σ₂ v₂ S₂ R₂ r₂ kk => ?_))
 refine E33 kk fun a oo o' ha hS hk => ?_; clear kk
 refine wpAny_bind (wpAny_standAt (wpAny_bind (wpAny_holding (hS hA Z₂ P { s with heap := h₂, toks := tk₂, drawn := dr₂ } v₁ v₂ v R₂.hp (r₁.step S₂) r₂ (r.step (S₁.trans S₂)) _ _ fun h' tk hs ho => ?_))))
 exact wpAny_release (fin_mk (b := ()) ((S₁.trans S₂).trans (R₂.step_upd ha hs)) (R₂.hp_upd ha hs ho) trivial hk)
theorem wS_AugSub {o i value : Expr} {spos pos : Pos} {op : Operator} {k : FV → St → Prop}
  (h : WE c A env σ o fun X σ₁ => WE c A env σ₁ i fun Y σ₂ => ∃ w, ItemV c A σ₂.hp X Y w ∧ WE c A env σ₂ value fun U σ₃ => ∃ w', (AOk A → ∀ Z P s x y, HpR c Z P s.heap σ₃.hp → Rd c Z s.heap w x → Rd c Z s.heap U y → Res c A Z s (inplaceOp op x y) w') ∧
   ∃ a oo o', (a, oo) ∈ σ₃.hp ∧ SetV c A σ₃.hp X Y w' a o' ∧ k .next ⟨σ₃.loc, hset σ₃.hp a o'⟩)
  (hi : ∀ ov iv new, augStore i ov iv new = (do holding [new, ov, iv] (setItem ov iv new); release [new, ov, iv] []; pure .next) := by intros; rfl) : WS c A env σ (.AugAssign (.Subscript o i spos) op value pos) k := by
 refine WP.mk fun hA Z P s R => ?_
 show wpAny _ _ (exec _ _) _ _ _
 rw [arm_exec_AugAssign_3]
 refine wpAny_bind (wpAny_standAt (wpAny_bind (wp_then h hA R fun Z₁ h₁ tk₁ dr₁ X σ₁ v₁ S₁ R₁ r₁ k₁ => ?_)))
 refine wpAny_bind (wpAny_holding (wp_then k₁ hA R₁ fun Z₂ h₂ tk₂ dr₂ Y σ₂ v₂ S₂ R₂ r₂ kk => ?_))
 refine E12 kk fun w hI k₂ => ?_; clear kk
 have hI := (hI hA Z₂ P { s with heap := h₂, toks := tk₂, drawn := dr₂ } v₁ v₂ R₂.hp (r₁.step S₂) r₂).2
 refine wpAny_bind (wpAny_holding (wpAny_bind (wpAny_standAt (wpAny_bind (hI _ _ fun v₃ h₃ tk₃ dr₃ N hkp hN rd => ?_)))))
 have R₃ := R₂.new hkp hN
 have S₃ : Step Z₂ P h₂ (fun b => Z₂ b ∨ N b) h₃ := Step.new hkp N
 refine wpAny_bind (wpAny_holding (wpAny_mono (k₂.run hA _ P { s with heap := h₃, toks := tk₃, drawn := dr₃ } R₃) ?_ fun _ _ x => x))
 refine fun v₄ _ => R65 fun Z₄ h₄ tk₄ dr₄ U σ₄ z6 S₄ R₄ r₄ y0 => E12 y0 fun w' hop y1 => E33 y1 fun a oo o' ha hS hk => ?_; subst z6
 refine wpAny_bind (wpAny_standAt (wpAny_operateT (hop hA Z₄ P { s with heap := h₄, toks := tk₄, drawn := dr₄ } v₃ v₄ R₄.hp (rd.step S₄) r₄ _ _ fun v₅ h₅ tk₅ dr₅ N' hkp' hN' rd' => ?_)))
 have R₅ := R₄.new hkp' hN'
 have S₅ : Step Z₄ P h₄ (fun b => Z₄ b ∨ N' b) h₅ := Step.new hkp' N'
 have S35 := (S₃.trans S₄).trans S₅
 refine wpAny_bind (wpAny_standAt ?_)
 rw [hi]
 refine wpAny_bind (wpAny_holding (hS hA _ P { s with heap := h₅, toks := tk₅, drawn := dr₅ } v₁ v₂ v₅ R₅.hp (r₁.step (S₂.trans S35)) (r₂.step S35) rd' _ _ fun h' tk hs ho => ?_))
 exact wpAny_bind (wpAny_release (wpAny_pure (fin_mk (((S₁.trans S₂).trans S35).trans (R₅.step_upd ha hs)) (R₅.hp_upd ha hs ho) .next hk)))
theorem inp_add {i j : Int} : AOk A → ∀ Z (P : Addr → Prop) s x y, HpR c Z P s.heap hp → Rd c Z s.heap (.int i) x → Rd c Z s.heap (.int j) y → Res c A Z s (inplaceOp .Add x y) (.int (i + j)) := by
 intro hA Z P s x y _ rX rY
 first | refine Rd.int_elim rX fun _ => ?_ | refine Rd.ref_elim rX ?_ | refine Rd.str_elim rX fun _ => ?_ | refine Rd.bool_elim rX ?_ | refine Rd.typ_elim rX ?_ | cases rX
 first | refine Rd.int_elim rY fun _ => ?_ | refine Rd.ref_elim rY ?_ | refine Rd.str_elim rY fun _ => ?_ | refine Rd.bool_elim rY ?_ | refine Rd.typ_elim rY ?_ | cases rY
 exact Res.pure fun Q E h => wpAny_iadd_int (h _ _ (.int _ _))
theorem inp_sub {i j : Int} : AOk A → ∀ Z (P : Addr → Prop) s x y, HpR c Z P s.heap hp → Rd c Z s.heap (.int i) x → Rd c Z s.heap (.int j) y → Res c A Z s (inplaceOp .Sub x y) (.int (i - j)) := by
 intro hA Z P s x y _ rX rY
 first | refine Rd.int_elim rX fun _ => ?_ | refine Rd.ref_elim rX ?_ | refine Rd.str_elim rX fun _ => ?_ | refine Rd.bool_elim rX ?_ | refine Rd.typ_elim rX ?_ | cases rX
 first | refine Rd.int_elim rY fun _ => ?_ | refine Rd.ref_elim rY ?_ | refine Rd.str_elim rY fun _ => ?_ | refine Rd.bool_elim rY ?_ | refine Rd.typ_elim rY ?_ | cases rY
 exact Res.pure fun Q E h => PySem.P.isub_int (h _ _ (.int _ _))
noncomputable def DelV (c : Cx) (A : Around) (hp : List (Addr × O)) (X Y : V) (a : Addr) (o' : O) : Prop :=
 AOk A → ∀ Z P s x y, HpR c Z P s.heap hp → Rd c Z s.heap X x → Rd c Z s.heap Y y →
  ∀ Q E, (∀ h' tk, (∀ b ob, b ≠ a → s.heap.get? b = some ob → h'.get? b = some ob) → RdO c Z h' a o' → Q () { s with heap := h', toks := tk }) → wpAny c.M A (delItem x y) Q E s
noncomputable def ddel (es : List (Str × V)) (k : Str) : List (Str × V) := es.filter fun e => decide (e.1 ≠ k)
theorem ddel_rd {Z : Addr → Prop} {h : Heap} {k : Str} : ∀ {es : List (Str × V)} {kvs : List (Str × Value)}, kvs.map (·.1) = es.map (·.1) → RdL c Z h (es.map (·.2)) (kvs.map (·.2)) →
  (without kvs k).map (·.1) = (ddel es k).map (·.1) ∧ RdL c Z h ((ddel es k).map (·.2)) ((without kvs k).map (·.2))
 | [], [], _, _ => ⟨rfl, .nil⟩
 | [], _ :: _, e, _ => by simp at e
 | _ :: _, [], e, _ => by simp at e
 | p :: es, q :: kvs, e, r => by
  simp only [List.map_cons, List.cons.injEq] at e
  simp only [List.map_cons] at r
  cases r with | cons r1 r2 =>
  obtain ⟨i1, i2⟩ := ddel_rd (k := k) e.2 r2
  unfold without ddel at *
  simp only [List.filter_cons, e.1]
  by_cases hk : p.1 = k
  ·simp only [hk, ne_eq, not_true_eq_false, decide_false, Bool.false_eq_true, if_false]; exact ⟨i1, i2⟩
  ·simp only [hk, ne_eq, not_false_eq_true, decide_true, if_true, List.map_cons]; exact ⟨by rw [i1, e.1], .cons r1 i2⟩
theorem del_odct {d : Addr} {es : List (Str × V)} {k : Str} (hd : (d, O.dct es) ∈ hp) (hk : (dget es k).isSome = true) (hl : es.length ≤ sizeLine) : DelV c A hp (.ref d) (.str k) d (.dct (ddel es k)) := by
 intro hA Z P s x y H rX rY Q E hQ
 cases rX; cases rY with | str _ t =>
 refine E14 (RdO.dctAt (H.obj d _ hd).1) fun kvs h1 h2 h3 h4 => ?_
 have hkl : kvs.length = es.length := by simpa using congrArg List.length h3
 unfold delItem
 try with_reducible refine wpAny_holding ?_
 refine wpAny_bind (wpAny_sequenceKey h2.typeIs (by decide) ?_)
 refine wpAny_bind (wpAny_callSpecial?_slot (name := Str.ofString "__delitem__") h2.typeIs PySem.F.slot_dict_delitem
  (call_meetsIn PySem.F.slot_dict_delitem h2.typeIs PySem.F.entry_dict_delitem (PySem.F.args_dict_delitem_2 _ _) (meets_dict_delitem_pairs c.K d (strKind_is _ _ k t)) (I14 kvs h2 (by omega) (by rw [isSome_dget h3 h4]; exact hk) (fun h' hmm hs => ?_))))
 have kZ : ∀ b o, Z b → s.heap.get? b = some o → h'.get? b = some o := fun b o z e => hs.extBut b o (fun e' => (H.obj d _ hd).2.1 (e' ▸ z)) e
 obtain ⟨h5, h6⟩ := ddel_rd (k := k) h3 (h4.keep (fun _ z => z) kZ)
 exact wpAny_pure (hQ h' _ (fun b ob hb e => hs.extBut b ob hb e) (.ofDict h1 hmm h5 h6))
theorem wS_Del {o i : Expr} {tpos pos : Pos} {k : FV → St → Prop} (h : WE c A env σ o fun X σ₁ => WE c A env σ₁ i fun Y σ₂ => ∃ a oo o', (a, oo) ∈ σ₂.hp ∧ DelV c A σ₂.hp X Y a o' ∧ k .next ⟨σ₂.loc, hset σ₂.hp a o'⟩)
  (he : deleteEach [.Subscript o i tpos] env = (do delete (.Subscript o i tpos) env; pure ()) := by rfl) : WS c A env σ (.Delete [.Subscript o i tpos] pos) k := by
 refine WP.mk fun hA Z P s R => ?_
 refine wpAny_Delete ?_
 rw [he]
 refine wpAny_bind (m := delete _ _) ?_
 rw [arm_delete_Subscript]
 refine wpAny_bind (wp_then h hA R fun Z₁ h₁ tk₁ dr₁ X σ₁ v₁ S₁ R₁ r₁ k₁ => ?_)
 refine wpAny_bind (wpAny_holding (wp_then k₁ hA R₁ fun Z₂ h₂ tk₂ dr₂ Y σ₂ v₂ S₂ R₂ r₂ kk => ?_))
 refine E33 kk fun a oo o' ha hD hk => ?_; clear kk
 refine wpAny_bind (wpAny_standAt (wpAny_bind (wpAny_holding (hD hA Z₂ P { s with heap := h₂, toks := tk₂, drawn := dr₂ } v₁ v₂ R₂.hp (r₁.step S₂) r₂ _ _ fun h' tk hs ho => ?_))))
 exact wpAny_release (wpAny_pure (fin_mk ((S₁.trans S₂).trans (R₂.step_upd ha hs)) (R₂.hp_upd ha hs ho) .next hk))
theorem wE_Dict0 {pos : Pos} {k : V → St → Prop} (h : ∀ a, a ∉ σ.hp.map (·.1) → k (.ref a) ⟨σ.loc, (a, .dct []) :: σ.hp⟩) : WE c A env σ (.Dict [] [] pos) k := by
 refine WP.mk fun hA Z P s R => ?_
 refine wpAny_Dict_empty ?_
 have hk := Kp.push s.heap { cls := .type "dict", data := .dict #[] }
 have hn : s.heap.get? s.heap.objs.size = none := fresh_none _ _ (Nat.le_refl _)
 refine (fin_mk (Step.kp hk) (R.adopt hk hn (o := .dct []) (.ofDict (kvs := []) ?_ (Heap.DictOf.new s.heap) rfl .nil)) (.ref _) (h _ (R.notin hn)))
 obtain ⟨o, e⟩ := R.inv.exZ _ R.inv.sys
 exact beq_false_of_ne (Nat.ne_of_gt (Heap.lt_size e))
theorem wE_ListO {es : List Expr} {pos : Pos} {k : V → St → Prop} (h : WEs c A env σ pos es fun Xs σ₁ => Xs.length ≤ sizeLine ∧ ∀ a, a ∉ σ₁.hp.map (·.1) → k (.ref a) ⟨σ₁.loc, (a, .lst Xs) :: σ₁.hp⟩) : WE c A env σ (.List es pos) k := by
 refine WP.mk fun hA Z P s R => ?_
 refine wpAny_List_spliced (wp_then h hA R fun Z₁ h₁ tk₁ dr₁ Xs σ₁ vs S₁ R₁ r₁ kk => ?_)
 obtain ⟨hsz, k₁⟩ := kk
 refine ⟨by rw [← r₁.length]; exact hsz, ?_⟩
 have hk := Kp.push h₁ { cls := .type "list", data := .seq vs.toArray }
 have hn : h₁.get? h₁.objs.size = none := fresh_none _ _ (Nat.le_refl _)
 exact (fin_mk (S₁.trans (Step.kp hk)) (R₁.adopt hk hn (o := .lst Xs) (I12 vs.toArray ⟨0, Heap.get?_push_size _ rfl⟩ (by simpa using r₁.kp hk))) (.ref _) (k₁ _ (R₁.notin hn)))
theorem zip_items (es : List (Str × V)) (kvs : List (Str × Value)) (e : kvs.map (·.1) = es.map (·.1)) : (kvs.map (·.1)).zipWith (fun k X => V.tup [.str k, X]) (es.map (·.2)) = RdPairs es := by
 rw [e]
 unfold RdPairs
 induction es with
 | nil => rfl
 | cons p es ih => simp
theorem seq_view {elts : List Expr} {n : Nat} {pos : Pos} {es : List (Str × V)} : SeqV c A (.Tuple elts n pos) hp (.view (.dct es)) (fun _ => False) (fun ys => ys = RdPairs es) := by
 intro hA Z P s v hZ H r
 cases r with | view z hv r' => cases r' with | dct z' hs hd e ri =>
 have := (SeqO.items (elts := elts) (n := n) (pos := pos) (H := fun _ => False) hA hv hd ri (.inl z') hZ).seq
 rw [zip_items es _ e] at this
 exact this
theorem seq_oview {elts : List Expr} {n : Nat} {pos : Pos} {d : Addr} {es : List (Str × V)} (hm : (d, O.dct es) ∈ hp) : SeqV c A (.Tuple elts n pos) hp (.view (.ref d)) (fun b => b = d) (fun ys => ys = RdPairs es) := by
 intro hA Z P s v hZ H r
 cases r with | view z hv r' => cases r' with | ref _ =>
 refine E24 ((H.obj d _ hm).1) fun kvs ep hs hd e ri => ?_
 have := (SeqO.items (elts := elts) (n := n) (pos := pos) (H := fun b => b = d) hA hv hd ri (.inr rfl) hZ).seq
 rw [zip_items es _ e] at this
 exact this
end
end Mine
end
noncomputable section
namespace Mine
open PySem PySem.SeqAt
structure ClsOk (c : Cx) (C N : Addr) (mN : Str → Option Value) : Prop where
 at_ : PyProof.Rows.ClsAt c.G C N mN
 ga : mN "__getattribute__" = none
 gh : mN "__getattr__" = none
 sa : mN "__setattr__" = none
theorem cls_elim {h : Heap} {C N : Addr} {mN : Str → Option Value} {P : Prop} (G : PyProof.Rows.ClsAt h C N mN) (k : ∀ nm q bs sn sub col dd k0 k1 k2 k3 k5, h.get? C = some (excClassObj nm q C N bs [.type "object"] true sn sub false col dd k0 k1 k2 k3 k5 "object.__new__") → P) : P :=
 E51 G.obj fun nm q bs sn sub h => E51 h fun col dd k0 k1 k2 h => E21 h fun k3 k5 e => k nm q bs sn sub col dd k0 k1 k2 k3 k5 e
structure MethAt (c : Cx) (f : Addr) (fd : FuncData) : Prop where
 obj : ∃ o, c.G.get? f = some o ∧ o.cls = .type "function" ∧ o.data = .func fd
 code : c.G.CodeRec fd.code fd.qualname
theorem MethAt.fn {c : Cx} {f : Addr} {fd : FuncData} (m : MethAt c f fd) : FnAt c f fd := ⟨let ⟨o, h1, _, h2⟩ := m.obj; (I12 o h1 h2), m.code⟩
section
variable {c : Cx} {A : Around} {env : Env} {σ : St} {Z P : Addr → Prop}
theorem inst_of {h : Heap} {x d C : Addr} {es : List (Str × V)} (hx : RdO c Z h x (.inst C d)) (hd : RdO c Z h d (.ns es)) :
  ∃ mA, h.Inst x C mA ∧ (∀ y, es.lookup y = none → mA y = none) ∧ ∀ y Y, es.lookup y = some Y → ∃ v, mA y = some v ∧ Rd c Z h Y v := by
 refine E02 hx fun hne y0 => E14 y0 fun o ho hc hnc hdd => ?_; clear hx
 refine E13 hd fun mA hn h1 h2 => ?_; clear hd
 exact (I13 mA (I14 o ho hc hnc (.inr (I13 d hdd hne hn))) h1 h2)
theorem Rd.handed {h : Heap} {X : V} {v : Value} (r : Rd c Z h X v) : handedOut v = pure v := by
 cases r <;> rfl
theorem wE_Attr {C N : Addr} {mN : Str → Option Value} {o : Expr} {name : Str} {pos : Pos} {k : V → St → Prop} (K : ClsOk c C N mN) (hna : mN name = none) (hB : typeLookup (.type "object") name = pure none)
  (h : WE c A env σ o fun X σ₁ => ∃ x d es Y, X = .ref x ∧ (x, O.inst C d) ∈ σ₁.hp ∧ (d, O.ns es) ∈ σ₁.hp ∧ es.lookup name = some Y ∧ k Y σ₁)
  (hbase : attributeBase o name env (eval o env) = eval o env := by rfl) : WE c A env σ (.Attribute o name pos) k := by
 refine WP.mk fun hA Z P s R => ?_
 rw [arm_eval_Attribute, hbase]
 refine wpAny_bind (wp_then h hA R fun Z₁ h₁ tk₁ dr₁ X σ₁ v₁ S₁ R₁ r₁ kk => ?_)
 refine E45 kk fun x d es Y z4 hx hd hY k₁ => ?_; clear kk; subst z4
 first | refine Rd.int_elim r₁ fun _ => ?_ | refine Rd.ref_elim r₁ ?_ | refine Rd.str_elim r₁ fun _ => ?_ | refine Rd.bool_elim r₁ ?_ | refine Rd.typ_elim r₁ ?_ | cases r₁
 refine E13 (inst_of (R₁.hp.obj x _ hx).1 (R₁.hp.obj d _ hd).1) fun mA I _ hm => ?_
 refine E12 (hm name Y hY) fun v hv rv => ?_
 have G := K.at_.keeps fun b o e => (R₁.inv.ground b o e).2
 refine cls_elim G fun nm q bs sn sub col dd k0 k1 k2 k3 k5 hC => ?_
 refine wpAny_bind (wpAny_standAt (wpAny_bind (wpAny_holding (load_attr hC G.ns K.ga hna hB I hv rv.handed ?_))))
 exact wpAny_bind (wpAny_letTemporaryGo (wpAny_pure (fin_mk S₁ R₁ rv k₁)))
theorem Rel.hp_updN {h h' : Heap} {N : Addr → Prop} {hp' : List (Addr × O)} (R : Rel c Z P env σ h) (hN : ∀ b, N b → ∃ o, (b, o) ∈ σ.hp) (hs : ∀ b ob, ¬ N b → h.get? b = some ob → h'.get? b = some ob)
  (hfst : hp'.map (·.1) = σ.hp.map (·.1)) (hobj : ∀ b ob, (b, ob) ∈ hp' → N b → RdO c Z h' b ob) (hsame : ∀ b ob, (b, ob) ∈ hp' → ¬ N b → (b, ob) ∈ σ.hp) : Rel c Z P env ⟨σ.loc, hp'⟩ h' := by
 have hnd := R.hp.nodup
 have hZ : ∀ b, N b → ¬ Z b := fun b n => let ⟨o, ho⟩ := hN b n; (R.hp.obj b o ho).2.1
 have hP : ∀ b, N b → ¬ P b := fun b n => let ⟨o, ho⟩ := hN b n; (R.hp.obj b o ho).2.2
 have hO : ∀ b, N b → ¬ OwnA env b := fun b n => let ⟨o, ho⟩ := hN b n; R.hpOff b o ho
 have R' : Rel c Z P env ⟨σ.loc, []⟩ h := R.le (I03 (fun x X e => e) (fun b ob hb => (by cases hb)) (fun _ => by simp))
 have R2 : Rel c Z P env ⟨σ.loc, []⟩ h' := R'.but (N := N) hs hZ hO (fun b _ o ho => by cases ho) (fun b p n => absurd p (hP b n)) (fun x cl h1 h2 n => hP cl n (R.freeP x cl h1 h2))
 refine { R2 with
  vars := R2.vars
  hp := ⟨fun b ob hb => ?_, by rw [hfst]; exact hnd⟩
  hpOff := fun b ob hb => ?_ }
 ·by_cases n : N b
  ·exact (I03 (hobj b ob hb n) (hZ b n) (hP b n))
  ·have := R.hp.obj b ob (hsame b ob hb n)
   exact ⟨this.1.keep (fun _ z => z) (fun b' o' z e => hs b' o' (fun n' => hZ b' n' z) e) (fun o' e => hs b o' n e), this.2⟩
 ·by_cases n : N b
  ·exact hO b n
  ·exact R.hpOff b ob (hsame b ob hb n)
theorem HpR.fn {h : Heap} {hp : List (Addr × O)} (H : HpR c Z P h hp) {b : Addr} {o o' : O} (h1 : (b, o) ∈ hp) (h2 : (b, o') ∈ hp) : o = o' := by
 have hnd := H.nodup
 clear H
 induction hp with
 | nil => cases h1
 | cons e hp ih =>
  simp only [List.map_cons, List.nodup_cons] at hnd
  rcases List.mem_cons.mp h1 with e1 | h1
  ·rcases List.mem_cons.mp h2 with e2 | h2
   ·rw [← e1] at e2; exact (Prod.mk.inj e2).2.symm
   ·exact absurd (by rw [← e1]; exact List.mem_map_of_mem (f := (·.1)) h2) hnd.1
  ·rcases List.mem_cons.mp h2 with e2 | h2
   ·exact absurd (by rw [← e2]; exact List.mem_map_of_mem (f := (·.1)) h1) hnd.1
   ·exact ih h1 h2 hnd.2
theorem mem_hset {hp : List (Addr × O)} {a b : Addr} {o ob : O} (h : (b, ob) ∈ hset hp a o) : (b = a ∧ ob = o) ∨ (b ≠ a ∧ (b, ob) ∈ hp) := by
 refine E12 (List.mem_map.mp h) fun e he e' => ?_
 by_cases h1 : e.1 = a
 ·simp only [h1, if_true, Prod.mk.injEq] at e'
  exact .inl ⟨e'.1.symm, e'.2.symm⟩
 ·simp only [h1, if_false] at e'
  subst e'
  exact .inr ⟨h1, he⟩
theorem wA_Attr {C N : Addr} {mN : Str → Option Value} {o : Expr} {name : Str} {pos : Pos} {W : V} {k : St → Prop} (K : ClsOk c C N mN) (hna : mN name = none) (hB : typeLookup (.type "object") name = pure none)
  (h : WE c A env σ o fun X σ₁ => ∃ x d es, X = .ref x ∧ (x, O.inst C d) ∈ σ₁.hp ∧ (d, O.ns es) ∈ σ₁.hp ∧ es.length ≤ sizeLine ∧ k ⟨σ₁.loc, hset σ₁.hp d (.ns (setL es name W))⟩) : WA c A env σ (.Attribute o name pos) W k := by
 intro hA Z P s v R r
 rw [arm_assign_Attribute]
 refine wpAny_bind (wpAny_holding (wp_then h hA R fun Z₁ h₁ tk₁ dr₁ X σ₁ v₁ S₁ R₁ r₁ kk => ?_))
 refine E35 kk fun x d es z3 hx hd hlen k₁ => ?_; clear kk; subst z3
 first | refine Rd.int_elim r₁ fun _ => ?_ | refine Rd.ref_elim r₁ ?_ | refine Rd.str_elim r₁ fun _ => ?_ | refine Rd.bool_elim r₁ ?_ | refine Rd.typ_elim r₁ ?_ | cases r₁
 refine E13 (inst_of (R₁.hp.obj x _ hx).1 (R₁.hp.obj d _ hd).1) fun mA I hm0 hm => ?_
 refine E02 (id (R₁.hp.obj x _ hx).1) fun hne y0 => E14 y0 fun ox hox hcx hnc hdx => ?_
 have G := K.at_.keeps fun b o e => (R₁.inv.ground b o e).2
 refine cls_elim G fun nm q bs sn sub col dd k0 k1 k2 k3 k5 hC => ?_
 refine cls_elim K.at_ fun _ _ _ _ _ _ _ _ _ _ _ _ hC0 => ?_
 have hxC : x ≠ C := fun e => (R₁.hp.obj x _ hx).2.1 (e ▸ (R₁.inv.ground C _ hC0).1)
 have rW : Rd c Z₁ h₁ W v := r.step S₁
 refine wpAny_bind (wpAny_standAt (wpAny_bind (wpAny_holding (store_attr (ns := es.map (·.1)) PySem.F.store_object hC G.ns K.sa hna hB hxC I ?_ ?_ (by simpa using hlen)))))
 ·intro h' tk' I' hk hx'
  have hs : ∀ b ob, ¬ (b = x ∨ b = d) → h₁.get? b = some ob → h'.get? b = some ob := fun b ob hb e => hk b ob (fun e => hb (.inl e)) (fun o₀ dx h0 h1 e' => by
   rw [hox] at h0; cases h0
   rw [hdx] at h1; cases h1
   exact hb (.inr e')) e
  refine E15 (hx' ox hox) fun o₁ ho₁ hc₁ hd₁ hsl hdd => ?_
  have kZ : ∀ b o, Z₁ b → h₁.get? b = some o → h'.get? b = some o := fun b o z e => hs b o (fun hb => by
   rcases hb with rfl | rfl
   ·exact (R₁.hp.obj _ _ hx).2.1 z
   ·exact (R₁.hp.obj _ _ hd).2.1 z) e
  have ox' : RdO c Z₁ h' x (.inst C d) := (I02 hne (I14 o₁ ho₁ (hc₁.trans hcx) (fun k' => by rw [hd₁]; exact hnc k') (hdd d hdx)))
  have od' : RdO c Z₁ h' d (.ns (setL es name W)) := by
   refine E14 I' fun o₂ ho₂ _ _ hI => ?_; clear I'
   rw [ho₁] at ho₂; cases ho₂
   rcases hI with ⟨hn, _⟩ | ⟨d', hd', _, hns⟩
   ·rw [hdd d hdx] at hn; cases hn
   ·rw [hdd d hdx] at hd'; cases hd'
    refine (I13 _ hns (fun y hy => ?_) (fun y Y hy => ?_))
    ·rw [lookup_setL] at hy
     by_cases e : y = name
     ·simp [e] at hy
     ·simp only [if_neg e] at hy ⊢; exact hm0 y hy
    ·rw [lookup_setL] at hy
     by_cases e : y = name
     ·simp only [if_pos e, Option.some.injEq] at hy ⊢; subst hy; exact (I12 v rfl (rW.keep (fun _ z => z) kZ))
     ·simp only [if_neg e] at hy ⊢
      refine E12 (hm y Y hy) fun u hu ru => ?_
      exact (I12 u hu (ru.keep (fun _ z => z) kZ))
  have R₂ : Rel c Z₁ P env ⟨σ₁.loc, hset σ₁.hp d (.ns (setL es name W))⟩ h' := by
   refine R₁.hp_updN (N := fun b => b = x ∨ b = d) ?_ hs (hset_fst ..) ?_ ?_
   ·rintro b (rfl | rfl)
    ·exact ⟨_, hx⟩
    ·exact ⟨_, hd⟩
   ·intro b ob hb n
    rcases mem_hset hb with ⟨rfl, rfl⟩ | ⟨hbd, hb'⟩
    ·exact od'
    ·rcases n with rfl | rfl
     ·have : ob = O.inst C d := by
       have h1 := R₁.hp.nodup
       exact R₁.hp.fn hb' hx
      subst this; exact ox'
     ·exact absurd rfl hbd
   ·intro b ob hb n
    rcases mem_hset hb with ⟨rfl, rfl⟩ | ⟨hbd, hb'⟩
    ·exact absurd (.inr rfl) n
    ·exact hb'
  refine wpAny_release (fin_mk (b := ()) (S₁.trans ⟨fun _ z => z, kZ, fun b o p e => hs b o (fun hb => ?_) e⟩) R₂ trivial k₁)
  rcases hb with rfl | rfl
  ·exact (R₁.hp.obj _ _ hx).2.2 p
  ·exact (R₁.hp.obj _ _ hd).2.2 p
 ·intro y hu
  cases e : es.lookup y with
  | none => exact absurd (hm0 y e) hu
  | some Y => exact List.mem_map_of_mem (f := (·.1)) (PySem.mem_of_lookup e)
theorem Rel.adoptL {h h' : Heap} {news : List (Addr × O)} (R : Rel c Z P env σ h) (hk : Kp h h') (hn : ∀ a o, (a, o) ∈ news → h.get? a = none ∧ RdO c Z h' a o) (hnd : (news.map (·.1)).Nodup) : Rel c Z P env ⟨σ.loc, news ++ σ.hp⟩ h' := by
 have R' := R.kp hk
 exact { R' with
  vars := R'.vars
  hp := ⟨fun b ob hb => by
   rcases List.mem_append.mp hb with hb | hb
   ·have h0 := hn b ob hb
    refine (I03 (h0.2) (fun z => ?_) (fun p => ?_))
    ·obtain ⟨o, e⟩ := R.inv.exZ b z; rw [h0.1] at e; cases e
    ·obtain ⟨o, e⟩ := R.inv.exP b p; rw [h0.1] at e; cases e
   ·exact R'.hp.obj b ob hb, by
   rw [List.map_append, List.nodup_append]
   refine (I03 hnd R'.hp.nodup ?_)
   rintro a ha b hb rfl
   refine E12 (List.mem_map.mp ha) fun z0 h1 z2 => ?_; obtain ⟨a', o⟩ := z0; subst z2
   refine E12 (List.mem_map.mp hb) fun z0 h2 e => ?_; obtain ⟨b', o'⟩ := z0
   simp only at e; subst e
   obtain ⟨x, hx⟩ := (R.hp.obj _ o' h2).1.some
   rw [(hn _ o h1).1] at hx; cases hx⟩
  hpOff := fun b ob hb => by
   rcases List.mem_append.mp hb with hb | hb
   ·intro hown
    obtain ⟨x, hx⟩ := R.exOwn hown
    rw [(hn b ob hb).1] at hx; cases hx
   ·exact R'.hpOff b ob hb }
noncomputable def CRest (c : Cx) (A : Around) (f : Addr) (Xs : List V) (k : V → St → Prop) (σ : St) : Prop :=
 ∃ n H rest post, Rm n A ∧ σ.hp.Perm (H ++ rest) ∧ CallSpec c n f H Xs post ∧ ∀ Y H', post Y H' → k Y ⟨σ.loc, H' ++ rest⟩
theorem method_get {C N : Addr} {mN : Str → Option Value} {name : Str} {pl : Sem Bool} {f : Addr} {fd : FuncData} {y : Option Value} {s : Shared} {x d : Addr} {es : List (Str × V)} {Q : Value × List Value → Shared → Prop} {E : Value → Shared → Prop} (K : ClsOk c C N mN) (hf : mN name = some (.ref f)) (M : MethAt c f fd)
  (hB : typeLookup (.type "object") name = pure y) (R : Rel c Z P env σ s.heap) (hx : (x, O.inst C d) ∈ σ.hp) (hd : (d, O.ns es) ∈ σ.hp) (hno : es.lookup name = none) (hq : Q (.ref f, [.ref x]) s) : wpAny c.M A (getMethod (.ref x) name pl) Q E s := by
 refine E13 (inst_of (R.hp.obj x _ hx).1 (R.hp.obj d _ hd).1) fun mA I hm0 hm => ?_
 have G := K.at_.keeps fun b o e => (R.inv.ground b o e).2
 refine cls_elim G fun nm q bs sn sub col dd k0 k1 k2 k3 k5 hC => ?_
 refine E13 M.obj fun of hof hfc hfd => ?_
 obtain ⟨h, g, dr, t, os⟩ := s
 exact method_of hC G.ns K.ga K.gh hf (R.inv.ground f of hof).2 hfc hB I (hm0 name hno) hq
theorem wE_MethI0 {C N : Addr} {mN : Str → Option Value} {o : Expr} {name : Str} {apos pos : Pos} {f : Addr} {fd : FuncData} {y : Option Value} {k : V → St → Prop} (K : ClsOk c C N mN) (hf : mN name = some (.ref f)) (M : MethAt c f fd) (hB : typeLookup (.type "object") name = pure y)
  (h : WE c A env σ o fun X σ₁ => ∃ x d es, X = .ref x ∧ (x, O.inst C d) ∈ σ₁.hp ∧ (d, O.ns es) ∈ σ₁.hp ∧ es.lookup name = none ∧ CRest c A f [X] k σ₁)
  (hbase : attributeBase o name env (eval o env) = eval o env := by rfl) (hline : (apos.endLine == pos.line) = true := by rfl) : WE c A env σ (.Call (.Attribute o name apos) [] [] pos) k := by
 refine WP.mk fun hA Z P s R => ?_
 rw [arm_eval_Call, hbase]
 refine wpAny_bind (wp_then h hA R fun Z₁ h₁ tk₁ dr₁ X σ₁ v₁ S₁ R₁ r₁ kk => ?_)
 refine E35 kk fun x d es z3 hx hd hno y0 => E44 y0 fun n H rest post hR hsp hC k₁ => ?_; clear kk; subst z3
 first | refine Rd.int_elim r₁ fun _ => ?_ | refine Rd.ref_elim r₁ ?_ | refine Rd.str_elim r₁ fun _ => ?_ | refine Rd.bool_elim r₁ ?_ | refine Rd.typ_elim r₁ ?_ | cases r₁
 refine E13 M.obj fun of hof hfc hfd => ?_
 refine wpAny_bind (wpAny_standAt ?_)
 have hform : methodCallForm (([] : List Expr).length + ([] : List Keyword).length) (backTo pos (starEach [] env)) (backToKw pos (keywordEach [] env)) = true := rfl
 have hpos : methodCallPos true o env apos pos = pure pos := by unfold methodCallPos; simp [hline]
 unfold methodCall
 rw [hform]
 refine wpAny_bind (wpAny_holding (method_get (s := { s with heap := h₁, toks := tk₁, drawn := dr₁ }) K hf M hB R₁ hx hd hno ?_))
 refine wpAny_bind (wpAny_of_eq hpos ?_)
 refine Calls.callWith_function (o := of) (fd := fd) (evalArgs_none ⟨⟨(R₁.inv.ground f of hof).2, hfd⟩, ?_⟩)
 exact call_from S₁ R₁ hR hsp hC (.cons (.ref x) .nil) k₁
theorem wE_MethI {C N : Addr} {mN : Str → Option Value} {o : Expr} {name : Str} {apos pos : Pos} {f : Addr} {fd : FuncData} {y : Option Value} {e : Expr} {args : List Expr} {k : V → St → Prop} (K : ClsOk c C N mN) (hf : mN name = some (.ref f)) (M : MethAt c f fd) (hB : typeLookup (.type "object") name = pure y)
  (h : WE c A env σ o fun X σ₁ => ∃ x d es, X = .ref x ∧ (x, O.inst C d) ∈ σ₁.hp ∧ (d, O.ns es) ∈ σ₁.hp ∧ es.lookup name = none ∧ WEs c A env σ₁ pos (e :: args) fun Xs σ₂ => CRest c A f (X :: Xs) k σ₂)
  (hbase : attributeBase o name env (eval o env) = eval o env := by rfl) (hline : (apos.endLine == pos.line) = true := by rfl)
  (hform : methodCallForm ((e :: args).length + ([] : List Keyword).length) (backTo pos (starEach (e :: args) env)) (backToKw pos (keywordEach [] env)) = true := by rfl)
  (he : starEach (e :: args) env = (false, eval e env) :: starEach args env := by rfl) : WE c A env σ (.Call (.Attribute o name apos) (e :: args) [] pos) k := by
 refine WP.mk fun hA Z P s R => ?_
 rw [arm_eval_Call, hbase]
 refine wpAny_bind (wp_then h hA R fun Z₁ h₁ tk₁ dr₁ X σ₁ v₁ S₁ R₁ r₁ kk => ?_)
 refine E35 kk fun x d es z3 hx hd hno ha => ?_; clear kk; subst z3
 first | refine Rd.int_elim r₁ fun _ => ?_ | refine Rd.ref_elim r₁ ?_ | refine Rd.str_elim r₁ fun _ => ?_ | refine Rd.bool_elim r₁ ?_ | refine Rd.typ_elim r₁ ?_ | cases r₁
 refine E13 M.obj fun of hof hfc hfd => ?_
 refine wpAny_bind (wpAny_standAt ?_)
 have hpos : methodCallPos true o env apos pos = pure pos := by unfold methodCallPos; simp [hline]
 unfold methodCall
 rw [hform]
 refine wpAny_bind (wpAny_holding (method_get (s := { s with heap := h₁, toks := tk₁, drawn := dr₁ }) K hf M hB R₁ hx hd hno ?_))
 refine wpAny_bind (wpAny_of_eq hpos ?_)
 have ha' := ha.run hA Z₁ P { s with heap := h₁, toks := tk₁, drawn := dr₁ } R₁
 rw [he] at ha' ⊢
 refine Calls.callWith_function (o := of) (fd := fd) (Calls.evalArgs_plain (wpAny_mono ha' ?_ fun _ _ x => x))
 refine fun vs _ => R65 fun Z₂ h₂ tk₂ dr₂ Xs σ₂ z6 S₂ R₂ r₂ y0 => E44 y0 fun n H rest post hR hsp hC k₁ => ?_; subst z6
 exact ⟨⟨(R₂.inv.ground f of hof).2, hfd⟩, call_from (S₁.trans S₂) R₂ hR hsp hC (.cons (.ref x) r₂) k₁⟩
theorem Rm.make {n : Nat} {C : Addr} {vals : List Value} (h : Rm (n + 1) A) : Rm n (A.under (.builtin "type.__call__" ⟨.ref C :: vals, []⟩)) :=
 ⟨h.handled, by have := h.units; have e : (Code.builtin "type.__call__" ⟨.ref C :: vals, []⟩).frames = 0 := rfl; show A.units + _ + 300 + 100 * n < cLine; simp only [Code.cUnits, e]; omega, by have := h.depth; show A.depth + 1 + 5 + 10 * n < recursionLimit; omega⟩
theorem wE_New {C N : Addr} {mN : Str → Option Value} {f : Str} {fpos pos : Pos} {fI : Addr} {fd : FuncData} {e : Expr} {args : List Expr} {k : V → St → Prop} (K : ClsOk c C N mN) (hg : c.mg f = some (.ref C)) (hi : mN "__init__" = some (.ref fI)) (M : MethAt c fI fd) (hkd : env.kindOf f = some .globalImplicit)
  (h : WEs c A env σ pos (e :: args) fun Xs σ₁ => ∃ (n : Nat) (post : Addr → Addr → V → List (Addr × O) → Prop), Rm (n + 1) A ∧ (∀ x d, x ∉ σ₁.hp.map (·.1) → d ∉ σ₁.hp.map (·.1) → d ≠ x → CallSpec c n fI [(x, .inst C d), (d, .ns [])] (.ref x :: Xs) (post x d) ∧ ∀ Y H', post x d Y H' → Y = .none ∧ k (.ref x) ⟨σ₁.loc, H' ++ σ₁.hp⟩))
  (hd : (f == ("__debug__" : Str)) = false := by decide) (he : starEach (e :: args) env = (false, eval e env) :: starEach args env := by rfl)
  (hplain : (backTo pos (starEach args env)).any (·.1) = false := by rfl) : WE c A env σ (.Call (.Name f fpos) (e :: args) [] pos) k := by
 refine WP.mk fun hA Z P s R => ?_
 show wpAny _ _ (do callWith pos (← eval (.Name f fpos) env) [] (backTo pos (starEach (e :: args) env)) (backToKw pos (keywordEach [] env))) _ _ s
 refine wpAny_bind (load_global R hg hkd ?_ hd)
 refine PyProof.Rows.callWith_cls (h₀ := c.G) K.at_ (wp_then h hA R fun Z₁ h₁ tk₁ dr₁ Xs σ₁ vs S₁ R₁ r₁ kk => ?_) he hplain
 refine E22 kk fun n post hR hpost => ?_; clear kk
 refine ⟨fun b o e => (R₁.inv.ground b o e).2, ?_⟩
 have G := K.at_.keeps fun b o e => (R₁.inv.ground b o e).2
 refine cls_elim G fun nm q bs sn sub col dd k0 k1 k2 k3 k5 hC => ?_
 refine E13 M.obj fun of hof hfc hfd => ?_
 refine wpAny_call_obj_init PySem.F.objNew hC G.ns hi (R₁.inv.ground fI of hof).2 hfc fun h' x d Mk => ?_
 refine E14 (id Mk.inst) fun ox hox hcx hnc hdx => ?_
 have hdd := Mk.dict ox hox
 have hns : d ≠ x ∧ h'.Ns1 d fun _ => none := by
  rcases hdx with ⟨hn0, _⟩ | ⟨d', hd', hne, hns'⟩
  ·rw [hn0] at hdd; cases hdd
  ·obtain rfl := Option.some.inj (hd'.symm.trans hdd); exact ⟨hne, hns'⟩
 have hk : Kp h₁ h' := Mk.keeps
 have R₂ : Rel c Z₁ P env ⟨σ₁.loc, [(x, O.inst C d), (d, O.ns [])] ++ σ₁.hp⟩ h' := by
  refine R₁.adoptL hk (fun a o ha => ?_) ?_
  ·simp only [List.mem_cons, List.not_mem_nil, or_false, Prod.mk.injEq] at ha
   rcases ha with ⟨rfl, rfl⟩ | ⟨rfl, rfl⟩
   ·exact (I03 Mk.newX (hns.1) (I14 ox hox hcx hnc hdd))
   ·exact (I02 Mk.newD (I13 _ (hns.2) (fun _ _ => rfl) (fun _ _ e => by simp at e)))
  ·simp only [List.map_cons, List.map_nil, List.nodup_cons, List.mem_singleton, List.not_mem_nil, not_false_eq_true, List.nodup_nil, and_true]
   exact fun e => hns.1 e.symm
 obtain ⟨hCS, hfin⟩ := hpost x d (R₁.notin Mk.newX) (R₁.notin Mk.newD) hns.1
 refine wpAny_mono (call_from (k := fun Y σ' => Y = .none ∧ k (.ref x) σ') (A := A.under (.builtin "type.__call__" ⟨.ref C :: vs, []⟩)) (s := s) (tk₁ := tk₁) (dr₁ := dr₁) (S₁.trans (Step.kp hk)) R₂ hR.make (.refl _) hCS (.cons (.ref x) (r₁.kp hk)) fun Y H' hp => hfin Y H' hp) ?_ fun _ _ x => x.elim
 refine fun r _ => R66 fun Z₃ h₃ tk₃ dr₃ Y σ₃ z6 S₃ R₃ r₃ z10 k₃ => ?_; subst z6; subst z10
 first | refine Rd.int_elim r₃ fun _ => ?_ | refine Rd.ref_elim r₃ ?_ | refine Rd.str_elim r₃ fun _ => ?_ | refine Rd.bool_elim r₃ ?_ | refine Rd.typ_elim r₃ ?_ | cases r₃
 exact (I02 rfl (I65 Z₃ h₃ tk₃ dr₃ _ σ₃ rfl S₃ R₃ (.ref x) k₃))
end
end Mine
end
noncomputable section
namespace Mine
open PySem PySem.SeqAt
section
variable {c : Cx} {A : Around} {env : Env} {σ : St}
theorem WP.weak {α β : Type} {t : Sem α} {Rr : (Addr → Prop) → Heap → β → α → Prop} {k : β → St → Prop} {τ : St} (h : WP c A env τ t Rr k) (hle : σ.le τ) : WP c A env σ t Rr k :=
 ⟨fun hA Z P s R => h.run hA Z P s (R.le hle)⟩
theorem WP.nd {α β : Type} {t : Sem α} {Rr : (Addr → Prop) → Heap → β → α → Prop} {k : β → St → Prop} (h : (σ.hp.map (·.1)).Nodup → WP c A env σ t Rr k) : WP c A env σ t Rr k :=
 ⟨fun hA Z P s R => (h R.hp.nodup).run hA Z P s R⟩
theorem wE_Bname {f : Str} {T : String} {pos : Pos} {k : V → St → Prop} (hm : c.mg f = none) (hv : bootBuiltins f = some (.type T)) (hk : env.kindOf f = some .globalImplicit) (h : k (.typ T) σ)
  (hn : f ≠ "__name__" := by decide) (hd : (f == ("__debug__" : Str)) = false := by decide) : WE c A env σ (.Name f pos) k := by
 refine WP.mk fun hA Z P s R => ?_
 exact load_builtin R hm hv hn hk (fin_mk (Step.refl ..) R (.typ T) h) hd
theorem wE_Gname {f : Str} {v : Value} {X : V} {pos : Pos} {k : V → St → Prop} (hm : c.mg f = some v) (hr : Rd c (fun b => ∃ o, c.G.get? b = some o) c.G X v) (hk : env.kindOf f = some .globalImplicit) (h : k X σ)
  (hd : (f == ("__debug__" : Str)) = false := by decide) : WE c A env σ (.Name f pos) k := by
 refine WP.mk fun hA Z P s R => ?_
 exact load_global R hm hk (fin_mk (Step.refl ..) R (hr.keep (fun b ⟨o, e⟩ => (R.inv.ground b o e).1) (fun b o _ e => (R.inv.ground b o e).2)) h) hd
theorem wE_neg {i : Int} {n : Nat} {pos pos' : Pos} {k : V → St → Prop} (h : k (.int (-i)) σ) : WE c A env σ (.UnaryOp .USub (.Constant (.int i) n pos) pos') k := by
 refine WP.mk fun hA Z P s R => ?_
 exact wpAny_UnaryOp (wpAny_Constant_int (PySem.P.neg_int (fin_mk (Step.refl ..) R (.int _ _) h)))
noncomputable def WPart (c : Cx) (A : Around) (env : Env) (σ : St) (e : Option Expr) (k : Option Int → St → Prop) : Prop :=
 WP c A env σ (evalPart e env) (fun _ _ i v => IsPart v i) k
theorem wPart_none {k : Option Int → St → Prop} (h : k none σ) : WPart c A env σ none k := by
 refine WP.mk fun hA Z P s R => ?_
 rw [evalPart_none]
 exact wpAny_pure (fin_mk (Step.refl ..) R .none h)
theorem wPart_some {e : Expr} {k : Option Int → St → Prop} (h : WE c A env σ e fun X σ₁ => ∃ i, X = .int i ∧ k (some i) σ₁) : WPart c A env σ (some e) k := by
 refine WP.mk fun hA Z P s R => ?_
 rw [evalPart_some]
 refine wp_then h hA R fun Z₁ h₁ tk₁ dr₁ X σ₁ v S₁ R₁ r₁ kk => ?_
 refine E12 kk fun i z1 hk => ?_; clear kk; subst z1
 first | refine Rd.int_elim r₁ fun _ => ?_ | refine Rd.ref_elim r₁ ?_ | refine Rd.str_elim r₁ fun _ => ?_ | refine Rd.bool_elim r₁ ?_ | refine Rd.typ_elim r₁ ?_ | cases r₁
 exact (fin_mk S₁ R₁ (.int _ _) hk)
theorem drop_take_clip {α : Type} (l : List α) (a b : Nat) : (l.drop (min a l.length)).take (min b l.length - min a l.length) = (l.drop a).take (b - a) := by
 by_cases ha : a ≤ l.length
 ·rw [Nat.min_eq_left ha]
  by_cases hb : b ≤ l.length
  ·rw [Nat.min_eq_left hb]
  ·rw [Nat.min_eq_right (by omega), List.take_of_length_le (by simp), List.take_of_length_le (by simp; omega)]
 ·rw [Nat.min_eq_right (a := a) (b := l.length) (by omega), List.drop_of_length_le (Nat.le_refl _), List.drop_of_length_le (i := a) (by omega)]; simp
theorem slice_gen (items : Array Value) (lo hi : Option Nat) : slicePick items (lo.map fun (n : Nat) => (n : Int)) (hi.map fun (n : Nat) => (n : Int)) none = ((items.toList.drop (lo.getD 0)).take (hi.getD items.size - lo.getD 0)).toArray := by
 have e : sliceBounds (lo.map fun (n : Nat) => (n : Int)) (hi.map fun (n : Nat) => (n : Int)) none items.size = (((min (lo.getD 0) items.size : Nat) : Int), ((min (hi.getD items.size) items.size : Nat) : Int), 1) := by
  simp only [sliceBounds, Option.getD_none]
  cases lo with
  | none =>
   cases hi with
   | none => simp
   | some b =>
    have h2 : ¬ ((b : Int) < 0) := by omega
    simp only [Option.map_none, Option.map_some, Option.getD_none, Option.getD_some, h2, if_false, show (1 : Int) > 0 by decide, if_true]
    congr 1
    congr 1; omega
  | some a =>
   have h1 : ¬ ((a : Int) < 0) := by omega
   cases hi with
   | none =>
    simp only [Option.map_none, Option.map_some, Option.getD_none, Option.getD_some, h1, if_false, show (1 : Int) > 0 by decide, if_true]
    congr 1
    ·omega
    ·congr 1; omega
   | some b =>
    have h2 : ¬ ((b : Int) < 0) := by omega
    simp only [Option.map_some, Option.getD_some, h1, h2, if_false, show (1 : Int) > 0 by decide, if_true]
    congr 1
    ·omega
    ·congr 1; omega
 unfold slicePick
 rw [e]
 simp only [sliceRange_one, pick_run]
 have := drop_take_clip items.toList (lo.getD 0) (hi.getD items.size)
 simp only [Array.length_toList] at this
 rw [this]
theorem wE_Slice {value : Expr} {lower upper : Option Expr} {p pos : Pos} {k : V → St → Prop}
  (h : WE c A env σ value fun X σ₁ => ∃ xs, X = .lst xs ∧ xs.length ≤ sizeLine ∧ WPart c A env σ₁ lower fun lo σ₂ => WPart c A env σ₂ upper fun hi σ₃ => ∃ a b : Option Nat, lo = a.map (fun (n : Nat) => (n : Int)) ∧ hi = b.map (fun (n : Nat) => (n : Int)) ∧ k (.lst ((xs.drop (a.getD 0)).take (b.getD xs.length - a.getD 0))) σ₃) :
  WE c A env σ (.Subscript value (.Slice lower upper none p) pos) k := by
 refine WP.mk fun hA Z P s R => ?_
 rw [arm_eval_Subscript]
 refine wpAny_bind (wp_then h hA R fun Z₁ h₁ tk₁ dr₁ X σ₁ v₁ S₁ R₁ r₁ kk => ?_)
 refine E13 kk fun xs z1 hsz k₁ => ?_; clear kk; subst z1
 refine Rd.lst_elim r₁ fun l items z i ri => ?_
 have hl := ri.length
 simp only [Array.length_toList] at hl
 refine wpAny_bind (wpAny_holding (wpAny_Slice (wp_then k₁ hA R₁ fun Z₂ h₂ tk₂ dr₂ lo σ₂ vl S₂ R₂ r₂ k₂ => ?_)))
 refine wp_then k₂ hA R₂ fun Z₃ h₃ tk₃ dr₃ hi σ₃ vu S₃ R₃ r₃ kk => ?_
 refine E23 kk fun a b z2 z3 k₃ => ?_; clear kk; subst z2; subst z3
 rw [evalPart_none]
 refine wpAny_pure ?_
 have S13 := S₂.trans S₃
 have i₃ : h₃.PlainList l items := i.at fun o e => S13.keepZ l o z e
 have ri₃ := ri.keep S13.grow S13.keepZ
 have kp1 := Kp.push h₃ { cls := .type "slice", data := .fields #[vl, vu, .none] }
 have i₄ := i₃.at fun o => kp1 l o
 refine wpAny_bind (wpAny_standAt (wpAny_bind (gip (T := "list") (s := { s with heap := h₃.push { cls := .type "slice", data := .fields #[vl, vu, .none] }, toks := tk₃, drawn := dr₃ }) i₄.isList.typeIs list_getitem_lookup (by intro e; cases e) ?_)))
 have fin : wpAny c.M A (getItem (.ref l) (.ref h₃.objs.size)) (fun r s₃ => wpAny c.M A (letTemporaryGo value (.ref l) r >>= fun _ => pure r) (Fin c P env (RV c) k Z s) (fun _ _ => False) s₃) (fun _ _ => False) { s with heap := h₃.push { cls := .type "slice", data := .fields #[vl, vu, .none] }, toks := tk₃, drawn := dr₃ } := by
  refine wpAny_getItem_list_slice i₄.isList (Heap.IsSliceOf.new ..) r₂ r₃ .none (by simp) ?_ (by omega)
  refine wpAny_bind (wpAny_letTemporaryGo (wpAny_pure ?_))
  have kp2 := Kp.push (h₃.push { cls := .type "slice", data := .fields #[vl, vu, .none] }) { cls := .type "list", data := .seq (slicePick items (a.map fun (n : Nat) => (n : Int)) (b.map fun (n : Nat) => (n : Int)) none) }
  have kp := kp1.trans kp2
  have hnew : ∀ bb, bb = (h₃.push { cls := .type "slice", data := .fields #[vl, vu, .none] }).objs.size → h₃.get? bb = none ∧ ∃ o, ((h₃.push { cls := .type "slice", data := .fields #[vl, vu, .none] }).push { cls := .type "list", data := .seq (slicePick items (a.map fun (n : Nat) => (n : Int)) (b.map fun (n : Nat) => (n : Int)) none) }).get? bb = some o := by
   rintro bb rfl
   exact (I02 (fresh_none _ _ (by rw [Heap.size_push]; omega)) (I11 _ (Heap.get?_push_size _ rfl)))
  refine (fin_mk (((S₁.trans S13)).trans (Step.new kp _)) (R₃.new kp hnew) (.lst (.inr rfl) ⟨0, Heap.get?_push_size _ rfl⟩ ?_) k₃)
  have hfin := ((ri₃.drop (a.getD 0)).take (b.getD xs.length - a.getD 0)).keep (Z' := fun bb => Z₃ bb ∨ bb = (h₃.push { cls := .type "slice", data := .fields #[vl, vu, .none] }).objs.size) (fun _ z => .inl z) fun b o _ e => kp b o e
  have e : (slicePick items (a.map fun (n : Nat) => (n : Int)) (b.map fun (n : Nat) => (n : Int)) none).toList = (items.toList.drop (a.getD 0)).take (b.getD xs.length - a.getD 0) := by rw [slice_gen, hl]
  rw [e]
  exact hfin
 exact wpAny_bind (wpAny_operating fin)
end
end Mine
end
noncomputable section
namespace Mine
open PySem PySem.SeqAt
section
variable {c : Cx} {A : Around} {env : Env} {σ : St}
theorem WP.fin {α β : Type} {t : Sem α} {Rr : (Addr → Prop) → Heap → β → α → Prop} {k : β → St → Prop} (h : WP c A env σ t Rr fun b σ' => ∃ τ, σ'.le τ ∧ k b τ) : WP c A env σ t Rr k := by
 refine WP.mk fun hA Z P s R => ?_
 refine wp_then h hA R fun Z₁ h₁ tk₁ dr₁ b σ₁ v S₁ R₁ r₁ kk => ?_
 refine E12 kk fun τ hle hk => ?_; clear kk
 exact (fin_mk S₁ (R₁.le hle) r₁ hk)
noncomputable def Sub : List (Str × V) → List (Str × V) → Prop
 | [], _ => True
 | (x, X) :: r, l => l.lookup x = some X ∧ Sub r l
theorem Sub.lk : ∀ {r l : List (Str × V)}, Sub r l → ∀ x X, r.lookup x = some X → l.lookup x = some X
 | [], _, _, x, X, e => by simp at e
 | (y, Y) :: r, l, h, x, X, e => by
  rw [List.lookup_cons] at e
  cases hx : x == y with
  | true => rw [hx] at e; cases e; rw [eq_of_beq hx]; exact h.1
  | false => rw [hx] at e; exact h.2.lk x X e
theorem le_loc {l l' : List (Str × V)} {hp : List (Addr × O)} (h : Sub l' l) : St.le ⟨l, hp⟩ ⟨l', hp⟩ := (I03 h.lk (fun _ _ x => x) id)
theorem le_nil {l : List (Str × V)} {hp : List (Addr × O)} : St.le ⟨l, hp⟩ ⟨[], []⟩ := (I03 (fun _ _ e => by simp at e) (fun _ _ x => (by cases x)) (fun _ => .nil))
theorem le_hp {l : List (Str × V)} {hp hp' : List (Addr × O)} (h : hp'.Sublist hp) : St.le ⟨l, hp⟩ ⟨l, hp'⟩ := (I03 (fun _ _ e => e) (fun _ _ x => h.subset x) (fun x => (h.map _).nodup x))
theorem le_perm {l : List (Str × V)} {hp hp' : List (Addr × O)} (h : hp'.Perm hp) : St.le ⟨l, hp⟩ ⟨l, hp'⟩ := (I03 (fun _ _ e => e) (fun _ _ x => h.mem_iff.mp x) (fun x => ((h.map _).nodup_iff).mpr x))
theorem St.le.trans {a b d : St} (x : a.le b) (y : b.le d) : a.le d := (I03 (fun z Z e => x.1 z Z (y.1 z Z e)) (fun z o e => x.2.1 z o (y.2.1 z o e)) (fun e => y.2.2 (x.2.2 e)))
theorem St.le.refl (a : St) : a.le a := (I03 (fun _ _ e => e) (fun _ _ e => e) id)
structure DefD where
 params : Arguments
 body : List Stmt
 scope : Scope
noncomputable def defD : Option Stmt → DefD
 | some (.FunctionDef _ a b _ _ _ sc _ _ _) => ⟨a, b, sc⟩
 | _ => ⟨default, [], default⟩
noncomputable def clsBody : Option Stmt → List Stmt
 | some (.ClassDef _ _ _ b _ _ _ _ _ _ _) => b
 | _ => []
noncomputable def fdOf (D : DefD) (nm qual : Str) (pm code doc : Value) : FuncData :=
 { name := nm, qualname := qual, params := D.params, body := .stmts D.body, scope := D.scope, globals := mainGlobals, closure := [], defaults := .none, kwdefaults := .none, doc, pyModule := pm, code, builtins := builtinsNs }
noncomputable def IsFn (c : Cx) (a : Addr) (D : DefD) : Prop := ∃ nm qual pm code doc, MethAt c a (fdOf D nm qual pm code doc)
structure DefK (D : DefD) (ps : List Str) (body : List Stmt) : Prop where
 body : D.body = body
 fn : D.scope.kind = .function
 co : D.scope.isCoroutine = false
 gen : D.scope.isGenerator = false
 bind : ∀ nm qual pm code doc (vs : List Value), vs.length = ps.length → bindArgs (fdOf D nm qual pm code doc) ⟨vs, []⟩ = pure (ps.zip vs)
 nodup : ps.Nodup
 kinds : ∀ p ∈ ps, D.scope.names.lookup p = some .local ∨ D.scope.names.lookup p = some .cell
 noFree : ∀ p ∈ D.scope.names, p.2 ≠ .free
noncomputable def envD (D : DefD) (qual : Str) (code : Value) (L a : Addr) : Env := newEnv D.scope L mainGlobals (cellsFrom (L + 1) D.scope.names []) (qual ++ ".<locals>.") (some a) code none builtinsNs
theorem call_def {a : Addr} {D : DefD} {n : Nat} {ps : List Str} {Xs : List V} {H : List (Addr × O)} {post : V → List (Addr × O) → Prop} {body : List Stmt} (F : IsFn c a D) (K : DefK D ps body) (hlen : Xs.length = ps.length)
  (h : ∀ A qual code L, Rm n A → WSs c A (envD D qual code L a) ⟨ps.zip Xs, H⟩ body fun f σ => ∃ τ, σ.le τ ∧ post (retV f) τ.hp) : CallSpec c (n + 1) a H Xs post := by
 refine E51 F fun nm qual pm code doc M => ?_; clear F
 refine call_intro (ps := ps) (body := body) M.fn ⟨?_, rfl, rfl, rfl, K.fn, K.co, K.gen, K.bind nm qual pm code doc, K.nodup, K.kinds, K.noFree⟩ hlen fun A L hR => ?_
 ·show FuncBody.stmts D.body = _
  rw [K.body]
 ·exact WP.fin (h A qual code L hR)
end
end Mine
end
noncomputable section
namespace Mine
open PySem PySem.SeqAt
theorem hset_mid {pre post : List (Addr × O)} {d : Addr} {o o' : O} (hnd : ((pre ++ (d, o) :: post).map (·.1)).Nodup) : hset (pre ++ (d, o) :: post) d o' = pre ++ (d, o') :: post := by
 have h1 : ∀ (l : List (Addr × O)), (∀ e ∈ l, e.1 ≠ d) → hset l d o' = l := by
  intro l hl
  unfold hset
  have : ∀ e ∈ l, (if e.1 = d then (d, o') else e) = e := fun e he => if_neg (hl e he)
  rw [List.map_congr_left this, List.map_id']
 rw [List.map_append, List.nodup_append] at hnd
 refine E03 hnd fun _ h2 h3 => ?_; clear hnd
 simp only [List.map_cons, List.nodup_cons] at h2
 have e : hset (pre ++ (d, o) :: post) d o' = hset pre d o' ++ (d, o') :: hset post d o' := by
  unfold hset
  rw [List.map_append, List.map_cons]
  simp
 rw [e, h1 pre, h1 post]
 ·intro e he h; exact h2.1 (h ▸ List.mem_map_of_mem (f := (·.1)) he)
 ·intro e he h; exact h3 e.1 (List.mem_map_of_mem (f := (·.1)) he) d (by simp) h
section
variable {c : Cx} {A : Around} {env : Env} {σ : St}
theorem WSs.nd {sts : List Stmt} {k : FV → St → Prop} (h : (σ.hp.map (·.1)).Nodup → WSs c A env σ sts k) : WSs c A env σ sts k := WP.nd h
theorem WSs.weak {sts : List Stmt} {k : FV → St → Prop} {τ : St} (h : WSs c A env τ sts k) (hle : σ.le τ) : WSs c A env σ sts k := WP.weak h hle
theorem wSs_cut {Γ : Type} (S : Γ → St) (M : Γ → Prop) {st : Stmt} {rest : List Stmt} {k : FV → St → Prop} (h1 : WS c A env σ st fun f σ' => f = .next ∧ ∃ γ, σ'.le (S γ) ∧ M γ) (h2 : ∀ γ, M γ → WSs c A env (S γ) rest k) : WSs c A env σ (st :: rest) k := by
 refine wSs_cons (WP.imp h1 fun f σ' h => ?_)
 refine E02 h fun z0 y0 => E12 y0 fun γ hle hm => ?_; clear h; subst z0
 exact WSs.weak (h2 γ hm) hle
end
theorem le_lp {l l' : List (Str × V)} {H H' : List (Addr × O)} (h : Sub l' l) (hp : H'.Perm H) : St.le ⟨l, H⟩ ⟨l', H'⟩ := (le_loc h).trans (le_perm hp)
section
variable {c : Cx} {A : Around} {hp : List (Addr × O)}
theorem inS {Z : Addr → Prop} {s : Shared} {a : Addr} {k : Str} {t : Tok} {xs : List Str} {b : Bool} {Q : Value → Shared → Prop} {E : Value → Shared → Prop} (hS : SetL c s.heap a xs) (hb : b = true ↔ k ∈ xs) (h : ∀ tk, Q (.bool b) { s with toks := tk }) : wpAny c.M A (compareOp .In (.str k t) (.ref a)) Q E s := by
 have := hS.setOf
 refine wpAny_inSet_of (knd := c.K) (k := k) (strKind_is _ _ k t) rfl this ?_
 have e : decide (k ∈ xs) = b := by cases b <;> simp_all
 rw [e]; exact h _
theorem notinS {Z : Addr → Prop} {s : Shared} {a : Addr} {k : Str} {t : Tok} {xs : List Str} {b : Bool} {Q : Value → Shared → Prop} {E : Value → Shared → Prop} (hS : SetL c s.heap a xs) (hb : b = true ↔ k ∉ xs) (h : ∀ tk, Q (.bool b) { s with toks := tk }) : wpAny c.M A (compareOp .NotIn (.str k t) (.ref a)) Q E s := by
 have := hS.setOf
 refine wpAny_notInSet_of (knd := c.K) (k := k) (strKind_is _ _ k t) rfl this ?_
 have e : (!decide (k ∈ xs)) = b := by cases b <;> simp_all
 rw [e]; exact h _
theorem cmp_eq_str {x y : Str} : CmpV c A hp .Eq (.str x) (.str y) (decide (x = y)) := cmp_eq (T := .str) (.str _) (.str _) (by simp)
theorem cmp_ne_str {x y : Str} : CmpV c A hp .NotEq (.str x) (.str y) (!decide (x = y)) := cmp_ne (T := .str) (.str _) (.str _) (by simp)
theorem cmp_eq_int {x y : Int} : CmpV c A hp .Eq (.int x) (.int y) (decide (x = y)) := cmp_eq (T := .int) (.int _) (.int _) (by simp)
theorem ht_strs (xs : List Str) : ∀ y ∈ xs.map V.str, HT .str y := by
 intro y hy; refine E12 (List.mem_map.mp hy) fun s _ z2 => ?_; subst z2; exact .str s
theorem mem_strs {k : Str} {xs : List Str} : V.str k ∈ xs.map V.str ↔ k ∈ xs := by
 simp
theorem cmp_in_strs {k : Str} {xs : List Str} : CmpV c A hp .In (.str k) (.lst (xs.map .str)) (decide (k ∈ xs)) := cmp_in_lst (T := .str) (.str _) (ht_strs _) (by rw [decide_eq_true_eq, mem_strs])
theorem cmp_notin_strs {k : Str} {xs : List Str} : CmpV c A hp .NotIn (.str k) (.lst (xs.map .str)) (!decide (k ∈ xs)) := cmp_notin_lst (T := .str) (.str _) (ht_strs _) (by rw [decide_eq_true_eq, mem_strs])
theorem cmp_in_set {k : Str} {xs : List Str} {b : Bool} (hb : b = true ↔ k ∈ xs) : CmpV c A hp .In (.str k) (.set xs) b := by
 intro hA Z P s x y _ rX rY Q E h
 cases rX; cases rY with | set z hS => exact inS (Z := Z) hS hb h
theorem cmp_in_oset {a : Addr} {k : Str} {xs : List Str} {b : Bool} (ha : (a, O.set xs) ∈ hp) (hb : b = true ↔ k ∈ xs) : CmpV c A hp .In (.str k) (.ref a) b := by
 intro hA Z P s x y H rX rY Q E h
 cases rX; cases rY; exact inS (Z := Z) (H.obj a _ ha).1 hb h
theorem cmp_notin_oset {a : Addr} {k : Str} {xs : List Str} {b : Bool} (ha : (a, O.set xs) ∈ hp) (hb : b = true ↔ k ∉ xs) : CmpV c A hp .NotIn (.str k) (.ref a) b := by
 intro hA Z P s x y H rX rY Q E h
 cases rX; cases rY; exact notinS (Z := Z) (H.obj a _ ha).1 hb h
end
noncomputable def gadd : List (Str × List Str) → Str → Str → List (Str × List Str)
 | [], p, s => [(p, [s])]
 | (q, xs) :: r, p, s => if q = p then (q, sadd xs s) :: r else (q, xs) :: gadd r p s
noncomputable def grp (l : List (Str × Str)) : List (Str × List Str) := l.foldl (fun G q => gadd G q.1 q.2) []
noncomputable def gget (G : List (Str × List Str)) (p : Str) : Option (List Str) := (G.find? fun g => decide (g.1 = p)).map (·.2)
noncomputable abbrev GA := List (Str × Addr × List Str)
noncomputable def GA.er (G : GA) : List (Str × List Str) := G.map fun g => (g.1, g.2.2)
noncomputable def GA.es (G : GA) : List (Str × V) := G.map fun g => (g.1, V.ref g.2.1)
noncomputable def GA.sets (G : GA) : List (Addr × O) := G.map fun g => (g.2.1, O.set g.2.2)
noncomputable def GA.hp (d : Addr) (G : GA) : List (Addr × O) := (d, .dct G.es) :: G.sets
theorem GA.split : ∀ (G : GA) (p : Str), (gget G.er p = none ∧ dget G.es p = none ∧ ∀ s, gadd G.er p s = G.er ++ [(p, [s])]) ∨
  ∃ pre x xs post, G = pre ++ (p, x, xs) :: post ∧ gget G.er p = some xs ∧ dget G.es p = some (.ref x) ∧ ∀ s, gadd G.er p s = GA.er (pre ++ (p, x, sadd xs s) :: post)
 | [], p => .inl (I03 rfl rfl (fun _ => rfl))
 | (q, x, xs) :: r, p => by
  by_cases h : q = p
  ·subst h
   refine .inr (I44 [] x xs r rfl ?_ ?_ (fun s => ?_))
   ·simp [GA.er, gget]
   ·simp [GA.es, dget]
   ·simp [GA.er, gadd]
  ·rcases GA.split r p with ⟨h1, h2, h3⟩ | ⟨pre, y, ys, post, h0, h1, h2, h3⟩
   ·refine .inl (I03 ?_ ?_ (fun s => ?_))
    ·simp only [GA.er, gget, List.map_cons, List.find?_cons, h, decide_false] at h1 ⊢; exact h1
    ·simp only [GA.es, dget, List.map_cons, List.find?_cons, h, decide_false] at h2 ⊢; exact h2
    ·have := h3 s
     simp only [GA.er, List.map_cons, gadd, h, if_false] at this ⊢; rw [this]; rfl
   ·refine .inr (I44 ((q, x, xs) :: pre) y ys post (by rw [h0]; rfl) ?_ ?_ (fun s => ?_))
    ·simp only [GA.er, gget, List.map_cons, List.find?_cons, h, decide_false] at h1 ⊢; exact h1
    ·simp only [GA.es, dget, List.map_cons, List.find?_cons, h, decide_false] at h2 ⊢; exact h2
    ·have := h3 s
     simp only [GA.er, List.map_cons, gadd, h, if_false, List.cons_append] at this ⊢; rw [this]
theorem GA.sets_mid (pre post : GA) (p : Str) (x : Addr) (xs : List Str) : GA.sets (pre ++ (p, x, xs) :: post) = pre.sets ++ (x, O.set xs) :: post.sets := by simp [GA.sets]
theorem GA.es_mid (pre post : GA) (p : Str) (x : Addr) (xs ys : List Str) : GA.es (pre ++ (p, x, xs) :: post) = GA.es (pre ++ (p, x, ys) :: post) := by simp [GA.es]
theorem dset_new {es : List (Str × V)} {k : Str} {X : V} (h : dget es k = none) : dset es k X = es ++ [(k, X)] := by
 unfold dset
 rw [if_neg]
 intro h1
 refine E12 (List.any_eq_true.mp h1) fun e he h2 => ?_
 unfold dget at h
 simp only [Option.map_eq_none_iff] at h
 have := List.find?_eq_none.mp h e he
 exact this h2
structure Rt where
 nm : Str
 st : Str
 ov : List Str
 nd : List (Str × Str)
 via : Str
noncomputable def prs (l : List (Str × Str)) : List V := RdPairs (l.map fun p => (p.1, V.str p.2))
noncomputable def Rt.v (r : Rt) : V := .tup [.str r.nm, .str r.st, .lst (r.ov.map .str), .lst (prs r.nd), .str r.via]
theorem prs_len (l : List (Str × Str)) : (prs l).length = l.length := by simp [prs, RdPairs]
noncomputable def needClash (G : List (Str × List Str)) (nd : List (Str × Str)) : Bool := nd.any fun q => match gget G q.1 with | some xs => decide (xs.length > 1) || decide (q.2 ∉ xs) | none => false
noncomputable def clashB (a b : Rt) : Bool := a.ov.any (fun s => decide (s ∈ b.ov)) || decide (a.st = b.st) || needClash (grp a.nd) b.nd
theorem mem_sof (k : Str) (xs : List Str) : k ∈ sof xs ↔ k ∈ xs := by
 have h : ∀ (xs acc : List Str), k ∈ xs.foldl sadd acc ↔ k ∈ acc ∨ k ∈ xs := by
  intro xs
  induction xs with
  | nil => simp
  | cons x xs ih =>
   intro acc
   rw [List.foldl_cons, ih]
   unfold sadd
   split
   ·rename_i hx
    constructor
    ·rintro (h | h)
     ·exact .inl h
     ·exact .inr (.tail _ h)
    ·rintro (h | h)
     ·exact .inl h
     ·rcases List.mem_cons.mp h with rfl | h
      ·exact .inl hx
      ·exact .inr h
   ·simp only [List.mem_append, List.mem_cons, List.not_mem_nil, or_false, or_assoc]
 unfold sof
 rw [h]; simp
end Mine
end
noncomputable section
namespace Mine
open PySem PySem.SeqAt
theorem le_ls {l l' : List (Str × V)} {H H' : List (Addr × O)} (h : Sub l' l) (hs : H'.Sublist H) : St.le ⟨l, H⟩ ⟨l', H'⟩ := (le_loc h).trans (le_hp hs)
structure Ad where
 x : Addr
 dx : Addr
 rd : Addr
 pd : Addr
 od : Addr
 hd : Addr
structure Row where
 nm : Str
 a : Addr
 b : Addr
 left : List Str
 e : Int
 w : Int
noncomputable def Row.hp (r : Row) : List (Addr × O) := [(r.a, .lst [.ref r.b, .int r.e, .int r.w]), (r.b, .lst (r.left.map .str))]
noncomputable def rowsHp (rows : List Row) : List (Addr × O) := rows.flatMap Row.hp
noncomputable def rowsEs (rows : List Row) : List (Str × V) := rows.map fun r => (r.nm, V.ref r.a)
noncomputable def nsM (ad : Ad) (lay : V) : List (Str × V) := [("lay", lay), ("r", .ref ad.rd), ("pos", .ref ad.pd), ("occ", .ref ad.od), ("held", .ref ad.hd)]
noncomputable def mhp' (C : Addr) (ad : Ad) (lay : V) (rs pos : List (Str × V)) (occ : List Str) (rows : List Row) : List (Addr × O) :=
 (ad.x, .inst C ad.dx) :: (ad.dx, .ns (nsM ad lay)) :: (ad.rd, .dct rs) :: (ad.pd, .dct pos) :: (ad.od, .set occ) :: rowsHp rows
noncomputable def mhp (C : Addr) (ad : Ad) (lay : V) (rs pos : List (Str × V)) (occ : List Str) (rows : List Row) : List (Addr × O) :=
 (ad.hd, .dct (rowsEs rows)) :: mhp' C ad lay rs pos occ rows
theorem mem_rowA {rows : List Row} {r : Row} (h : r ∈ rows) : (r.a, O.lst [.ref r.b, .int r.e, .int r.w]) ∈ rowsHp rows := List.mem_flatMap.mpr (I12 r h (.head _))
theorem mem_rowB {rows : List Row} {r : Row} (h : r ∈ rows) : (r.b, O.lst (r.left.map .str)) ∈ rowsHp rows := List.mem_flatMap.mpr (I12 r h (.tail _ (.head _)))
section
variable {C : Addr} {ad : Ad} {lay : V} {rs pos : List (Str × V)} {occ : List Str} {rows : List Row}
theorem mem_rows' {e : Addr × O} (h : e ∈ rowsHp rows) : e ∈ mhp' C ad lay rs pos occ rows := .tail _ (.tail _ (.tail _ (.tail _ (.tail _ h))))
theorem mem_rows {e : Addr × O} (h : e ∈ rowsHp rows) : e ∈ mhp C ad lay rs pos occ rows := .tail _ (mem_rows' h)
theorem mem_x' : (ad.x, O.inst C ad.dx) ∈ mhp' C ad lay rs pos occ rows := .head _
theorem mem_ns' : (ad.dx, O.ns (nsM ad lay)) ∈ mhp' C ad lay rs pos occ rows := .tail _ (.head _)
theorem mem_rd' : (ad.rd, O.dct rs) ∈ mhp' C ad lay rs pos occ rows := .tail _ (.tail _ (.head _))
theorem mem_pd' : (ad.pd, O.dct pos) ∈ mhp' C ad lay rs pos occ rows := .tail _ (.tail _ (.tail _ (.head _)))
theorem mem_od' : (ad.od, O.set occ) ∈ mhp' C ad lay rs pos occ rows := .tail _ (.tail _ (.tail _ (.tail _ (.head _))))
theorem mem_x : (ad.x, O.inst C ad.dx) ∈ mhp C ad lay rs pos occ rows := .tail _ mem_x'
theorem mem_ns : (ad.dx, O.ns (nsM ad lay)) ∈ mhp C ad lay rs pos occ rows := .tail _ mem_ns'
theorem mem_rd : (ad.rd, O.dct rs) ∈ mhp C ad lay rs pos occ rows := .tail _ mem_rd'
theorem mem_pd : (ad.pd, O.dct pos) ∈ mhp C ad lay rs pos occ rows := .tail _ mem_pd'
theorem mem_od : (ad.od, O.set occ) ∈ mhp C ad lay rs pos occ rows := .tail _ mem_od'
theorem mem_hd : (ad.hd, O.dct (rowsEs rows)) ∈ mhp C ad lay rs pos occ rows := .head _
end
theorem tl_lay : typeLookup (.type "object") "lay" = pure none := by rw [typeLookup_type, builtinLookup_eq_fast]; kernel_rfl
theorem tl_r : typeLookup (.type "object") "r" = pure none := by rw [typeLookup_type, builtinLookup_eq_fast]; kernel_rfl
theorem tl_pos : typeLookup (.type "object") "pos" = pure none := by rw [typeLookup_type, builtinLookup_eq_fast]; kernel_rfl
theorem tl_occ : typeLookup (.type "object") "occ" = pure none := by rw [typeLookup_type, builtinLookup_eq_fast]; kernel_rfl
theorem tl_held : typeLookup (.type "object") "held" = pure none := by rw [typeLookup_type, builtinLookup_eq_fast]; kernel_rfl
theorem tl_out : typeLookup (.type "object") "_out" = pure none := by rw [typeLookup_type, builtinLookup_eq_fast]; kernel_rfl
theorem tl_busy : typeLookup (.type "object") "_busy" = pure none := by rw [typeLookup_type, builtinLookup_eq_fast]; kernel_rfl
theorem tl_locked : typeLookup (.type "object") "_locked" = pure none := by rw [typeLookup_type, builtinLookup_eq_fast]; kernel_rfl
theorem tl_set : typeLookup (.type "object") "_set" = pure none := by rw [typeLookup_type, builtinLookup_eq_fast]; kernel_rfl
theorem tl_cancel : typeLookup (.type "object") "_cancel" = pure none := by rw [typeLookup_type, builtinLookup_eq_fast]; kernel_rfl
theorem tl_tick : typeLookup (.type "object") "_tick" = pure none := by rw [typeLookup_type, builtinLookup_eq_fast]; kernel_rfl
theorem tl_enter : typeLookup (.type "object") "_enter" = pure none := by rw [typeLookup_type, builtinLookup_eq_fast]; kernel_rfl
theorem tl_leave : typeLookup (.type "object") "_leave" = pure none := by rw [typeLookup_type, builtinLookup_eq_fast]; kernel_rfl
theorem tl_move : typeLookup (.type "object") "_move" = pure none := by rw [typeLookup_type, builtinLookup_eq_fast]; kernel_rfl
structure Lay where
 secs : List Str
 pts : List (Str × Str)
 sigs : List (Str × Str)
 rts : List Rt
noncomputable def Lay.v (l : Lay) : V := .tup [.lst (l.secs.map .str), .lst (prs l.pts), .lst (prs l.sigs), .lst (l.rts.map Rt.v)]
structure Held where
 nm : Str
 left : List Str
 e : Int
 w : Int
noncomputable def Held.v (h : Held) : V := .tup [.str h.nm, .lst (h.left.map .str), .int h.e, .int h.w]
structure Sta where
 pos : List (Str × Str)
 occ : List Str
 held : List Held
noncomputable def Sta.v (s : Sta) : V := .tup [.lst (prs s.pos), .lst (s.occ.map .str), .lst (s.held.map Held.v)]
noncomputable def tset (l : List (Str × Str)) (k v : Str) : List (Str × Str) := if l.any (fun e => e.1 = k) then l.map (fun e => if e.1 = k then (e.1, v) else e) else l ++ [(k, v)]
noncomputable def tfold (ps l : List (Str × Str)) : List (Str × Str) := ps.foldl (fun l p => tset l p.1 p.2) l
noncomputable def tget (l : List (Str × Str)) (k : Str) : Option Str := (l.find? fun e => decide (e.1 = k)).map (·.2)
noncomputable def tv (l : List (Str × Str)) : List (Str × V) := l.map fun p => (p.1, V.str p.2)
theorem tv_set (l : List (Str × Str)) (k v : Str) : dset (tv l) k (.str v) = tv (tset l k v) := by
 unfold dset tset tv
 have : (l.map fun p => (p.1, V.str p.2)).any (fun e => decide (e.1 = k)) = l.any (fun e => decide (e.1 = k)) := by rw [List.any_map]; rfl
 rw [this]
 split
 ·rw [List.map_map, List.map_map]
  refine List.map_congr_left fun p _ => ?_
  simp only [Function.comp]
  split <;> rfl
 ·simp
theorem tv_fold (ps l : List (Str × Str)) : dfold (tv ps) (tv l) = tv (tfold ps l) := by
 induction ps generalizing l with
 | nil => rfl
 | cons p ps ih =>
  show dfold (tv ps) (dset (tv l) p.1 (.str p.2)) = _
  rw [tv_set, ih]; rfl
theorem tv_get (l : List (Str × Str)) (k : Str) : dget (tv l) k = (tget l k).map V.str := by
 unfold dget tget tv
 rw [List.find?_map]
 simp only [Option.map_map]
 rfl
theorem tget_set (l : List (Str × Str)) (k v j : Str) : tget (tset l k v) j = if j = k then some v else tget l j := by
 unfold tset
 split
 ·rename_i h
  induction l with
  | nil => simp at h
  | cons p l ih =>
   have tc : ∀ (q : Str × Str) (r : List (Str × Str)), tget (q :: r) j = if q.1 = j then some q.2 else tget r j := by
    intro q r; unfold tget; rw [List.find?_cons]; by_cases hq : q.1 = j <;> simp [hq]
   rw [List.map_cons, tc, tc]
   by_cases hp : p.1 = k
   ·simp only [hp, if_true]
    by_cases hj : j = k
    ·simp [hj]
    ·have : ¬ k = j := fun e => hj e.symm
     simp only [this, if_false, hj]
     by_cases h2 : l.any (fun e => decide (e.1 = k)) = true
     ·rw [ih h2]; simp [hj]
     ·have e : l.map (fun e => if e.1 = k then (e.1, v) else e) = l := by
       have : ∀ e ∈ l, (if e.1 = k then (e.1, v) else e) = e := fun e he => if_neg fun h3 => h2 (List.any_eq_true.mpr (I12 e he (decide_eq_true h3)))
       rw [List.map_congr_left this, List.map_id']
      rw [e]
   ·simp only [hp, if_false]
    have h2 : l.any (fun e => decide (e.1 = k)) = true := by simpa [hp] using h
    rw [ih h2]
    by_cases hj : j = k
    ·subst hj; simp [hp]
    ·simp [hj]
 ·rename_i h
  unfold tget
  rw [List.find?_append]
  have hn : l.find? (fun e => decide (e.1 = k)) = none := by
   rw [List.find?_eq_none]
   intro e he h2
   exact h (List.any_eq_true.mpr (I12 e he h2))
  by_cases hj : j = k
  ·subst hj; rw [hn]; simp
  ·have : ¬ k = j := fun e => hj e.symm
   simp [hj, this]
theorem tget_fold_some (ps l : List (Str × Str)) (k : Str) : (tget (tfold ps l) k).isSome = (decide (k ∈ ps.map (·.1)) || (tget l k).isSome) := by
 induction ps generalizing l with
 | nil => simp [tfold]
 | cons p ps ih =>
  show (tget (tfold ps (tset l p.1 p.2)) k).isSome = _
  rw [ih, tget_set]
  by_cases h : k = p.1
  ·subst h; simp
  ·simp only [h, if_false, List.map_cons, List.mem_cons, false_or]
end Mine
end
noncomputable section
namespace Mine
open PySem PySem.SeqAt PyProof.Rows
theorem StrsAre.snoc {vs : List Value} {ss : List Str} (h : StrsAre vs ss) (k : Str) (t : Tok) : StrsAre (vs ++ [.str k t]) (ss ++ [k]) := by
 induction h with
 | nil => exact .cons k t .nil
 | cons y u _ ih => exact .cons y u ih
theorem StrsAre.rd {c : Cx} {Z : Addr → Prop} {h : Heap} {vs : List Value} {ss : List Str} (x : StrsAre vs ss) : RdL c Z h (ss.map .str) vs := by
 induction x with
 | nil => exact .nil
 | cons y t _ ih => exact .cons (.str y t) ih
theorem StrsAre.of {c : Cx} {Z : Addr → Prop} {h : Heap} : ∀ {ss : List Str} {vs : List Value}, RdL c Z h (ss.map .str) vs → StrsAre vs ss
 | [], _, .nil => .nil
 | s :: ss, _, .cons r rs => by cases r; exact .cons _ _ (StrsAre.of rs)
theorem StrsAre.len {vs : List Value} {ss : List Str} (x : StrsAre vs ss) : vs.length = ss.length := by
 induction x with
 | nil => rfl
 | cons y t _ ih => simp [ih]
section
variable {c : Cx} {A : Around} {E : Value → Shared → Prop} {s : Shared}
theorem f_sorted_lst {hp : List (Addr × O)} {ss : List Str} (hl : ss.length < 64) : ∀ (_ : AOk A) (Z P : Addr → Prop) (s : Shared) (vs : List Value), (Z sysModules ∧ ∀ b, Z b → ∃ o, s.heap.get? b = some o) → HpR c Z P s.heap hp → RdL c Z s.heap [.lst (ss.map .str)] vs →
  ∀ Q E, (∀ ss' a h' tk dr, ss'.Perm ss → sortedS ss' = true → Kp s.heap h' → s.heap.get? a = none → RdO c Z h' a (.lst (ss'.map .str)) → Q (.ref a) { s with heap := h', toks := tk, drawn := dr }) → wpAny c.M A (call (.builtin "sorted") vs) Q E s := by
 intro hA Z P s vs hZ H r Q E hQ
 refine RdL.one_elim r fun v r1 => ?_
 refine Rd.lst_elim r1 fun a items z i ri => ?_
 have hS := StrsAre.of ri
 refine sorted_strs (l := a) (vs := items.toList) (ss := ss) (by simpa using i.isList) hS (by rw [Mine.StrsAre.len hS]; exact hl) fun out ss' h1 h2 h3 => ?_
 obtain ⟨e, he⟩ := sortedAll_at s.heap items.toList out
 refine hQ ss' _ _ s.toks s.drawn h2 h3 (fun b o hb => sortedAll_old hb) (fresh_none _ _ (by omega)) (I12 out ⟨e, he⟩ (Mine.StrsAre.rd h1))
theorem extend_strs {R : Result → Shared → Prop} {Z : Addr → Prop} {h₀ : Heap} {I S : Addr} {fp : List Addr} {Stt : Nat → Heap → Prop} {x : Str} {p : Pos} {ks : List Str} {res : Value} (W : Iter c A.in1 (.Name x p) I fp (ks.map .str) Stt Z h₀) (hSf : S ∉ fp) (hSI : S ≠ I) (hZS : ¬ Z S) (hl : ks.length ≤ 1000) (hZI : ¬ Z I) :
  ∀ (k i : Nat) (s : Shared) (acc : Array Value) (c₀ : Nat), ks.length - i = k → i ≤ ks.length → Stt i s.heap → (∀ b o, Z b → h₀.get? b = some o → s.heap.get? b = some o) → s.heap.get? S = some (seqObj "list" acc c₀) → StrsAre acc.toList (ks.take i) →
   (∀ h' tk acc' c', (∀ b o, b ≠ S → b ≠ I → s.heap.get? b = some o → h'.get? b = some o) → h'.get? S = some (seqObj "list" acc' c') → StrsAre acc'.toList ks → R (.ok (.ret res)) { s with heap := h', toks := tk }) →
   codeAny c.M A (.builtin "list.extend.loop" ⟨[.ref S, .ref I, res], []⟩) R s := by
 have hsl : sizeLine > 2000 := by decide
 intro k
 induction k with
 | zero =>
  intro i s acc c₀ hk hi hst hZ hS hacc hR
  have hin : i = ks.length := oz hk hi
  subst hin
  refine codeAny_builtin PySem.F.entry_extend_loop ?_
  rw [Around.under_plainId PySem.F.plain_extend_loop _]
  show wpAny _ A.in1 (pyNext (.ref I) >>= _) _ _ s
  refine wpAny_bind (W.done s _ _ (by simpa using hst) fun h' tk hm => ?_)
  refine wpAny_pure (hR h' tk acc c₀ (fun b o _ hb e => hm b o hb e) (hm S _ hSI hS) ?_)
  rw [List.take_of_length_le (Nat.le_refl _)] at hacc
  exact hacc
 | succ k ih =>
  intro i s acc c₀ hk hi hst hZ hS hacc hR
  have hlt : i < ks.length := ol hk
  have hx : (ks.map V.str)[i]? = some (.str ks[i]) := by simp [hlt]
  refine codeAny_builtin PySem.F.entry_extend_loop ?_
  rw [Around.under_plainId PySem.F.plain_extend_loop _]
  show wpAny _ A.in1 (pyNext (.ref I) >>= _) _ _ s
  refine wpAny_bind (wpAny_mono (W.item i (.str ks[i]) s Z (fun v s₁ => wpAny c.M A.in1 (do updateSeq S (·.push v); again (.builtin "list.extend.loop" ⟨[.ref S, .ref I, res], []⟩)) (fun fin s' => match fin with | .done f => R (.ok f) s' | .again c' => c'.quiet = true ∧ codeAny c.M A c' R s') (fun e s' => R (.error e) s') s₁) _ hx hst (fun _ z => z) hZ ?_) ?_ fun _ _ x => x)
  ·intro v h' tk N hst' hm hN rd
   refine Rd.str_elim rd fun t => ?_
   have hS' := hm S _ hSI hS
   refine wpAny_bind ?_
   refine wpAny_updateSeq hS' rfl ?_ ?_ ?_
   ·have hS2 := Heap.get?_update_self (Obj.mapSeq (·.push (Value.str ks[i] t))) hS' (by rfl)
    have hs2 : Heap.SameBut S h' (h'.update S (Obj.mapSeq (·.push (Value.str ks[i] t)))) := Heap.SameBut.update ..
    refine wpAny_pure ⟨plainId_quiet PySem.F.plain_extend_loop _, ih (i + 1) _ (acc.push (.str ks[i] t)) _ (os hk) hlt (W.frame _ _ _ hst' fun b hb o e => hs2.extBut b o (fun e' => hSf (e' ▸ hb)) e) (fun b o z e => hs2.extBut b o (fun e' => hZS (e' ▸ z)) (hm b o (fun e' => hZI (e' ▸ z)) (hZ b o z e))) hS2 ?_ fun h'' tk'' acc' c' hm'' hS'' hacc' => ?_⟩
    ·rw [Array.toList_push, List.take_add_one, List.getElem?_eq_getElem hlt]
     exact StrsAre.snoc hacc _ t
    ·exact hR h'' tk'' acc' c' (fun b o hb hb' e => hm'' b o hb hb' (hs2.extBut b o hb (hm b o hb' e))) hS'' hacc'
   ·have := StrsAre.len hacc
    simp only [Array.length_toList, List.length_take] at this
    omega
   ·have := StrsAre.len hacc
    simp only [Array.length_toList, List.length_take] at this
    show (acc.push _).size ≤ _
    rw [Array.size_push]; omega
  ·intro r s₁ h
   cases r with
   | none => exact h.elim
   | some v => exact wpAny_bind (m := (pure () : Sem Unit)) h
theorem hint_set {a : Addr} {Q : Bool → Shared → Prop} (hT : s.TypeIs (.ref a) "set") (h : Q false s) : wpAny c.M A (Builtin.List.listLengthHint (.ref a)) Q E s := by
 unfold Builtin.List.listLengthHint
 refine wpAny_bind (wpAny_specialOf hT PySem.F.slot_set_len.lookup ?_)
 generalize hid : ("set.__len__" : String) = id0
 wp_delta
 rw [show splitId id0 = some ("set", "__len__") from by subst hid; decide +kernel]
 subst hid
 refine wpAny_bind (wpAny_isInstance (T := "set") (b := true) hT (by rw [isSubtype_type]; kernel_rfl) ?_)
 refine wpAny_ite_split (fun hab => absurd hab (by decide)) (fun _ => ?_)
 refine wpAny_ite_split (fun _ => ?_) (fun hab => absurd (by decide +kernel) hab)
 refine wpAny_bind (wpAny_typeOf hT ?_)
 exact wpAny_pure h
theorem collect_set {a : Addr} {xs : List Str} {Q : List Value → Shared → Prop} (hh : A.handled = none) (hS : SetL c s.heap a xs) (hlen : xs.length ≤ 1000)
  (h : ∀ vs ks h' tk dr, StrsAre vs ks → ks.Perm xs → Kp s.heap h' → Q vs { s with heap := h', toks := tk, drawn := dr }) : wpAny c.M A (collect (.ref a)) Q E s := by
 have hsl : sizeLine > 2000 := by decide
 refine E52 (id hS) fun oa _ _ _ _ hoa _ => ?_
 have hlt : a < s.heap.objs.size := Heap.lt_size hoa
 have hSa : s.heap.objs.size ≠ a := Nat.ne_of_gt hlt
 unfold collect
 refine wpAny_bind (wpAny_runValue (codeAny_builtin entry_proto_collect' ?_))
 show wpAny _ _ (do again (.builtin "list.__iadd__" ⟨[← newList [], .ref a], []⟩)) _ _ s
 refine wpAny_bind (wpAny_newList (wpAny_pure ⟨Code.quiet_builtin _ (by decide +kernel), codeAny_builtin entry_list_iadd' ?_⟩))
 rw [Around.under_plainId (by decide +kernel) _]
 show wpAny _ A.in1 (Builtin.List.listExtendWith (.ref s.heap.objs.size) (.ref a) (.ref s.heap.objs.size)) _ _ { s with heap := s.heap.push (seqObj "list" #[] 0) }
 have kp1 : Kp s.heap (s.heap.push (seqObj "list" #[] 0)) := Kp.push _ _
 have hS1 : SetL c (s.heap.push (seqObj "list" #[] 0)) a xs := hS.keep fun o => kp1 a o
 have hT1 : Shared.TypeIs { s with heap := s.heap.push (seqObj "list" #[] 0) } (.ref a) "set" := hS1.typeIs
 have hL1 : (s.heap.push (seqObj "list" #[] 0)).get? s.heap.objs.size = some (seqObj "list" #[] 0) := Heap.get?_push_size _ rfl
 unfold Builtin.List.listExtendWith
 refine wpAny_bind (wpAny_typeOf (T := "set") hT1 ?_)
 have e1 : Builtin.List.listSameRef (.ref s.heap.objs.size) (.ref a) = false := by simp [Builtin.List.listSameRef, hSa]
 simp only [e1, show (Value.type "set" == Value.type "list") = false by decide, show (Value.type "set" == Value.type "tuple") = false by decide, Bool.or_false, Bool.false_eq_true, if_false]
 refine wpAny_bind ((Seq2.set (A := A.in1) (target := .Name "x" ⟨0, 0, 0, 0⟩) (Z := fun b => b = a) (H := fun _ => False) (s := { s with heap := s.heap.push (seqObj "list" #[] 0) }) (by simpa using hh) rfl hS1 (.inl rfl) (by rintro b rfl; exact ⟨_, kp1 _ _ hoa⟩)).run _ _ ?_)
 rintro h₂ tk₂ dr₂ I fp Stt ys Nw kp2 hIn hIe hNw hfp hst ⟨ks, rfl, hks⟩ W
 have kp2' : Kp (s.heap.push (seqObj "list" #[] 0)) h₂ := kp2
 have hS2 : SetL c h₂ a xs := hS1.keep fun o => kp2' a o
 have hL2 := kp2' _ _ hL1
 have hIne : s.heap.objs.size ≠ I := fun e => by
  have h0 : (s.heap.push (seqObj "list" #[] 0)).get? I = none := hIn
  rw [← e, hL1] at h0; cases h0
 have hSf : s.heap.objs.size ∉ fp := fun hm => by
  rcases hfp _ hm with h | h | h | h
  ·exact hIne h
  ·exact hSa h
  ·exact h
  ·have h0 : (s.heap.push (seqObj "list" #[] 0)).get? s.heap.objs.size = none := (hNw _ h).2.1
   rw [hL1] at h0; cases h0
 have haI : a ≠ I := fun e => by
  have h0 : (s.heap.push (seqObj "list" #[] 0)).get? I = none := hIn
  rw [← e, kp1 _ _ hoa] at h0; cases h0
 refine wpAny_bind (wpAny_holding (hint_set (s := { s with heap := h₂, toks := tk₂, drawn := dr₂ }) hS2.typeIs ?_))
 have key : ∀ (R : Result → Shared → Prop) (h : Heap) (c₁ tk : Nat), Stt 0 h → (∀ b o, b ≠ s.heap.objs.size → h₂.get? b = some o → h.get? b = some o) → h.get? s.heap.objs.size = some (seqObj "list" #[] c₁) →
   (∀ h' tk' acc' c', Kp s.heap h' → h'.get? s.heap.objs.size = some (seqObj "list" acc' c') → StrsAre acc'.toList ks → R (.ok (.ret (.ref s.heap.objs.size))) { s with heap := h', toks := tk', drawn := dr₂ }) →
   codeAny c.M A (.builtin "list.extend.loop" ⟨[.ref s.heap.objs.size, .ref I, .ref s.heap.objs.size], []⟩) R { s with heap := h, toks := tk, drawn := dr₂ } := by
  intro R h c₁ tk hst' hk hL hR
  refine extend_strs (x := "x") (p := ⟨0, 0, 0, 0⟩) (Z := fun b => b = a) (h₀ := h₂) W hSf hIne hSa (by rw [hks.length_eq]; exact hlen) (fun e => haI e.symm) ks.length 0 { s with heap := h, toks := tk, drawn := dr₂ } #[] c₁ (by omega) (Nat.zero_le _) hst' (by rintro b o rfl e; exact hk _ o hSa.symm e) hL .nil fun h' tk' acc' c' hm hL' hacc => ?_
  exact hR h' tk' acc' c' (fun b o e => hm b o (Nat.ne_of_lt (Heap.lt_size e)) (fun e' => by
   have h0 : (s.heap.push (seqObj "list" #[] 0)).get? I = none := hIn
   rw [← e', kp1 _ _ e] at h0; cases h0) (hk b o (Nat.ne_of_lt (Heap.lt_size e)) (kp2' _ _ (kp1 _ _ e)))) hL' hacc
 refine wpAny_ite_split (fun _ => ?_) (fun _ => wpAny_pure ⟨plainId_quiet PySem.F.plain_extend_loop _, key _ h₂ 0 tk₂ hst (fun b o _ e => e) hL2 fun h' tk' acc' c' hk hL' hacc => wpAny_bind (wpAny_load hL' (wpAny_pure (h acc'.toList ks h' tk' dr₂ hacc hks hk)))⟩)
 refine wpAny_bind (wpAny_rule ?_)
 refine wpAny_bind ?_
 show wpAny _ _ (updateSeq s.heap.objs.size (·.push .none) >>= fun _ => updateSeq s.heap.objs.size (·.pop)) _ _ _
 refine wpAny_bind (wpAny_updateSeq hL2 rfl ?_ (by simp) (by simp))
 have hL3 := Heap.get?_update_self (Obj.mapSeq (·.push Value.none)) hL2 rfl
 refine wpAny_updateSeq hL3 rfl ?_ (by simp; omega) (by simp)
 have hL4 := Heap.get?_update_self (Obj.mapSeq (·.pop)) hL3 rfl
 refine wpAny_pure ⟨plainId_quiet PySem.F.plain_extend_loop _, key _ _ _ _ ?_ (fun b o hb e => ?_) hL4 fun h' tk' acc' c' hk hL' hacc => wpAny_bind (wpAny_load hL' (wpAny_pure (h acc'.toList ks h' tk' dr₂ hacc hks hk)))⟩
 ·refine W.frame 0 _ _ hst fun b hb o e => ?_
  have hbS : b ≠ s.heap.objs.size := fun h => hSf (h ▸ hb)
  exact (Heap.get?_update_other _ _ (Ne.symm hbS)).trans ((Heap.get?_update_other _ _ (Ne.symm hbS)).trans e)
 ·exact (Heap.get?_update_other _ _ (Ne.symm hb)).trans ((Heap.get?_update_other _ _ (Ne.symm hb)).trans e)
theorem sorted_set {a : Addr} {xs : List Str} {Q : Value → Shared → Prop} (hh : A.handled = none) (hS : SetL c s.heap a xs) (hlen : xs.length < 64)
  (h : ∀ ss b h' tk dr, ss.Perm xs → sortedS ss = true → Kp s.heap h' → s.heap.get? b = none → (∀ Z, RdO c Z h' b (.lst (ss.map .str))) → Q (.ref b) { s with heap := h', toks := tk, drawn := dr }) :
  wpAny c.M A (call (.builtin "sorted") [.ref a]) Q E s := by
 refine Calls.call_function_entry kind_sorted plain_sorted entry_sorted (args_sorted1 _) ?_
 unfold Builtin.«sorted»
 refine wpAny_bind (m := checkCount "sorted" 1 1 _) (wpAny_pure ?_)
 refine wpAny_bind (collect_set (by simpa using hh) hS (by omega) fun vs ks h' tk dr hvs hks hkp => ?_)
 have hvl : vs.length < 64 := by rw [Mine.StrsAre.len hvs, hks.length_eq]; exact hlen
 have hsl : sizeLine > 2000 := by decide
 refine wpAny_bind (wpAny_newList (hsz := by omega) ?_)
 have hoL : (h'.push (seqObj "list" vs.toArray 0)).get? h'.objs.size = some (seqObj "list" vs.toArray 0) := Heap.get?_push_size _ rfl
 refine wpAny_bind (wpAny_holding (wpAny_call_entry slot_list_sort (I12 _ hoL rfl) entry_list_sort (list_sort_treeK (s := { s with heap := h'.push (seqObj "list" vs.toArray 0), toks := tk, drawn := dr }) strKind_oneLt hoL hvs.keysOf (fun v₁ v₂ rest e => keyKind_strs (by rw [← e]; exact hvs)) hvl fun st' a1 a2 => (I12 _ rfl ?_)) (args_list_sort _)))
 refine E13 (sorted_out_str hvs a1 a2) fun ss s1 s2 s3 => ?_
 obtain ⟨e, he⟩ := sortedHeap_at (out := (arrOf st').map (·.2)) hoL
 refine wpAny_pure (I12 _ rfl (h ss h'.objs.size _ tk dr (s2.trans hks) s3 (fun b o hb => ?_) ?_ fun Z => (I12 _ ⟨e, he⟩ (Mine.StrsAre.rd s1))))
 ·have hb' := hkp b o hb
  have hlt := Heap.lt_size hb'
  rw [sortedHeap_old (Nat.ne_of_lt hlt) (by rw [Heap.size_push]; exact Nat.lt_succ_of_lt hlt)]
  exact Heap.get?_push_of_some _ hb'
 ·show s.heap.get? h'.objs.size = none
  cases e : s.heap.get? h'.objs.size with
  | none => rfl
  | some o => exact absurd (Heap.lt_size (hkp _ _ e)) (Nat.lt_irrefl _)
end
end Mine
end
noncomputable section
set_option maxRecDepth 100000
namespace Mine
open PySem PySem.SeqAt PyProof.Rows
section
variable {c : Cx} {A : Around} {E : Value → Shared → Prop} {s : Shared}
theorem hint_dict {a : Addr} {Q : Bool → Shared → Prop} (hT : s.TypeIs (.ref a) "dict") (h : Q false s) : wpAny c.M A (Builtin.List.listLengthHint (.ref a)) Q E s := by
 unfold Builtin.List.listLengthHint
 refine wpAny_bind (wpAny_specialOf hT PySem.F.slot_dict_len.lookup ?_)
 generalize hid : ("dict.__len__" : String) = id0
 wp_delta
 rw [show splitId id0 = some ("dict", "__len__") from by subst hid; decide +kernel]
 subst hid
 refine wpAny_bind (wpAny_isInstance (T := "dict") (b := true) hT (by rw [isSubtype_type]; kernel_rfl) ?_)
 refine wpAny_ite_split (fun hab => absurd hab (by decide)) (fun _ => ?_)
 refine wpAny_ite_split (fun _ => ?_) (fun hab => absurd (by decide +kernel) hab)
 refine wpAny_bind (wpAny_typeOf hT ?_)
 exact wpAny_pure h
theorem extend_keys {R : Result → Shared → Prop} {S d : Addr} {kvs : List (Str × Value)} {ep c₀ : Nat} {res : Value} (hA : A.handled = none) (hs : (d == sysModules) = false) (hd : s.heap.DictAt c.K d kvs ep) (hSd : S ≠ d) (hS : s.heap.get? S = some (seqObj "list" #[] c₀)) (hl : kvs.length ≤ 1000)
  (hR : ∀ h' tk dr acc c', (∀ b o, b ≠ S → s.heap.get? b = some o → h'.get? b = some o) → h'.get? S = some (seqObj "list" acc c') → StrsAre acc.toList (kvs.map (·.1)) → R (.ok (.ret res)) { s with heap := h', toks := tk, drawn := dr }) :
  wpAny c.M A.in1 (Builtin.List.listExtendWith (.ref S) (.ref d) res) (fun fin s' => match fin with | .done f => R (.ok f) s' | .again c' => c'.quiet = true ∧ codeAny c.M A c' R s') (fun e s' => R (.error e) s') s := by
 have hsl : sizeLine > 2000 := by decide
 have hT : s.TypeIs (.ref d) "dict" := hd.dictOf.typeIs
 refine E22 (id hd) fun od es hod _ => ?_
 unfold Builtin.List.listExtendWith
 refine wpAny_bind (wpAny_typeOf (T := "dict") hT ?_)
 have e1 : Builtin.List.listSameRef (.ref S) (.ref d) = false := by simp [Builtin.List.listSameRef, hSd]
 simp only [e1, show (Value.type "dict" == Value.type "list") = false by decide, show (Value.type "dict" == Value.type "tuple") = false by decide, Bool.or_false, Bool.false_eq_true, if_false]
 refine wpAny_bind ((SeqO.keys (c := c) (A := A.in1) (target := .Name "x" ⟨0, 0, 0, 0⟩) (Z := fun b => b = d) (H := fun _ => False) (by simpa using hA) rfl hs hd (.inl rfl) (by rintro b rfl; exact ⟨_, hod⟩)).run _ _ ?_)
 intro h₂ tk₂ dr₂ I fp Stt kp2 hIn hIe hfp hst W
 have hS2 := kp2 _ _ hS
 have hSI : S ≠ I := fun e => by rw [← e, hS] at hIn; cases hIn
 have hdI : d ≠ I := fun e => by rw [← e, hod] at hIn; cases hIn
 have hSf : S ∉ fp := fun hm => by
  rcases hfp _ hm with h | h | h
  ·exact hSI h
  ·exact hSd h
  ·exact h
 have hd2 : h₂.DictAt c.K d kvs ep := hd.keep kp2
 refine wpAny_bind (wpAny_holding (hint_dict (s := { s with heap := h₂, toks := tk₂, drawn := dr₂ }) hd2.dictOf.typeIs ?_))
 have ek : (kvs.map fun e => V.str e.1) = (kvs.map (·.1)).map V.str := by rw [List.map_map]; rfl
 rw [ek] at W
 have key : ∀ (h : Heap) (c₁ tk : Nat), Stt 0 h → (∀ b o, b ≠ S → h₂.get? b = some o → h.get? b = some o) → h.get? S = some (seqObj "list" #[] c₁) → codeAny c.M A (.builtin "list.extend.loop" ⟨[.ref S, .ref I, res], []⟩) R { s with heap := h, toks := tk, drawn := dr₂ } := by
  intro h c₁ tk hst' hk hL
  refine extend_strs (x := "x") (p := ⟨0, 0, 0, 0⟩) (Z := fun b => b = d) (h₀ := h₂) W hSf hSI hSd (by rw [List.length_map]; exact hl) (fun e => hdI e.symm) (kvs.map (·.1)).length 0 { s with heap := h, toks := tk, drawn := dr₂ } #[] c₁ (by omega) (Nat.zero_le _) hst' (by rintro b o rfl e; exact hk _ o hSd.symm e) hL .nil fun h' tk' acc' c' hm hL' hacc => ?_
  exact hR h' tk' dr₂ acc' c' (fun b o hb e => hm b o hb (fun e' => by rw [← e', e] at hIn; cases hIn) (hk b o hb (kp2 _ _ e))) hL' hacc
 refine wpAny_ite_split (fun _ => ?_) (fun _ => wpAny_pure ⟨plainId_quiet PySem.F.plain_extend_loop _, key h₂ c₀ tk₂ hst (fun b o _ e => e) hS2⟩)
 refine wpAny_bind (wpAny_rule ?_)
 refine wpAny_bind ?_
 show wpAny _ _ (updateSeq S (·.push .none) >>= fun _ => updateSeq S (·.pop)) _ _ _
 refine wpAny_bind (wpAny_updateSeq hS2 rfl ?_ (by simp) (by simp))
 have hL3 := Heap.get?_update_self (Obj.mapSeq (·.push Value.none)) hS2 rfl
 refine wpAny_updateSeq hL3 rfl ?_ (by simp; omega) (by simp)
 have hL4 := Heap.get?_update_self (Obj.mapSeq (·.pop)) hL3 rfl
 refine wpAny_pure ⟨plainId_quiet PySem.F.plain_extend_loop _, key _ _ _ ?_ (fun b o hb e => ?_) hL4⟩
 ·refine W.frame 0 _ _ hst fun b hb o e => ?_
  have hbS : b ≠ S := fun h => hSf (h ▸ hb)
  exact (Heap.get?_update_other _ _ (Ne.symm hbS)).trans ((Heap.get?_update_other _ _ (Ne.symm hbS)).trans e)
 ·exact (Heap.get?_update_other _ _ (Ne.symm hb)).trans ((Heap.get?_update_other _ _ (Ne.symm hb)).trans e)
theorem f_list_odct {hp : List (Addr × O)} {d : Addr} {es : List (Str × V)} (hd : (d, O.dct es) ∈ hp) (hl : es.length ≤ 1000) : FCall c A hp (.type "list") [.ref d] (.lst (es.map fun e => .str e.1)) := by
 intro hA Z P s vs hZ H r Q E hQ
 refine RdL.one_elim r fun v r1 => ?_
 cases r1
 refine E24 ((H.obj d _ hd).1) fun kvs ep hs h1 h2 _ => ?_
 have hlen : kvs.length = es.length := by simpa using congrArg List.length h2
 refine callType_codes (Q₁ := fun obj s₁ => obj = .ref s.heap.objs.size ∧ s₁ = { s with heap := s.heap.push { cls := .type "list", data := .seq #[] } }) PySem.F.called_list (PySem.F.typeCall_list_1 _) PySem.F.entry_list_init (code_list_new _ ⟨rfl, rfl⟩) fun obj s₁ e => ?_
 obtain ⟨rfl, rfl⟩ := e
 have kp1 : Kp s.heap (s.heap.push { cls := .type "list", data := .seq #[] }) := Kp.push _ _
 have hS : (s.heap.push { cls := .type "list", data := .seq #[] }).get? s.heap.objs.size = some (seqObj "list" #[] 0) := Heap.get?_push_size _ rfl
 have hSd : s.heap.objs.size ≠ d := Nat.ne_of_gt h1.lt_size
 refine (I03 (I12 _ hS rfl) (PySem.F.args_list_init_2 _ _) ?_)
 show wpAny _ _ (do let old ← Builtin.List.listItems (.ref s.heap.objs.size); Builtin.List.listUpdate (.ref s.heap.objs.size) (fun _ => #[]); letGo old.toList.reverse; Builtin.List.listExtendWith (.ref s.heap.objs.size) (.ref d) .none) _ _ _
 refine wpAny_bind ?_
 unfold Builtin.List.listItems
 refine wpAny_bind (wpAny_seqItems hS rfl (wpAny_pure ?_))
 show wpAny _ _ (updateSeq s.heap.objs.size (fun _ => #[]) >>= fun _ => letGo (#[] : Array Value).toList.reverse >>= fun _ => Builtin.List.listExtendWith (.ref s.heap.objs.size) (.ref d) .none) _ _ _
 refine wpAny_bind (wpAny_updateSeq hS rfl ?_ (by simp) (by simp))
 have hS2 := Heap.get?_update_self (Obj.mapSeq (fun _ => (#[] : Array Value))) hS rfl
 have oth : ∀ b o, b ≠ s.heap.objs.size → s.heap.get? b = some o → ((s.heap.push { cls := .type "list", data := .seq #[] }).update s.heap.objs.size (Obj.mapSeq (fun _ => (#[] : Array Value)))).get? b = some o := fun b o hb e => (Heap.get?_update_other _ _ (Ne.symm hb)).trans (kp1 b o e)
 refine wpAny_bind (wpAny_letGo ?_)
 refine extend_keys (c := c) hA.handled hs (h1.keep fun b o e => oth b o (Nat.ne_of_lt (Heap.lt_size e)) e) hSd hS2 (by omega) fun h' tk dr acc c' hk hL hacc => ?_
 refine ⟨rfl, hQ _ h' tk dr (fun b o e => hk b o (Nat.ne_of_lt (Heap.lt_size e)) (oth b o (Nat.ne_of_lt (Heap.lt_size e)) e)) (fresh_none _ _ (Nat.le_refl _)) (I12 acc ⟨c', hL⟩ ?_)⟩
 have e2 : (es.map fun e => V.str e.1) = (kvs.map (·.1)).map V.str := by rw [h2, List.map_map]; rfl
 rw [e2]
 exact StrsAre.rd hacc
end
end Mine
end
noncomputable section
namespace Mine
open PySem PySem.SeqAt
section
variable {c : Cx} {A : Around} {env : Env} {σ : St}
theorem WP.freeze {α β : Type} {t : Sem α} {Rr : (Addr → Prop) → Heap → β → α → Prop} {k : β → St → Prop} {d : Addr} {o : O} {X : V} {τ : St} (hd : (d, o) ∈ σ.hp) (hX : o.frz = some X) (hloc : τ.loc = σ.loc)
  (hhp : ∀ b ob, (b, ob) ∈ τ.hp → (b, ob) ∈ σ.hp ∨ ∃ es nm, ob = .ns (setL es nm X) ∧ (b, O.ns es) ∈ σ.hp ∧ es.lookup nm = some (.ref d))
  (hnd : (σ.hp.map (·.1)).Nodup → (τ.hp.map (·.1)).Nodup ∧ ∀ ob, (d, ob) ∉ τ.hp) (h : WP c A env τ t Rr k) : WP c A env σ t Rr k := by
 refine WP.mk fun hA Z P s R => ?_
 obtain ⟨n1, n2⟩ := hnd R.hp.nodup
 have hD := R.hp.obj d o hd
 have R1 : Rel c Z P env ⟨σ.loc, []⟩ s.heap := R.le (I03 (fun x X e => e) (fun b ob hb => (by cases hb)) (fun _ => by simp))
 have R2 := R1.freeze (N := fun b => b = d) (by rintro b rfl; exact (I04 (hD.1.some) (hD.2.2) (R.hpOff _ o hd) (fun o ho => by cases ho)))
 have rX : Rd c (fun b => Z b ∨ b = d) s.heap X (.ref d) := hD.1.frz hX
 have R3 : Rel c (fun b => Z b ∨ b = d) P env τ s.heap := { R2 with
  vars := fun x Y e => R2.vars x Y (by rw [← hloc]; exact e)
  hp := ⟨fun b ob hb => by
   have hbd : b ≠ d := fun e => n2 ob (e ▸ hb)
   rcases hhp b ob hb with h1 | ⟨es, nm, rfl, h1, h2⟩
   ·have := R.hp.obj b ob h1
    exact (I03 (this.1.keep (fun _ z => .inl z) (fun _ _ _ e => e) (fun _ e => e)) (fun z => z.elim this.2.1 hbd) (this.2.2))
   ·have := R.hp.obj b _ h1
    refine E13 (this.1) fun mA m1 m2 m3 => ?_
    refine (I03 (I13 mA m1 (fun y hy => ?_) (fun y Y hy => ?_)) (fun z => z.elim this.2.1 hbd) (this.2.2))
    ·rw [lookup_setL] at hy
     by_cases e : y = nm
     ·simp [e] at hy
     ·simp only [if_neg e] at hy; exact m2 y hy
    ·rw [lookup_setL] at hy
     by_cases e : y = nm
     ·simp only [if_pos e, Option.some.injEq] at hy
      subst hy; subst e
      refine E12 (m3 y _ h2) fun v hv rv => ?_
      cases rv
      exact (I12 _ hv rX)
     ·simp only [if_neg e] at hy
      refine E12 (m3 y Y hy) fun v hv rv => ?_
      exact (I12 v hv (rv.more fun _ z => .inl z)), n1⟩
  hpOff := fun b ob hb => by
   rcases hhp b ob hb with h1 | ⟨es, nm, rfl, h1, h2⟩
   ·exact R.hpOff b ob h1
   ·exact R.hpOff b _ h1 }
 exact wpAny_mono (h.run hA _ P s R3) (fun _ _ f => Fin.after (tk₁ := s.toks) (dr₁ := s.drawn) (Step.freeze (P := P)) f) fun _ _ x => x
end
end Mine
end
noncomputable section
namespace Mine
open PySem PySem.SeqAt PyProof.Rows
section
variable {c : Cx} {A : Around} {env : Env} {σ : St}
theorem wE_SortedSet {fpos pos : Pos} {e : Expr} {k : V → St → Prop} (hm : c.mg "sorted" = none) (hk : env.kindOf "sorted" = some .globalImplicit)
  (h : WE c A env σ e fun X σ₁ => ∃ a xs, X = .ref a ∧ (a, O.set xs) ∈ σ₁.hp ∧ xs.length < 64 ∧ ∀ ss, ss.Perm xs → sortedS ss = true → k (.lst (ss.map .str)) σ₁)
  (he : starEach [e] env = [(false, eval e env)] := by rfl) : WE c A env σ (.Call (.Name "sorted" fpos) [e] [] pos) k := by
 refine WP.mk fun hA Z P s R => ?_
 show wpAny _ _ (do callWith pos (← eval (.Name "sorted" fpos) env) [] (backTo pos (starEach [e] env)) (backToKw pos (keywordEach [] env))) _ _ s
 refine wpAny_bind (load_builtin R hm rfl (by decide) hk ?_ (by decide))
 have h' : WEs c A env σ pos [e] fun Xs σ₁ => ∃ a xs, Xs = [.ref a] ∧ (a, O.set xs) ∈ σ₁.hp ∧ xs.length < 64 ∧ ∀ ss, ss.Perm xs → sortedS ss = true → k (.lst (ss.map .str)) σ₁ := by
  refine wEs_cons (WP.imp h ?_) he
  refine fun X σ₁ => R22 fun a xs z2 r => ?_; subst z2
  exact wEs_nil (I22 a xs rfl r)
 refine callWith_plain (.blt _) (wp_then h' hA R fun Z₁ h₁ tk₁ dr₁ Xs σ₁ vs S₁ R₁ r₁ kk => ?_) he rfl
 refine E24 kk fun a xs z2 ha hlen hk => ?_; clear kk; subst z2
 refine RdL.one_elim r₁ fun v r2 => ?_
 first | refine Rd.int_elim r2 fun _ => ?_ | refine Rd.ref_elim r2 ?_ | refine Rd.str_elim r2 fun _ => ?_ | refine Rd.bool_elim r2 ?_ | refine Rd.typ_elim r2 ?_ | cases r2
 refine sorted_set (s := { s with heap := h₁, toks := tk₁, drawn := dr₁ }) hA.handled (R₁.hp.obj a _ ha).1 hlen fun ss b h' tk dr hp hs hkp hn ho => ?_
 have hkp' : Kp h₁ h' := hkp
 have hN : ∀ bb, bb = b → h₁.get? bb = none ∧ ∃ o, h'.get? bb = some o := by rintro bb rfl; exact ⟨hn, (ho Z₁).some⟩
 exact (fin_mk (S₁.trans (Step.new hkp' _)) (R₁.new hkp' hN) ((ho Z₁).frz rfl) (hk ss hp hs))
theorem wE_SortedLst {fpos pos : Pos} {e : Expr} {k : V → St → Prop} (hm : c.mg "sorted" = none) (hk : env.kindOf "sorted" = some .globalImplicit)
  (h : WE c A env σ e fun X σ₁ => ∃ xs : List Str, X = .lst (xs.map .str) ∧ xs.length < 64 ∧ ∀ ss, ss.Perm xs → sortedS ss = true → k (.lst (ss.map .str)) σ₁)
  (he : starEach [e] env = [(false, eval e env)] := by rfl) : WE c A env σ (.Call (.Name "sorted" fpos) [e] [] pos) k := by
 refine WP.mk fun hA Z P s R => ?_
 show wpAny _ _ (do callWith pos (← eval (.Name "sorted" fpos) env) [] (backTo pos (starEach [e] env)) (backToKw pos (keywordEach [] env))) _ _ s
 refine wpAny_bind (load_builtin R hm rfl (by decide) hk ?_ (by decide))
 have h' : WEs c A env σ pos [e] fun Xs σ₁ => ∃ xs : List Str, Xs = [.lst (xs.map .str)] ∧ xs.length < 64 ∧ ∀ ss, ss.Perm xs → sortedS ss = true → k (.lst (ss.map .str)) σ₁ := by
  refine wEs_cons (WP.imp h ?_) he
  refine fun X σ₁ => R12 fun xs z1 r => ?_; subst z1
  exact wEs_nil (I12 xs rfl r)
 refine callWith_plain (.blt _) (wp_then h' hA R fun Z₁ h₁ tk₁ dr₁ Xs σ₁ vs S₁ R₁ r₁ kk => ?_) he rfl
 refine E13 kk fun xs z1 hlen hk => ?_; clear kk; subst z1
 refine f_sorted_lst (hp := σ₁.hp) hlen hA Z₁ P { s with heap := h₁, toks := tk₁, drawn := dr₁ } vs ⟨R₁.inv.sys, R₁.inv.exZ⟩ R₁.hp r₁ _ _ fun ss b h' tk dr hp hs hkp hn ho => ?_
 have hkp' : Kp h₁ h' := hkp
 have hN : ∀ bb, bb = b → h₁.get? bb = none ∧ ∃ o, h'.get? bb = some o := by rintro bb rfl; exact ⟨hn, ho.some⟩
 exact (fin_mk (S₁.trans (Step.new hkp' _)) (R₁.new hkp' hN) (ho.frz rfl) (hk ss hp hs))
theorem WSs.freeze {sts : List Stmt} {k : FV → St → Prop} {d : Addr} {o : O} {X : V} {τ : St} (hd : (d, o) ∈ σ.hp) (hX : o.frz = some X) (hloc : τ.loc = σ.loc)
  (hhp : ∀ b ob, (b, ob) ∈ τ.hp → (b, ob) ∈ σ.hp ∨ ∃ es nm, ob = .ns (setL es nm X) ∧ (b, O.ns es) ∈ σ.hp ∧ es.lookup nm = some (.ref d))
  (hnd : (σ.hp.map (·.1)).Nodup → (τ.hp.map (·.1)).Nodup ∧ ∀ ob, (d, ob) ∉ τ.hp) (h : WSs c A env τ sts k) : WSs c A env σ sts k := WP.freeze hd hX hloc hhp hnd h
end
end Mine
end
noncomputable section
namespace Mine
open PySem PySem.SeqAt PyProof.Rows
section
variable {c : Cx} {A : Around} {hp : List (Addr × O)}
noncomputable def pick {α : Type} (l : List α) (d : α) (i : Int) : α := l.getD (i.fmod l.length).toNat d
theorem pick_mem {α : Type} {l : List α} {d : α} {i : Int} (h : 0 < l.length) : pick l d i ∈ l := by
 unfold pick
 have h1 : 0 ≤ i.fmod l.length := Int.fmod_nonneg_of_pos i (by omega)
 have h2 : i.fmod l.length < l.length := Int.fmod_lt_of_pos i (by omega)
 have h3 : (i.fmod l.length).toNat < l.length := by omega
 rw [List.getD_eq_getElem?_getD, List.getElem?_eq_getElem h3]
 exact List.getElem_mem h3
theorem item_pick {α : Type} (l : List α) (d : α) (f : α → V) {i m : Int} (hm : m = l.length) (h : 0 < l.length) (hs : l.length < 1000) : ItemV c A hp (.tup (l.map f)) (.int (i.fmod m)) (f (pick l d i)) := by
 subst hm
 have h1 : 0 ≤ i.fmod l.length := Int.fmod_nonneg_of_pos i (by omega)
 have h2 : i.fmod l.length < l.length := Int.fmod_lt_of_pos i (by omega)
 have h3 : (i.fmod l.length).toNat < l.length := by omega
 refine item_tup h1 (by omega) ?_
 unfold pick
 rw [List.getD_eq_getElem?_getD, List.getElem?_map, List.getElem?_eq_getElem h3]; rfl
theorem item_pickL {α : Type} (l : List α) (d : α) (f : α → V) {i m : Int} (hm : m = l.length) (h : 0 < l.length) (hs : l.length < 1000) : ItemV c A hp (.lst (l.map f)) (.int (i.fmod m)) (f (pick l d i)) := by
 subst hm
 have h1 : 0 ≤ i.fmod l.length := Int.fmod_nonneg_of_pos i (by omega)
 have h2 : i.fmod l.length < l.length := Int.fmod_lt_of_pos i (by omega)
 have h3 : (i.fmod l.length).toNat < l.length := by omega
 refine item_lst h1 (by omega) ?_
 unfold pick
 rw [List.getD_eq_getElem?_getD, List.getElem?_map, List.getElem?_eq_getElem h3]; rfl
end
end Mine
end
noncomputable section
namespace Mine
open PySem PySem.SeqAt PyProof.Rows
noncomputable def Inj {α : Type} (f : α → V) : Prop := ∀ a b, f a = f b → a = b
theorem inj_str : Inj V.str := fun a b h => V.str.inj h
theorem map_inj {α : Type} {f : α → V} (hf : Inj f) : ∀ {l l' : List α}, l.map f = l'.map f → l = l'
 | [], [], _ => rfl
 | [], _ :: _, h => by simp at h
 | _ :: _, [], h => by simp at h
 | a :: l, b :: l', h => by
  simp only [List.map_cons, List.cons.injEq] at h
  rw [hf a b h.1, map_inj hf h.2]
theorem inj_pair : Inj fun p : Str × Str => V.tup [.str p.1, .str p.2] := fun a b h => by
 simp only [V.tup.injEq, List.cons.injEq, V.str.injEq, and_true] at h
 exact Prod.ext h.1 h.2
theorem inj_rt : Inj Rt.v := fun a b h => by
 unfold Rt.v at h
 simp only [V.tup.injEq, List.cons.injEq, V.str.injEq, V.lst.injEq, and_true] at h
 refine E05 h fun h1 h2 h3 h4 h5 => ?_; clear h
 have h3' := map_inj inj_str h3
 have h4' : a.nd = b.nd := by
  have e : ∀ l : List (Str × Str), prs l = l.map fun p => V.tup [.str p.1, .str p.2] := fun l => by simp [prs, RdPairs]
  rw [e, e] at h4
  exact map_inj inj_pair h4
 cases a; cases b; simp_all
theorem inj_held : Inj Held.v := fun a b h => by
 unfold Held.v at h
 simp only [V.tup.injEq, List.cons.injEq, V.str.injEq, V.lst.injEq, V.int.injEq, and_true] at h
 refine E04 h fun h1 h2 h3 h4 => ?_; clear h
 have h2' := map_inj inj_str h2
 cases a; cases b; simp_all
open Classical in
theorem fn_of {α : Type} {f : α → V} (hf : Inj f) (G : α → List V) : ∃ g : V → List V, ∀ a, g (f a) = G a := by
 refine ⟨fun X => if h : ∃ a, f a = X then G (Classical.choose h) else [], fun a => ?_⟩
 have h : ∃ b, f b = f a := ⟨a, rfl⟩
 simp only [dif_pos h]
 rw [hf _ _ (Classical.choose_spec h)]
theorem flat_fn {α : Type} {f : α → V} {g : V → List V} {G : α → List V} (h : ∀ a, g (f a) = G a) (l : List α) : (l.map f).flatMap g = l.flatMap G := by
 induction l with
 | nil => rfl
 | cons a l ih => simp only [List.map_cons, List.flatMap_cons, h, ih]
section
variable {c : Cx} {A : Around} {env : Env} {σ : St}
theorem wE_CompG {α : Type} {f : α → V} {elt target iter : Expr} {ifs : List Expr} {scope : Scope} {pos : Pos} {k : V → St → Prop} (hf : Inj f) (OK : CompOk scope env)
  (h : CompSrc c A env σ target iter fun xs σ₁ => ∃ (l : List α) (G : α → List V), xs = l.map f ∧ (l.flatMap G).length ≤ sizeLine ∧ (∀ C, ∀ a ∈ l, Turn1 c A (cenvOf scope env C) ⟨capsOf scope σ₁.loc, σ₁.hp⟩ target ifs elt (f a) (G a)) ∧ k (.lst (l.flatMap G)) σ₁)
  (hs : ∀ x, foldedSetIterable iter env x = pure x := by intro _; rfl) : WE c A env σ (.ListComp elt [⟨target, iter, ifs, 0⟩] scope pos) k := by
 refine wE_Comp1 OK ?_ hs
 refine WP.imp h ?_
 refine fun X σ₁ => R12 fun xs h1 y0 => E24 y0 fun l G z4 h2 h3 h4 => ?_; subst z4
 obtain ⟨g, hg⟩ := fn_of hf G
 refine (I12 _ h1 (I13 g (by rw [flat_fn hg]; exact h2) (fun C X hX => ?_) (by rw [flat_fn hg]; exact h4)))
 refine E12 (List.mem_map.mp hX) fun a ha z2 => ?_; subst z2
 rw [hg]; exact h3 C a ha
theorem wS_AssignCompG {α : Type} {f : α → V} {elt t target iter : Expr} {ifs : List Expr} {scope : Scope} {pos spos : Pos} {k : FV → St → Prop} (hf : Inj f) (OK : CompOk scope env)
  (h : CompSrc c A env σ target iter fun xs σ₁ => ∃ (l : List α) (G : α → List V), xs = l.map f ∧ (l.flatMap G).length ≤ sizeLine ∧ (∀ C, ∀ a ∈ l, Turn1 c A (cenvOf scope env C) ⟨capsOf scope σ₁.loc, σ₁.hp⟩ target ifs elt (f a) (G a)) ∧ WA c A env σ₁ t (.lst (l.flatMap G)) fun σ₂ => k .next σ₂)
  (hs : ∀ x, foldedSetIterable iter env x = pure x := by intro _; rfl) (hsw : swapsWith (.ListComp elt [⟨target, iter, ifs, 0⟩] scope pos) (some t) spos.line env = pure true := by rfl)
  (hte : (assignEach [t] env).map (·.2) = [assign t env] := by rfl) : WS c A env σ (.Assign [t] (.ListComp elt [⟨target, iter, ifs, 0⟩] scope pos) spos) k := by
 refine wS_AssignComp1 OK ?_ hs hsw hte
 refine WP.imp h ?_
 refine fun X σ₁ => R12 fun xs h1 y0 => E24 y0 fun l G z4 h2 h3 h4 => ?_; subst z4
 obtain ⟨g, hg⟩ := fn_of hf G
 refine (I12 _ h1 (I13 g (by rw [flat_fn hg]; exact h2) (fun C X hX => ?_) (by rw [flat_fn hg]; exact h4)))
 refine E12 (List.mem_map.mp hX) fun a ha z2 => ?_; subst z2
 rw [hg]; exact h3 C a ha
end
end Mine
end
noncomputable section
namespace Mine
open PySem PySem.SeqAt PyProof.Rows
section
variable {c : Cx} {A : Around} {env : Env} {σ : St}
theorem Turn2.of {β : Type} {f' : β → V} (hf' : Inj f') {cenv : Env} {σc : St} {target target' iter' elt : Expr} {ifs ifs' : List Expr} {X : V} {ys : List V}
  (h : ∀ D zs, WA c A cenv (σc.acc D zs) target X fun σ₂ => WTs c A cenv σ₂ ifs true fun ok σ₃ => if ok then CompSrc c A cenv σ₃ target' iter' fun xs' σ₄ => ∃ (τ : St) (l' : List β) (G' : β → List V), xs' = l'.map f' ∧ σ₄.le (τ.acc D zs) ∧ ys = l'.flatMap G' ∧
    (∀ x X, σc.loc.lookup x = some X → τ.loc.lookup x = some X) ∧ τ.hp = σc.hp ∧ ∀ b ∈ l', Turn1 c A cenv τ target' ifs' elt (f' b) (G' b)
   else σ₃.le (σc.acc D zs) ∧ ys = []) : Turn2 c A cenv σc target ifs target' iter' ifs' elt X ys := by
 intro D zs
 refine WA.imp (h D zs) fun σ₂ h₂ => WP.imp h₂ fun ok σ₃ h₃ => ?_
 cases ok with
 | false => exact h₃
 | true =>
  refine WP.imp h₃ ?_
  refine fun X' σ₄ => R12 fun xs' s1 y0 => E36 y0 fun τ l' G' z5 h4 h5 h6 h7 h8 => ?_; subst z5
  obtain ⟨g, hg⟩ := fn_of hf' G'
  refine (I12 _ s1 (I25 τ g h4 (by rw [flat_fn hg]; exact h5) h6 h7 (fun Y hY => ?_)))
  refine E12 (List.mem_map.mp hY) fun b hb z2 => ?_; subst z2
  rw [hg]; exact h8 b hb
end
end Mine
end
noncomputable section
namespace Mine
open PySem PySem.SeqAt PyProof.Rows
theorem sz10 {α : Type} {l : List α} (h : l.length ≤ 10) : l.length ≤ sizeLine := Nat.le_trans h (by decide)
end Mine
end
noncomputable section
set_option maxRecDepth 100000
namespace Mine
open PySem PySem.SeqAt PyProof.Rows
section
variable {c : Cx} {A : Around} {env : Env} {σ : St}
theorem wE_at {x : Str} {p₁ p₂ p₃ : Pos} {n : Nat} {i : Int} {Xs : List V} {X : V} {k : V → St → Prop} (hx : σ.loc.lookup x = some (.tup Xs)) (hi : Xs[i.toNat]? = some X) (h : k X σ) (h0 : 0 ≤ i := by decide) (h1 : i < 2 ^ 62 := by decide)
  (hd : (x == ("__debug__" : Str)) = false := by decide) (hn : (x == ("__classdict__" : Str)) = false := by decide) : WE c A env σ (.Subscript (.Name x p₁) (.Constant (.int i) n p₂) p₃) k :=
 wE_Sub (wE_Name hx (wE_int (I12 X (item_tup h0 h1 hi) h)) hd hn)
theorem wSs_If {t : Expr} {b o : List Stmt} {pos : Pos} {rest : List Stmt} {k : FV → St → Prop} (h : WT c A env σ t fun x σ₁ => if x then WSs c A env σ₁ b (thenS c A env rest k) else WSs c A env σ₁ o (thenS c A env rest k)) : WSs c A env σ (.If t b o pos :: rest) k := wSs_cons (wS_If h)
theorem wSs_Ret {e : Expr} {pos : Pos} {rest : List Stmt} {k : FV → St → Prop} (h : WE c A env σ e fun X σ₁ => k (.ret X) σ₁) : WSs c A env σ (.Return (some e) pos :: rest) k := wSs_cons (wS_Return h)
theorem wSs_Set {x : Str} {value : Expr} {xp pos : Pos} {rest : List Stmt} {k : FV → St → Prop} (hk : env.kindOf x = some .local ∨ env.kindOf x = some .cell) (h : WE c A env σ value fun X σ₁ => WSs c A env (σ₁.set x X) rest k)
  (hs : swapsWith value (some (.Name x xp)) pos.line env = pure false := by rfl) (hsw : swappedStores [.Name x xp] value env = pure none := by rfl) (hte : (assignEach [.Name x xp] env).map (·.2) = [assign (.Name x xp) env] := by rfl) :
  WSs c A env σ (.Assign [.Name x xp] value pos :: rest) k := wSs_cons (wS_Assign (WP.imp h fun _ _ h => wA_Name hk h) hs hsw hte)
theorem wE_SA {C N : Addr} {mN : Str → Option Value} {o name : Str} {p pos : Pos} {x d : Addr} {es : List (Str × V)} {Y : V} {k : V → St → Prop} (K : ClsOk c C N mN) (hn : mN name = none) (hB : typeLookup (.type "object") name = pure none)
  (hx : σ.loc.lookup o = some (.ref x)) (h1 : (x, O.inst C d) ∈ σ.hp) (h2 : (d, O.ns es) ∈ σ.hp) (h3 : es.lookup name = some Y) (h : k Y σ) (hd : (o == ("__debug__" : Str)) = false := by decide) (hn' : (o == ("__classdict__" : Str)) = false := by decide) :
  WE c A env σ (.Attribute (.Name o p) name pos) k := wE_Attr K hn hB (wE_Name hx (I45 x d es Y rfl h1 h2 h3 h) hd hn')
theorem wE_PureF {f : Str} {fpos pos : Pos} {e : Expr} {es : List Expr} {a : Addr} {D : DefD} {k : V → St → Prop} (hf : c.mg f = some (.ref a)) (F : IsFn c a D) (hk : env.kindOf f = some .globalImplicit)
  (h : WEs c A env σ pos (e :: es) fun Xs σ₁ => ∃ n r, Rm n A ∧ Pure c n a Xs r ∧ k r σ₁)
  (hd : (f == ("__debug__" : Str)) = false := by decide) (he : starEach (e :: es) env = (false, eval e env) :: starEach es env := by rfl) : WE c A env σ (.Call (.Name f fpos) (e :: es) [] pos) k := by
 refine E51 F fun _ _ _ _ _ M => ?_; clear F
 exact wE_Pure hf M.fn hk h hd he
end
theorem list_s {α : Type} {n : Nat} {vs : List α} (h : vs.length = n + 1) : ∃ x t, vs = x :: t ∧ t.length = n := by
 cases vs with
 | nil => cases h
 | cons x t => exact I22 x t rfl (Nat.succ.inj h)
theorem list1 {α : Type} {vs : List α} (h : vs.length = 1) : ∃ x, vs = [x] := E22 (list_s h) fun x _ e h1 => ⟨x, e.trans (congrArg (x :: ·) (List.length_eq_zero_iff.mp h1))⟩
theorem list2 {α : Type} {vs : List α} (h : vs.length = 2) : ∃ x y, vs = [x, y] := E22 (list_s h) fun x _ e h1 => E11 (list1 h1) fun y e1 => I21 x y (e.trans (congrArg (x :: ·) e1))
theorem list3 {α : Type} {vs : List α} (h : vs.length = 3) : ∃ x y z, vs = [x, y, z] := E22 (list_s h) fun x _ e h1 => E21 (list2 h1) fun y z e1 => I31 x y z (e.trans (congrArg (x :: ·) e1))
theorem list4 {α : Type} {vs : List α} (h : vs.length = 4) : ∃ x y z w, vs = [x, y, z, w] := E22 (list_s h) fun x _ e h1 => E31 (list3 h1) fun y z w e1 => I41 x y z w (e.trans (congrArg (x :: ·) e1))
theorem list5 {α : Type} {vs : List α} (h : vs.length = 5) : ∃ x y z w v, vs = [x, y, z, w, v] := E22 (list_s h) fun x _ e h1 => E41 (list4 h1) fun y z w v e1 => ⟨x, y, z, w, v, e.trans (congrArg (x :: ·) e1)⟩
end Mine
end
noncomputable section
namespace Mine
open PySem PySem.SeqAt PyProof.Rows
structure EV (c : Cx) (A : Around) (env : Env) (σ : St) (e : Expr) (X : V) : Prop where
 run : ∀ k : V → St → Prop, k X σ → WE c A env σ e k
structure EVs (c : Cx) (A : Around) (env : Env) (σ : St) (pos : Pos) (es : List Expr) (Xs : List V) : Prop where
 run : ∀ k : List V → St → Prop, k Xs σ → WEs c A env σ pos es k
structure TP (c : Cx) (A : Around) (env : Env) (σ : St) (e : Expr) (P : Prop) : Prop where
 run : ∀ k : Bool → St → Prop, (∀ b, (b = true ↔ P) → k b σ) → WT c A env σ e k
structure TA (c : Cx) (A : Around) (env : Env) (σ : St) (op : BoolOp) (es : List Expr) (P : Prop) : Prop where
 run : ∀ k : Bool → St → Prop, (∀ b, (b = true ↔ P) → k b σ) → WAll c A env σ op es k
structure AV (c : Cx) (A : Around) (env : Env) (σ : St) (t : Expr) (X : V) (τ : St) : Prop where
 run : ∀ k : St → Prop, k τ → WA c A env σ t X k
structure AVs (c : Cx) (A : Around) (env : Env) (σ : St) (ts : List Expr) (Xs : List V) (τ : St) : Prop where
 run : ∀ k : St → Prop, k τ → WAs c A env σ ts Xs k
noncomputable def RetK (R : V) (f : FV) (_ : St) : Prop := f = .ret R
noncomputable def sel {α β : Type} (l : List α) (P : α → Prop) [DecidablePred P] (y : α → β) : List β := l.flatMap fun a => if P a then [y a] else []
theorem n0 : ([] : List V).length ≤ 10 := Nat.le_of_ble_eq_true rfl
theorem n1 {a : V} : [a].length ≤ 10 := Nat.le_of_ble_eq_true rfl
theorem n2 {a b : V} : [a, b].length ≤ 10 := Nat.le_of_ble_eq_true rfl
theorem n3 {a b c : V} : [a, b, c].length ≤ 10 := Nat.le_of_ble_eq_true rfl
theorem n4 {a b c d : V} : [a, b, c, d].length ≤ 10 := Nat.le_of_ble_eq_true rfl
theorem n5 {a b c d e : V} : [a, b, c, d, e].length ≤ 10 := Nat.le_of_ble_eq_true rfl
noncomputable def LeL (l l' : List (Str × V)) : Prop := ∀ x X, l.lookup x = some X → l'.lookup x = some X
theorem LeL.le {l l' : List (Str × V)} {hp : List (Addr × O)} (h : LeL l l') : St.le ⟨l', hp⟩ ⟨l, hp⟩ := ⟨h, fun _ _ x => x, id⟩
theorem LeL.set {l l' : List (Str × V)} {x : Str} {X : V} (h : LeL l l') (hx : l.lookup x = none) : LeL l (setL l' x X) := fun y Y e => by
 rw [lookup_setL, if_neg (fun q => by rw [q, hx] at e; cases e)]
 exact h y Y e
theorem ll1 {l : List (Str × V)} {x : Str} {X : V} (hx : l.lookup x = none) : LeL l (setL l x X) := LeL.set (fun _ _ e => e) hx
theorem ll2 {l : List (Str × V)} {x y : Str} {X Y : V} (hx : l.lookup x = none) (hy : l.lookup y = none) : LeL l (setL (setL l x X) y Y) := (ll1 hx).set hy
theorem ll4 {l : List (Str × V)} {x y z w : Str} {X Y Z W : V} (hx : l.lookup x = none) (hy : l.lookup y = none) (hz : l.lookup z = none) (hw : l.lookup w = none) : LeL l (setL (setL (setL (setL l x X) y Y) z Z) w W) := ((ll2 hx hy).set hz).set hw
section
variable {c : Cx} {A : Around} {env : Env} {ς : List (Str × V)} {η : List (Addr × O)} {p p₁ p₂ p₃ pos : Pos} {n : Nat} {X Y Z W R : V} {Xs : List V} {e l r t : Expr} {es : List Expr} {P Q : Prop} {x y : Str} {rest : List Stmt}
theorem ev_eq (h : EV c A env ⟨ς, η⟩ e X) (q : X = Y) : EV c A env ⟨ς, η⟩ e Y := q ▸ h
theorem tp_iff (h : TP c A env ⟨ς, η⟩ e P) (q : P ↔ Q) : TP c A env ⟨ς, η⟩ e Q := ⟨fun k hk => h.run k fun b hb => hk b (hb.trans q)⟩
theorem ev_N (hx : ς.lookup x = some X) (hd : (x == ("__debug__" : Str)) = false := by decide) (hn : (x == ("__classdict__" : Str)) = false := by decide) : EV c A env ⟨ς, η⟩ (.Name x pos) X := ⟨fun _ hk => wE_Name hx hk hd hn⟩
theorem ev_i {i : Int} : EV c A env ⟨ς, η⟩ (.Constant (.int i) n pos) (.int i) := ⟨fun _ hk => wE_int hk⟩
theorem ev_s : EV c A env ⟨ς, η⟩ (.Constant (.str x) n pos) (.str x) := ⟨fun _ hk => wE_str hk⟩
theorem ev_b {b : Bool} : EV c A env ⟨ς, η⟩ (.Constant (.bool b) n pos) (.bool b) := ⟨fun _ hk => wE_bool hk⟩
theorem ev_G {v : Value} (hm : c.mg x = some v) (hr : Rd c (fun b => ∃ o, c.G.get? b = some o) c.G X v) (hk : env.kindOf x = some .globalImplicit) (hd : (x == ("__debug__" : Str)) = false := by decide) : EV c A env ⟨ς, η⟩ (.Name x pos) X := ⟨fun _ h => wE_Gname hm hr hk h hd⟩
theorem ev_at {i : Int} (hx : ς.lookup x = some (.tup Xs)) (hi : Xs[i.toNat]? = some X) (h0 : 0 ≤ i := by decide) (h1 : i < 2 ^ 62 := by decide)
  (hd : (x == ("__debug__" : Str)) = false := by decide) (hn : (x == ("__classdict__" : Str)) = false := by decide) : EV c A env ⟨ς, η⟩ (.Subscript (.Name x p₁) (.Constant (.int i) n p₂) p₃) X := ⟨fun _ hk => wE_at hx hi hk h0 h1 hd hn⟩
theorem ev_Sub (h1 : EV c A env ⟨ς, η⟩ l X) (h2 : EV c A env ⟨ς, η⟩ r Y) (h : ItemV c A η X Y Z) (hs : ∀ o j, subscripted r false o j = operate [o, j] (getItem o j) := by intros; rfl) : EV c A env ⟨ς, η⟩ (.Subscript l r pos) Z :=
 ⟨fun _ hk => wE_Sub (h1.run _ (h2.run _ ⟨Z, h, hk⟩)) hs⟩
theorem ev_Bin {op : Operator} (h1 : EV c A env ⟨ς, η⟩ l X) (h2 : EV c A env ⟨ς, η⟩ r Y) (h : BinV c A η op X Y Z) : EV c A env ⟨ς, η⟩ (.BinOp l op r pos) Z := ⟨fun _ hk => wE_BinOp (h1.run _ (h2.run _ ⟨Z, h, hk⟩))⟩
theorem evs0 : EVs c A env ⟨ς, η⟩ pos [] [] := ⟨fun _ hk => wEs_nil hk⟩
theorem evs (h1 : EV c A env ⟨ς, η⟩ e X) (h2 : EVs c A env ⟨ς, η⟩ pos es Xs) (he : starEach (e :: es) env = (false, eval e env) :: starEach es env := by rfl) : EVs c A env ⟨ς, η⟩ pos (e :: es) (X :: Xs) := ⟨fun _ hk => wEs_cons (h1.run _ (h2.run _ hk)) he⟩
theorem ev_Tup (h : EVs c A env ⟨ς, η⟩ pos es Xs) (hl : Xs.length ≤ 10) : EV c A env ⟨ς, η⟩ (.Tuple es n pos) (.tup Xs) := ⟨fun _ hk => wE_Tuple (h.run _ ⟨sz10 hl, hk⟩)⟩
theorem ev_Lst (h : EVs c A env ⟨ς, η⟩ pos es Xs) (hl : Xs.length ≤ 10) : EV c A env ⟨ς, η⟩ (.List es pos) (.lst Xs) := ⟨fun _ hk => wE_List (h.run _ ⟨sz10 hl, hk⟩)⟩
theorem ev_CallB {f : Str} {fv : Value} (hm : c.mg f = none) (hv : bootBuiltins f = some fv) (hf : PlainF fv) (hk : env.kindOf f = some .globalImplicit) (h : EVs c A env ⟨ς, η⟩ pos (e :: es) Xs) (hb : BCall c A η fv Xs X)
  (hn : f ≠ "__name__" := by decide) (hd : (f == ("__debug__" : Str)) = false := by decide) (he : starEach (e :: es) env = (false, eval e env) :: starEach es env := by rfl)
  (hplain : (backTo pos (starEach es env)).any (·.1) = false := by rfl) : EV c A env ⟨ς, η⟩ (.Call (.Name f p) (e :: es) [] pos) X := ⟨fun _ hk' => wE_CallB hm hv hf hk (h.run _ ⟨X, hb, hk'⟩) hn hd he hplain⟩
theorem ev_Pure {f : Str} {a : Addr} {D : DefD} (hf : c.mg f = some (.ref a)) (F : IsFn c a D) (hk : env.kindOf f = some .globalImplicit) (h : EVs c A env ⟨ς, η⟩ pos (e :: es) Xs) (hR : Rm n A) (hp : Pure c n a Xs X)
  (hd : (f == ("__debug__" : Str)) = false := by decide) (he : starEach (e :: es) env = (false, eval e env) :: starEach es env := by rfl) : EV c A env ⟨ς, η⟩ (.Call (.Name f p) (e :: es) [] pos) X := ⟨fun _ hk' => wE_PureF hf F hk (h.run _ ⟨n, X, hR, hp, hk'⟩) hd he⟩
theorem ev_get {es' : List (Str × V)} {o : Expr} {name : Str} (hname : name = "get") (ho : EV c A env ⟨ς, η⟩ o (.dct es')) (h : EVs c A env ⟨ς, η⟩ pos (e :: es) [.str x, X])
  (hbase : attributeBase o name env (eval o env) = eval o env := by rfl) (hline : (p.endLine == pos.line) = true := by rfl)
  (hfew : ((backTo pos (starEach (e :: es) env)).all (fun x => !x.1) && (backToKw pos (keywordEach [] env)).all (fun x => x.1.isSome) && decide ((e :: es).length + ([] : List Keyword).length + (if ([] : List Keyword).isEmpty then 0 else 1) < 30)) = true := by rfl)
  (he : starEach (e :: es) env = (false, eval e env) :: starEach es env := by rfl) (hplain : (backTo pos (starEach (e :: es) env)).any (·.1) = false := by rfl) : EV c A env ⟨ς, η⟩ (.Call (.Attribute o name p) (e :: es) [] pos) ((dget es' x).getD X) := by
 subst hname
 exact ⟨fun _ hk => wE_Meth meth_get (ho.run _ ⟨vt_dct, h.run _ (.inl ⟨_, b_get, hk⟩)⟩) hbase hline hfew he hplain⟩
theorem tp_Cmp {op : CmpOp} {b : Bool} (h1 : EV c A env ⟨ς, η⟩ l X) (h2 : EV c A env ⟨ς, η⟩ r Y) (h : CmpV c A η op X Y b) (hb : b = true ↔ P) (hm : behindInMarks op r = false := by rfl) : TP c A env ⟨ς, η⟩ (.Compare l [op] [r] pos) P :=
 ⟨fun _ hk => wT_Compare (h1.run _ (h2.run _ ⟨b, h, hk b hb⟩)) hm⟩
theorem dec_iff [Decidable P] : decide P = true ↔ P := ⟨of_decide_eq_true, decide_eq_true⟩
theorem ndec_iff [Decidable P] : (!decide P) = true ↔ ¬ P := by rw [Bool.not_eq_true', decide_eq_false_iff_not]
theorem tp_eq (h1 : EV c A env ⟨ς, η⟩ l (.str x)) (h2 : EV c A env ⟨ς, η⟩ r (.str y)) (hm : behindInMarks .Eq r = false := by rfl) : TP c A env ⟨ς, η⟩ (.Compare l [.Eq] [r] pos) (x = y) := tp_Cmp h1 h2 cmp_eq_str dec_iff hm
theorem tp_ne (h1 : EV c A env ⟨ς, η⟩ l (.str x)) (h2 : EV c A env ⟨ς, η⟩ r (.str y)) (hm : behindInMarks .NotEq r = false := by rfl) : TP c A env ⟨ς, η⟩ (.Compare l [.NotEq] [r] pos) (x ≠ y) := tp_Cmp h1 h2 cmp_ne_str ndec_iff hm
theorem tp_eqi {i j : Int} (h1 : EV c A env ⟨ς, η⟩ l (.int i)) (h2 : EV c A env ⟨ς, η⟩ r (.int j)) (hm : behindInMarks .Eq r = false := by rfl) : TP c A env ⟨ς, η⟩ (.Compare l [.Eq] [r] pos) (i = j) := tp_Cmp h1 h2 cmp_eq_int dec_iff hm
theorem tp_gt {i j : Int} (h1 : EV c A env ⟨ς, η⟩ l (.int i)) (h2 : EV c A env ⟨ς, η⟩ r (.int j)) (hm : behindInMarks .Gt r = false := by rfl) : TP c A env ⟨ς, η⟩ (.Compare l [.Gt] [r] pos) (i > j) := tp_Cmp h1 h2 cmp_gt_int dec_iff hm
theorem tp_lt {i j : Int} (h1 : EV c A env ⟨ς, η⟩ l (.int i)) (h2 : EV c A env ⟨ς, η⟩ r (.int j)) (hm : behindInMarks .Lt r = false := by rfl) : TP c A env ⟨ς, η⟩ (.Compare l [.Lt] [r] pos) (i < j) := tp_Cmp h1 h2 cmp_lt_int dec_iff hm
theorem tp_in {xs : List Str} (h1 : EV c A env ⟨ς, η⟩ l (.str x)) (h2 : EV c A env ⟨ς, η⟩ r (.lst (xs.map .str))) (hm : behindInMarks .In r = false := by rfl) : TP c A env ⟨ς, η⟩ (.Compare l [.In] [r] pos) (x ∈ xs) := tp_Cmp h1 h2 cmp_in_strs dec_iff hm
theorem tp_ni {xs : List Str} (h1 : EV c A env ⟨ς, η⟩ l (.str x)) (h2 : EV c A env ⟨ς, η⟩ r (.lst (xs.map .str))) (hm : behindInMarks .NotIn r = false := by rfl) : TP c A env ⟨ς, η⟩ (.Compare l [.NotIn] [r] pos) (x ∉ xs) := tp_Cmp h1 h2 cmp_notin_strs ndec_iff hm
theorem tp_lst {α : Type} {f : α → V} {xs : List α} (h : EV c A env ⟨ς, η⟩ e (.lst (xs.map f))) (hl : xs.length ≤ sizeLine) (he : isTrue e env (eval e env) = (do let v ← eval e env; standAt e.pos; holding [v] (truthy v)) := by rfl) : TP c A env ⟨ς, η⟩ e (xs ≠ []) :=
 ⟨fun _ hk => wT_plain (h.run _ ⟨_, truth_lst rfl (by rw [List.length_map]; exact hl), hk _ (by cases xs <;> simp)⟩) he⟩
theorem tp_not (h : TP c A env ⟨ς, η⟩ e P) : TP c A env ⟨ς, η⟩ (.UnaryOp .Not e pos) (¬ P) := ⟨fun _ hk => wT_Not (h.run _ fun b hb => hk _ (by cases b <;> simp [← hb]))⟩
theorem ta_A0 : TA c A env ⟨ς, η⟩ .And [] True := ⟨fun _ hk => wAll_nil (hk true ⟨fun _ => trivial, fun _ => rfl⟩)⟩
theorem ta_O0 : TA c A env ⟨ς, η⟩ .Or [] False := ⟨fun _ hk => wAll_nil (hk false ⟨fun h => Bool.noConfusion h, fun h => h.elim⟩)⟩
theorem ta_A (h : TP c A env ⟨ς, η⟩ e P) (h2 : P → TA c A env ⟨ς, η⟩ .And es Q) : TA c A env ⟨ς, η⟩ .And (e :: es) (P ∧ Q) := ⟨fun k hk => wAll_and (h.run _ fun b hb => by
 cases b with
 | true => exact (h2 (hb.mp rfl)).run k fun b' hb' => hk b' (hb'.trans ⟨fun q => ⟨hb.mp rfl, q⟩, fun q => q.2⟩)
 | false => exact hk false ⟨fun q => Bool.noConfusion q, fun q => hb.mpr q.1⟩)⟩
theorem ta_O (h : TP c A env ⟨ς, η⟩ e P) (h2 : ¬ P → TA c A env ⟨ς, η⟩ .Or es Q) : TA c A env ⟨ς, η⟩ .Or (e :: es) (P ∨ Q) := ⟨fun k hk => wAll_or (h.run _ fun b hb => by
 cases b with
 | true => exact hk true ⟨fun _ => .inl (hb.mp rfl), fun _ => rfl⟩
 | false => exact (h2 (fun q => Bool.noConfusion (hb.mpr q))).run k fun b' hb' => hk b' (hb'.trans ⟨.inr, fun q => q.elim (fun q => Bool.noConfusion (hb.mpr q)) id⟩))⟩
theorem tp_A2 {e2 : Expr} (h : TP c A env ⟨ς, η⟩ e P) (h2 : P → TP c A env ⟨ς, η⟩ e2 Q) : TP c A env ⟨ς, η⟩ (.BoolOp .And [e, e2] pos) (P ∧ Q) :=
 ⟨fun k hk => wT_BoolOp ((ta_A h (fun q => ta_A (h2 q) fun _ => ta_A0)).run k fun b hb => hk b (hb.trans ⟨fun q => ⟨q.1, q.2.1⟩, fun q => ⟨q.1, q.2, trivial⟩⟩))⟩
theorem tp_A3 {e2 e3 : Expr} {Q' : Prop} (h : TP c A env ⟨ς, η⟩ e P) (h2 : P → TP c A env ⟨ς, η⟩ e2 Q) (h3 : P → Q → TP c A env ⟨ς, η⟩ e3 Q') : TP c A env ⟨ς, η⟩ (.BoolOp .And [e, e2, e3] pos) (P ∧ Q ∧ Q') :=
 ⟨fun k hk => wT_BoolOp ((ta_A h (fun q => ta_A (h2 q) fun q2 => ta_A (h3 q q2) fun _ => ta_A0)).run k fun b hb => hk b (hb.trans ⟨fun q => ⟨q.1, q.2.1, q.2.2.1⟩, fun q => ⟨q.1, q.2.1, q.2.2, trivial⟩⟩))⟩
theorem tp_O2 {e2 : Expr} (h : TP c A env ⟨ς, η⟩ e P) (h2 : ¬ P → TP c A env ⟨ς, η⟩ e2 Q) : TP c A env ⟨ς, η⟩ (.BoolOp .Or [e, e2] pos) (P ∨ Q) :=
 ⟨fun k hk => wT_BoolOp ((ta_O h (fun q => ta_O (h2 q) fun _ => ta_O0)).run k fun b hb => hk b (hb.trans ⟨fun q => q.elim .inl fun q => q.elim .inr False.elim, fun q => q.elim .inl fun q => .inr (.inl q)⟩))⟩
theorem av_N (hk : env.kindOf x = some .local ∨ env.kindOf x = some .cell) : AV c A env ⟨ς, η⟩ (.Name x pos) X ⟨setL ς x X, η⟩ := ⟨fun _ h => wA_Name hk h⟩
theorem avs0 : AVs c A env ⟨ς, η⟩ [] [] ⟨ς, η⟩ := ⟨fun _ h => wAs_nil h⟩
theorem avs {ts : List Expr} {τ : St} (hk : env.kindOf x = some .local ∨ env.kindOf x = some .cell) (h : AVs c A env ⟨setL ς x X, η⟩ ts Xs τ) (he : assignEach (.Name x pos :: ts) env = (false, assign (.Name x pos) env) :: assignEach ts env := by rfl) : AVs c A env ⟨ς, η⟩ (.Name x pos :: ts) (X :: Xs) τ :=
 ⟨fun _ hk' => wAs_cons (wA_Name hk (h.run _ hk')) he⟩
theorem av_T {ts : List Expr} {τ : St} (h : AVs c A env ⟨ς, η⟩ ts Xs τ) (hn : (assignEach ts env).length = Xs.length := by rfl) (hst : (assignEach ts env).findIdx? (·.1) = none := by rfl) : AV c A env ⟨ς, η⟩ (.Tuple ts n pos) (.tup Xs) τ := ⟨fun _ hk => wA_Tuple (h.run _ hk) hn hst⟩
theorem sSet {k : FV → St → Prop} (hk : env.kindOf x = some .local ∨ env.kindOf x = some .cell) (h : EV c A env ⟨ς, η⟩ e X) (hr : WSs c A env ⟨setL ς x X, η⟩ rest k)
  (hs : swapsWith e (some (.Name x p)) pos.line env = pure false := by rfl) (hsw : swappedStores [.Name x p] e env = pure none := by rfl) (hte : (assignEach [.Name x p] env).map (·.2) = [assign (.Name x p) env] := by rfl) :
  WSs c A env ⟨ς, η⟩ (.Assign [.Name x p] e pos :: rest) k := wSs_Set hk (h.run _ hr) hs hsw hte
theorem sUnp {k : FV → St → Prop} {τ : St} (h : EV c A env ⟨ς, η⟩ e X) (ha : AV c A env ⟨ς, η⟩ t X τ) (hr : WSs c A env τ rest k)
  (hs : swapsWith e (some t) pos.line env = pure false := by rfl) (hsw : swappedStores [t] e env = pure none := by rfl) (hte : (assignEach [t] env).map (·.2) = [assign t env] := by rfl) :
  WSs c A env ⟨ς, η⟩ (.Assign [t] e pos :: rest) k := wSs_cons (wS_Assign (h.run _ (ha.run _ hr)) hs hsw hte)
theorem sIf {k : FV → St → Prop} {b o : List Stmt} (h : TP c A env ⟨ς, η⟩ t P) (h1 : P → WSs c A env ⟨ς, η⟩ b (thenS c A env rest k)) (h2 : ¬ P → WSs c A env ⟨ς, η⟩ o (thenS c A env rest k)) : WSs c A env ⟨ς, η⟩ (.If t b o pos :: rest) k :=
 wSs_If (h.run _ fun x hx => by
  cases x with
  | true => exact h1 (hx.mp rfl)
  | false => exact h2 (fun q => Bool.noConfusion (hx.mpr q)))
theorem sRet (h : EV c A env ⟨ς, η⟩ e R) : WSs c A env ⟨ς, η⟩ (.Return (some e) pos :: rest) (RetK R) := wSs_Ret (h.run _ rfl)
theorem sIfR (h : TP c A env ⟨ς, η⟩ t P) (h1 : P → EV c A env ⟨ς, η⟩ e R) (h2 : ¬ P → WSs c A env ⟨ς, η⟩ rest (RetK R)) : WSs c A env ⟨ς, η⟩ (.If t [.Return (some e) p] [] pos :: rest) (RetK R) :=
 sIf h (fun q => wSs_Ret ((h1 q).run _ rfl)) fun q => wSs_nil (h2 q)
theorem pure_def {a : Addr} {D : DefD} {ps : List Str} {body : List Stmt} (F : IsFn c a D) (K : DefK D ps body) (hlen : Xs.length = ps.length)
  (h : ∀ A qual code L, Rm n A → WSs c A (envD D qual code L a) ⟨ps.zip Xs, []⟩ body (RetK R)) : Pure c (n + 1) a Xs R :=
 call_def F K hlen fun A qual code L hR => WP.imp (h A qual code L hR) fun f ω hf => by
  cases hf; exact ⟨⟨[], []⟩, ⟨fun _ _ e => (by simp at e), fun _ _ x => (by cases x), fun _ => .nil⟩, rfl, rfl⟩
theorem av2 (hx : env.kindOf x = some .local ∨ env.kindOf x = some .cell) (hy : env.kindOf y = some .local ∨ env.kindOf y = some .cell) : AV c A env ⟨ς, η⟩ (.Tuple [.Name x p₁, .Name y p₂] n pos) (.tup [X, Y]) ⟨setL (setL ς x X) y Y, η⟩ := av_T (avs hx (avs hy avs0))
theorem av3 {z : Str} (hx : env.kindOf x = some .local ∨ env.kindOf x = some .cell) (hy : env.kindOf y = some .local ∨ env.kindOf y = some .cell) (hz : env.kindOf z = some .local ∨ env.kindOf z = some .cell) : AV c A env ⟨ς, η⟩ (.Tuple [.Name x p₁, .Name y p₂, .Name z p₃] n pos) (.tup [X, Y, Z]) ⟨setL (setL (setL ς x X) y Y) z Z, η⟩ := av_T (avs hx (avs hy (avs hz avs0)))
theorem av4 {z w : Str} (hx : env.kindOf x = some .local ∨ env.kindOf x = some .cell) (hy : env.kindOf y = some .local ∨ env.kindOf y = some .cell) (hz : env.kindOf z = some .local ∨ env.kindOf z = some .cell) (hw : env.kindOf w = some .local ∨ env.kindOf w = some .cell) : AV c A env ⟨ς, η⟩ (.Tuple [.Name x p₁, .Name y p₂, .Name z p₃, .Name w p] n pos) (.tup [X, Y, Z, W]) ⟨setL (setL (setL (setL ς x X) y Y) z Z) w W, η⟩ := av_T (avs hx (avs hy (avs hz (avs hw avs0))))
theorem sIfI {γ : Type} {res : γ → V} {a b : γ} [Decidable P] (h : TP c A env ⟨ς, η⟩ t P) (h1 : P → EV c A env ⟨ς, η⟩ e (res a)) (h2 : ¬ P → WSs c A env ⟨ς, η⟩ rest (RetK (res b))) : WSs c A env ⟨ς, η⟩ (.If t [.Return (some e) p] [] pos :: rest) (RetK (res (if P then a else b))) :=
 sIfR h (fun q => by rw [if_pos q]; exact h1 q) fun q => by rw [if_neg q]; exact h2 q
theorem ev_NS {m : Nat} (hx : ς.lookup x = some X) (hd : (x == ("__debug__" : Str)) = false := by decide) (hn : (x == ("__classdict__" : Str)) = false := by decide) : EV c A env ⟨ς, η⟩ (.Tuple [.Name x p₁, .Constant (.str y) n p₂] m pos) (.tup [X, .str y]) :=
 ev_Tup (evs (ev_N hx hd hn) (evs ev_s evs0)) (Nat.le_of_ble_eq_true rfl)
theorem ev_NN {m : Nat} (hx : ς.lookup x = some X) (hy : ς.lookup y = some Y) (hd : (x == ("__debug__" : Str)) = false := by decide) (hn : (x == ("__classdict__" : Str)) = false := by decide) (hd' : (y == ("__debug__" : Str)) = false := by decide) (hn' : (y == ("__classdict__" : Str)) = false := by decide) : EV c A env ⟨ς, η⟩ (.Tuple [.Name x p₁, .Name y p₂] m pos) (.tup [X, Y]) :=
 ev_Tup (evs (ev_N hx hd hn) (evs (ev_N hy hd' hn') evs0)) (Nat.le_of_ble_eq_true rfl)
theorem ev_addM {α : Type} {f : α → V} {xs ys : List α} (h1 : EV c A env ⟨ς, η⟩ l (.lst (xs.map f))) (h2 : EV c A env ⟨ς, η⟩ r (.lst (ys.map f))) (hl : xs.length + ys.length ≤ sizeLine) : EV c A env ⟨ς, η⟩ (.BinOp l .Add r pos) (.lst ((xs ++ ys).map f)) :=
 ev_eq (ev_Bin h1 h2 (bin_add_lst (by rw [List.length_map, List.length_map]; exact hl))) (by rw [List.map_append])
theorem ev_one {α : Type} {f : α → V} {a : α} (h : EV c A env ⟨ς, η⟩ e (f a)) (he : starEach [e] env = (false, eval e env) :: starEach [] env := by rfl) : EV c A env ⟨ς, η⟩ (.List [e] pos) (.lst ([a].map f)) := ev_Lst (evs h evs0 he) (Nat.le_of_ble_eq_true rfl)
theorem sIfF {k : FV → St → Prop} {b : List Stmt} (h : TP c A env ⟨ς, η⟩ t P) (hn : ¬ P) (h2 : WSs c A env ⟨ς, η⟩ rest k) : WSs c A env ⟨ς, η⟩ (.If t b [] pos :: rest) k := sIf h (fun q => absurd q hn) fun _ => wSs_nil h2
theorem ev_sl {α : Type} {f : α → V} {ys : List α} {v a b : Expr} {i j : Int} (h : EV c A env ⟨ς, η⟩ v (.lst (ys.map f))) (hl : ys.length ≤ sizeLine) (h1 : EV c A env ⟨ς, η⟩ a (.int i)) (h2 : EV c A env ⟨ς, η⟩ b (.int j)) (hi : 0 ≤ i) (hj : 0 ≤ j) :
  EV c A env ⟨ς, η⟩ (.Subscript v (.Slice (some a) (some b) none p) pos) (.lst (((ys.drop i.toNat).take (j.toNat - i.toNat)).map f)) := ⟨fun _ hk =>
 wE_Slice (h.run _ ⟨_, rfl, by rw [List.length_map]; exact hl, wPart_some (h1.run _ ⟨i, rfl, wPart_some (h2.run _ ⟨j, rfl, some i.toNat, some j.toNat, by rw [Option.map_some, Int.toNat_of_nonneg hi], by rw [Option.map_some, Int.toNat_of_nonneg hj], by rw [List.map_take, List.map_drop] at hk; exact hk⟩)⟩)⟩)⟩
theorem ev_slTo {α : Type} {f : α → V} {ys : List α} {v b : Expr} {j : Int} (h : EV c A env ⟨ς, η⟩ v (.lst (ys.map f))) (hl : ys.length ≤ sizeLine) (h2 : EV c A env ⟨ς, η⟩ b (.int j)) (hj : 0 ≤ j) :
  EV c A env ⟨ς, η⟩ (.Subscript v (.Slice none (some b) none p) pos) (.lst ((ys.take j.toNat).map f)) := ⟨fun _ hk =>
 wE_Slice (h.run _ ⟨_, rfl, by rw [List.length_map]; exact hl, wPart_none (wPart_some (h2.run _ ⟨j, rfl, none, some j.toNat, rfl, by rw [Option.map_some, Int.toNat_of_nonneg hj], by rw [List.map_take] at hk; exact hk⟩))⟩)⟩
theorem ev_slFrom {α : Type} {f : α → V} {ys : List α} {v a : Expr} {i : Int} (h : EV c A env ⟨ς, η⟩ v (.lst (ys.map f))) (hl : ys.length ≤ sizeLine) (h1 : EV c A env ⟨ς, η⟩ a (.int i)) (hi : 0 ≤ i) :
  EV c A env ⟨ς, η⟩ (.Subscript v (.Slice (some a) none none p) pos) (.lst ((ys.drop i.toNat).map f)) := ⟨fun _ hk =>
 wE_Slice (h.run _ ⟨_, rfl, by rw [List.length_map]; exact hl, wPart_some (h1.run _ ⟨i, rfl, wPart_none ⟨some i.toNat, none, by rw [Option.map_some, Int.toNat_of_nonneg hi], rfl, by
  rw [List.map_drop] at hk
  have e : ((ys.map f).drop ((some i.toNat).getD 0)).take ((none : Option Nat).getD (ys.map f).length - (some i.toNat).getD 0) = (ys.map f).drop i.toNat := List.take_of_length_le (by rw [List.length_drop]; exact Nat.le_refl _)
  rw [e]; exact hk⟩⟩)⟩)⟩
theorem tp_bool {b : Bool} (h : EV c A env ⟨ς, η⟩ e (.bool b)) (he : isTrue e env (eval e env) = (do let v ← eval e env; standAt e.pos; holding [v] (truthy v)) := by rfl) : TP c A env ⟨ς, η⟩ e (b = true) := ⟨fun _ hk => wT_plain (h.run _ ⟨_, truth_bool, hk _ Iff.rfl⟩) he⟩
theorem ev_atL {i : Int} (hx : ς.lookup x = some (.lst Xs)) (hi : Xs[i.toNat]? = some X) (h0 : 0 ≤ i := by decide) (h1 : i < 2 ^ 62 := by decide)
  (hd : (x == ("__debug__" : Str)) = false := by decide) (hn : (x == ("__classdict__" : Str)) = false := by decide) : EV c A env ⟨ς, η⟩ (.Subscript (.Name x p₁) (.Constant (.int i) n p₂) p₃) X := ev_Sub (ev_N hx hd hn) ev_i (item_lst h0 h1 hi)
theorem ev_T {v : Expr} {i : Int} (hv : EV c A env ⟨ς, η⟩ v (.tup Xs)) (hi : Xs[i.toNat]? = some X) (h0 : 0 ≤ i := by decide) (h1 : i < 2 ^ 62 := by decide) : EV c A env ⟨ς, η⟩ (.Subscript v (.Constant (.int i) n p₂) p₃) X := ev_Sub hv ev_i (item_tup h0 h1 hi)
theorem ev_pick {α : Type} {ls : List α} {f : α → V} {i m : Int} (d : α) (h1 : EV c A env ⟨ς, η⟩ l (.tup (ls.map f))) (h2 : EV c A env ⟨ς, η⟩ r (.int i)) (hm : m = ls.length) (h0 : 0 < ls.length) (hs : ls.length < 1000) (hm0 : m ≠ 0 := by decide) :
  EV c A env ⟨ς, η⟩ (.Subscript l (.BinOp r .Mod (.Constant (.int m) n p₁) p₂) p₃) (f (pick ls d i)) := ev_Sub h1 (ev_Bin h2 ev_i (bin_mod_int hm0)) (item_pick ls d f hm h0 hs)
theorem ev_pickL {α : Type} {ls : List α} {f : α → V} {i m : Int} (d : α) (h1 : EV c A env ⟨ς, η⟩ l (.lst (ls.map f))) (h2 : EV c A env ⟨ς, η⟩ r (.int i)) (hm : m = ls.length) (h0 : 0 < ls.length) (hs : ls.length < 1000) (hm0 : m ≠ 0 := by decide) :
  EV c A env ⟨ς, η⟩ (.Subscript l (.BinOp r .Mod (.Constant (.int m) n p₁) p₂) p₃) (f (pick ls d i)) := ev_Sub h1 (ev_Bin h2 ev_i (bin_mod_int hm0)) (item_pickL ls d f hm h0 hs)
noncomputable def GV (c : Cx) (f : Str) (X : V) : Prop := ∃ v, c.mg f = some v ∧ Rd c (fun b => ∃ o, c.G.get? b = some o) c.G X v
theorem ev_GV (g : GV c x X) (hk : env.kindOf x = some .globalImplicit) (hd : (x == ("__debug__" : Str)) = false := by decide) : EV c A env ⟨ς, η⟩ (.Name x pos) X := E12 g fun _ h1 h2 => ev_G h1 h2 hk hd
theorem ev_B {T : String} (hm : c.mg x = none) (hv : bootBuiltins x = some (.type T)) (hk : env.kindOf x = some .globalImplicit) (hn : x ≠ "__name__" := by decide) (hd : (x == ("__debug__" : Str)) = false := by decide) : EV c A env ⟨ς, η⟩ (.Name x pos) (.typ T) := ⟨fun _ h => wE_Bname hm hv hk h hn hd⟩
theorem ff_iff : false = true ↔ False := ⟨fun h => Bool.noConfusion h, False.elim⟩
end
theorem sz100 {n : Nat} (h : n ≤ 100) : n ≤ sizeLine := Nat.le_trans h (by decide)
theorem sz900 {n : Nat} (h : n ≤ 900) : n ≤ sizeLine := Nat.le_trans h (by decide)
section
variable {c : Cx} {A : Around} {env cenv : Env} {ς ςc : List (Str × V)} {η ηc : List (Addr × O)} {pos spos : Pos} {α β : Type} {f : α → V} {h : β → V} {target elt iter cond t : Expr} {ifs : List Expr} {scope : Scope} {X Y : V} {xs : List V} {ls : List α}
noncomputable def TurnB (c : Cx) (A : Around) (cenv : Env) (ςc : List (Str × V)) (H : List (Addr × O)) (target : Expr) (ifs : List Expr) (elt : Expr) (X : V) (P : Prop) (Y : V) : Prop :=
 ∃ l', AV c A cenv ⟨ςc, H⟩ target X ⟨l', H⟩ ∧ (∀ k : Bool → St → Prop, (∀ b, (b = true ↔ P) → k b ⟨l', H⟩) → WTs c A cenv ⟨l', H⟩ ifs true k) ∧ (P → EV c A cenv ⟨l', H⟩ elt Y) ∧ LeL ςc l'
noncomputable def TurnD (c : Cx) (A : Around) (cenv : Env) (ςc : List (Str × V)) (ηc : List (Addr × O)) (target : Expr) (ifs : List Expr) (elt : Expr) (X : V) (P : Prop) (Y : V) : Prop :=
 ∀ H, (∀ q ∈ ηc, q ∈ H) → TurnB c A cenv ςc H target ifs elt X P Y
theorem tI {P : Prop} {l' : List (Str × V)} {H : List (Addr × O)} (h1 : AV c A cenv ⟨ςc, H⟩ target X ⟨l', H⟩) (h2 : TP c A cenv ⟨l', H⟩ cond P) (h3 : P → EV c A cenv ⟨l', H⟩ elt Y) (h4 : LeL ςc l') : TurnB c A cenv ςc H target [cond] elt X P Y :=
 ⟨l', h1, fun k hk => wTs_cons (h2.run _ fun b hb => by
  cases b with
  | true => exact wTs_nil (hk _ hb)
  | false => exact hk _ hb), h3, h4⟩
theorem tM {l' : List (Str × V)} {H : List (Addr × O)} (h1 : AV c A cenv ⟨ςc, H⟩ target X ⟨l', H⟩) (h2 : EV c A cenv ⟨l', H⟩ elt Y) (h3 : LeL ςc l') : TurnB c A cenv ςc H target [] elt X True Y :=
 ⟨l', h1, fun k hk => wTs_nil (hk true ⟨fun _ => trivial, fun _ => rfl⟩), fun _ => h2, h3⟩
theorem TurnD.turn {P : Prop} [Decidable P] (T : TurnD c A cenv ςc ηc target ifs elt X P Y) : Turn1 c A cenv ⟨ςc, ηc⟩ target ifs elt X (if P then [Y] else []) := fun D zs => by
 obtain ⟨l', h1, h2, h3, h4⟩ := T ((D, O.lst zs) :: ηc) fun q hq => .tail _ hq
 refine h1.run _ (h2 _ fun b hb => ?_)
 cases b with
 | true => exact (h3 (hb.mp rfl)).run _ ⟨if_pos (hb.mp rfl), h4.le⟩
 | false => exact ⟨h4.le, if_neg fun q => Bool.noConfusion (hb.mpr q)⟩
theorem sel_len {P : α → Prop} [DecidablePred P] {y : α → β} (l : List α) : (sel l P y).length ≤ l.length := by
 induction l with
 | nil => exact Nat.le_refl _
 | cons a l ih =>
  have e : sel (a :: l) P y = (if P a then [y a] else []) ++ sel l P y := rfl
  rw [e, List.length_append, List.length_cons]
  by_cases q : P a
  ·rw [if_pos q]; show 1 + _ ≤ _; omega
  ·rw [if_neg q]; show 0 + _ ≤ _; omega
theorem sel_map {P : α → Prop} [DecidablePred P] {y : α → β} (l : List α) : (l.flatMap fun a => if P a then [h (y a)] else []) = (sel l P y).map h := by
 unfold sel
 rw [List.map_flatMap]
 congr 1; funext a
 by_cases q : P a
 ·rw [if_pos q, if_pos q]; rfl
 ·rw [if_neg q, if_neg q]; rfl
theorem sel_true {y : α → β} (l : List α) : sel l (fun _ => True) y = l.map y := by
 unfold sel
 induction l with
 | nil => rfl
 | cons a l ih => rw [List.flatMap_cons, ih]; rfl
theorem sel_filter {P : α → Prop} [DecidablePred P] (l : List α) : sel l P id = l.filter fun a => decide (P a) := by
 unfold sel
 induction l with
 | nil => rfl
 | cons a l ih =>
  rw [List.flatMap_cons, ih, List.filter_cons]
  by_cases q : P a
  ·rw [if_pos q, if_pos (decide_eq_true q)]; rfl
  ·rw [if_neg q, if_neg (by simpa using q)]; rfl
theorem ev_Comp (P : α → Prop) [DecidablePred P] (h : β → V) (y : α → β) (hf : Inj f) (OK : CompOk scope env) (hi : EV c A env ⟨ς, η⟩ iter (.lst xs)) (hx : xs = ls.map f) (hl : ls.length ≤ sizeLine)
  (ht : ∀ C, ∀ a ∈ ls, TurnD c A (cenvOf scope env C) (capsOf scope ς) η target ifs elt (f a) (P a) (h (y a))) (hp : plainTarget target = true := by rfl)
  (hs : ∀ x, foldedSetIterable iter env x = pure x := by intro _; rfl) : EV c A env ⟨ς, η⟩ (.ListComp elt [⟨target, iter, ifs, 0⟩] scope pos) (.lst ((sel ls P y).map h)) := ⟨fun k hk =>
 wE_CompG hf OK (hi.run _ ⟨xs, seq_lst hp, ls, _, hx, by rw [sel_map, List.length_map]; exact Nat.le_trans (sel_len _) hl, fun C a ha => (ht C a ha).turn, by rw [sel_map]; exact hk⟩) hs⟩
theorem sComp {k : FV → St → Prop} {x : Str} {p : Pos} {rest : List Stmt} (P : α → Prop) [DecidablePred P] (h : β → V) (y : α → β) (hf : Inj f) (OK : CompOk scope env) (hk : env.kindOf x = some .local ∨ env.kindOf x = some .cell) (hi : EV c A env ⟨ς, η⟩ iter (.lst xs)) (hx : xs = ls.map f) (hl : ls.length ≤ sizeLine)
  (ht : ∀ C, ∀ a ∈ ls, TurnD c A (cenvOf scope env C) (capsOf scope ς) η target ifs elt (f a) (P a) (h (y a))) (hr : WSs c A env ⟨setL ς x (.lst ((sel ls P y).map h)), η⟩ rest k) (hp : plainTarget target = true := by rfl)
  (hs : ∀ x, foldedSetIterable iter env x = pure x := by intro _; rfl) (hsw : swapsWith (.ListComp elt [⟨target, iter, ifs, 0⟩] scope pos) (some (.Name x p)) spos.line env = pure true := by rfl)
  (hte : (assignEach [.Name x p] env).map (·.2) = [assign (.Name x p) env] := by rfl) : WSs c A env ⟨ς, η⟩ (.Assign [.Name x p] (.ListComp elt [⟨target, iter, ifs, 0⟩] scope pos) spos :: rest) k :=
 wSs_cons (wS_AssignCompG hf OK (hi.run _ ⟨xs, seq_lst hp, ls, _, hx, by rw [sel_map, List.length_map]; exact Nat.le_trans (sel_len _) hl, fun C a ha => (ht C a ha).turn, by rw [sel_map]; exact wA_Name hk hr⟩) hs hsw hte)
theorem ev_CompY (h : β → V) (y : α → β) (hf : Inj f) (OK : CompOk scope env) (hi : EV c A env ⟨ς, η⟩ iter (.lst xs)) (hx : xs = ls.map f) (hl : ls.length ≤ sizeLine)
  (ht : ∀ C, ∀ a ∈ ls, TurnD c A (cenvOf scope env C) (capsOf scope ς) η target ifs elt (f a) True (h (y a))) (hp : plainTarget target = true := by rfl)
  (hs : ∀ x, foldedSetIterable iter env x = pure x := by intro _; rfl) : EV c A env ⟨ς, η⟩ (.ListComp elt [⟨target, iter, ifs, 0⟩] scope pos) (.lst ((ls.map y).map h)) :=
 ev_eq (ev_Comp (fun _ => True) h y hf OK hi hx hl ht hp hs) (by rw [sel_true])
theorem ev_CompF (P : α → Prop) [DecidablePred P] (hf : Inj f) (OK : CompOk scope env) (hi : EV c A env ⟨ς, η⟩ iter (.lst xs)) (hx : xs = ls.map f) (hl : ls.length ≤ sizeLine)
  (ht : ∀ C, ∀ a ∈ ls, TurnD c A (cenvOf scope env C) (capsOf scope ς) η target ifs elt (f a) (P a) (f a)) (hp : plainTarget target = true := by rfl)
  (hs : ∀ x, foldedSetIterable iter env x = pure x := by intro _; rfl) : EV c A env ⟨ς, η⟩ (.ListComp elt [⟨target, iter, ifs, 0⟩] scope pos) (.lst ((ls.filter fun a => decide (P a)).map f)) :=
 ev_eq (ev_Comp P f id hf OK hi hx hl ht hp hs) (by rw [sel_filter])
theorem sCompF {k : FV → St → Prop} {x : Str} {p : Pos} {rest : List Stmt} (P : α → Prop) [DecidablePred P] (hf : Inj f) (OK : CompOk scope env) (hk : env.kindOf x = some .local ∨ env.kindOf x = some .cell) (hi : EV c A env ⟨ς, η⟩ iter (.lst xs)) (hx : xs = ls.map f) (hl : ls.length ≤ sizeLine)
  (ht : ∀ C, ∀ a ∈ ls, TurnD c A (cenvOf scope env C) (capsOf scope ς) η target ifs elt (f a) (P a) (f a)) (hr : WSs c A env ⟨setL ς x (.lst ((ls.filter fun a => decide (P a)).map f)), η⟩ rest k) (hp : plainTarget target = true := by rfl)
  (hs : ∀ x, foldedSetIterable iter env x = pure x := by intro _; rfl) (hsw : swapsWith (.ListComp elt [⟨target, iter, ifs, 0⟩] scope pos) (some (.Name x p)) spos.line env = pure true := by rfl)
  (hte : (assignEach [.Name x p] env).map (·.2) = [assign (.Name x p) env] := by rfl) : WSs c A env ⟨ς, η⟩ (.Assign [.Name x p] (.ListComp elt [⟨target, iter, ifs, 0⟩] scope pos) spos :: rest) k :=
 sComp P f id hf OK hk hi hx hl ht (by rw [sel_filter]; exact hr) hp hs hsw hte
theorem sCompY {k : FV → St → Prop} {x : Str} {p : Pos} {rest : List Stmt} (h : β → V) (y : α → β) (hf : Inj f) (OK : CompOk scope env) (hk : env.kindOf x = some .local ∨ env.kindOf x = some .cell) (hi : EV c A env ⟨ς, η⟩ iter (.lst xs)) (hx : xs = ls.map f) (hl : ls.length ≤ sizeLine)
  (ht : ∀ C, ∀ a ∈ ls, TurnD c A (cenvOf scope env C) (capsOf scope ς) η target ifs elt (f a) True (h (y a))) (hr : WSs c A env ⟨setL ς x (.lst ((ls.map y).map h)), η⟩ rest k) (hp : plainTarget target = true := by rfl)
  (hs : ∀ x, foldedSetIterable iter env x = pure x := by intro _; rfl) (hsw : swapsWith (.ListComp elt [⟨target, iter, ifs, 0⟩] scope pos) (some (.Name x p)) spos.line env = pure true := by rfl)
  (hte : (assignEach [.Name x p] env).map (·.2) = [assign (.Name x p) env] := by rfl) : WSs c A env ⟨ς, η⟩ (.Assign [.Name x p] (.ListComp elt [⟨target, iter, ifs, 0⟩] scope pos) spos :: rest) k :=
 sComp (fun _ => True) h y hf OK hk hi hx hl ht (by rw [sel_true]; exact hr) hp hs hsw hte
theorem sel_filterB {pb : α → Bool} {y : α → β} (l : List α) : sel l (fun a => pb a = true) y = (l.filter pb).map y := by
 unfold sel
 induction l with
 | nil => rfl
 | cons a l ih =>
  rw [List.flatMap_cons, ih, List.filter_cons]
  by_cases q : pb a = true
  ·rw [if_pos q, if_pos q]; rfl
  ·rw [if_neg q, if_neg q]; rfl
theorem ev_CompB (pb : α → Bool) (h : β → V) (y : α → β) (hf : Inj f) (OK : CompOk scope env) (hi : EV c A env ⟨ς, η⟩ iter (.lst xs)) (hx : xs = ls.map f) (hl : ls.length ≤ sizeLine)
  (ht : ∀ C, ∀ a ∈ ls, TurnD c A (cenvOf scope env C) (capsOf scope ς) η target ifs elt (f a) (pb a = true) (h (y a))) (hp : plainTarget target = true := by rfl)
  (hs : ∀ x, foldedSetIterable iter env x = pure x := by intro _; rfl) : EV c A env ⟨ς, η⟩ (.ListComp elt [⟨target, iter, ifs, 0⟩] scope pos) (.lst (((ls.filter pb).map y).map h)) :=
 ev_eq (ev_Comp (fun a => pb a = true) h y hf OK hi hx hl ht hp hs) (by rw [sel_filterB])
theorem sCompB {k : FV → St → Prop} {x : Str} {p : Pos} {rest : List Stmt} (pb : α → Bool) (hf : Inj f) (OK : CompOk scope env) (hk : env.kindOf x = some .local ∨ env.kindOf x = some .cell) (hi : EV c A env ⟨ς, η⟩ iter (.lst xs)) (hx : xs = ls.map f) (hl : ls.length ≤ sizeLine)
  (ht : ∀ C, ∀ a ∈ ls, TurnD c A (cenvOf scope env C) (capsOf scope ς) η target ifs elt (f a) (pb a = true) (f a)) (hr : WSs c A env ⟨setL ς x (.lst ((ls.filter pb).map f)), η⟩ rest k) (hp : plainTarget target = true := by rfl)
  (hs : ∀ x, foldedSetIterable iter env x = pure x := by intro _; rfl) (hsw : swapsWith (.ListComp elt [⟨target, iter, ifs, 0⟩] scope pos) (some (.Name x p)) spos.line env = pure true := by rfl)
  (hte : (assignEach [.Name x p] env).map (·.2) = [assign (.Name x p) env] := by rfl) : WSs c A env ⟨ς, η⟩ (.Assign [.Name x p] (.ListComp elt [⟨target, iter, ifs, 0⟩] scope pos) spos :: rest) k :=
 sComp (fun a => pb a = true) f id hf OK hk hi hx hl ht (by rw [sel_filterB, List.map_id]; exact hr) hp hs hsw hte
theorem t2 {γ : Type} {f' : γ → V} {m : List γ} {P : γ → Prop} [DecidablePred P] {y : γ → β} {l' : List (Str × V)} {target' iter' : Expr} {ifs' : List Expr} {xs' : List V} (hf' : Inj f') (h1 : ∀ H, (∀ q ∈ ηc, q ∈ H) → AV c A cenv ⟨ςc, H⟩ target X ⟨l', H⟩)
  (h2 : ∀ H, (∀ q ∈ ηc, q ∈ H) → EV c A cenv ⟨l', H⟩ iter' (.lst xs')) (hx : xs' = m.map f') (h3 : LeL ςc l') (h4 : ∀ b ∈ m, TurnD c A cenv l' ηc target' ifs' elt (f' b) (P b) (h (y b))) (hp : plainTarget target' = true := by rfl) :
  Turn2 c A cenv ⟨ςc, ηc⟩ target [] target' iter' ifs' elt X ((sel m P y).map h) := Turn2.of hf' fun D zs => by
 have hH : ∀ q ∈ ηc, q ∈ ((D, O.lst zs) :: ηc) := fun q hq => .tail _ hq
 exact (h1 _ hH).run _ (wTs_nil ((h2 _ hH).run _ ⟨xs', seq_lst hp, ⟨l', ηc⟩, m, fun b => if P b then [h (y b)] else [], hx, St.le.refl _, (sel_map m).symm, h3, rfl, fun b hb => (h4 b hb).turn⟩))
theorem sel2_len {γ : Type} {m : α → List γ} {P : α → γ → Prop} [∀ a, DecidablePred (P a)] {y : α → γ → β} {k : Nat} : ∀ (l : List α) (_ : ∀ a ∈ l, (m a).length ≤ k), (l.flatMap fun a => sel (m a) (P a) (y a)).length ≤ l.length * k
 | [], _ => Nat.zero_le _
 | a :: l, hm => by
  have h1 := sel_len (P := P a) (y := y a) (m a)
  have h2 := sel2_len (P := P) (y := y) l fun b hb => hm b (.tail _ hb)
  have h3 := hm a (.head _)
  rw [List.flatMap_cons, List.length_append, List.length_cons, Nat.add_mul, Nat.one_mul]
  omega
noncomputable def LoopB (c : Cx) (A : Around) (env : Env) (ς : List (Str × V)) (η : List (Addr × O)) (target t e : Expr) (X : V) (P : Prop) (R : V) : Prop :=
 ∃ l', AV c A env ⟨ς, η⟩ target X ⟨l', η⟩ ∧ TP c A env ⟨l', η⟩ t P ∧ (P → EV c A env ⟨l', η⟩ e R) ∧ LeL ς l'
theorem tL {P : Prop} {R : V} {e : Expr} {l' : List (Str × V)} (h1 : AV c A env ⟨ς, η⟩ target X ⟨l', η⟩) (h2 : TP c A env ⟨l', η⟩ t P) (h3 : P → EV c A env ⟨l', η⟩ e R) (h4 : LeL ς l') : LoopB c A env ς η target t e X P R := ⟨l', h1, h2, h3, h4⟩
theorem sFor {k : FV → St → Prop} {P : α → Prop} {R : V} {e : Expr} {rest : List Stmt} {fp ip rp : Pos} (hi : EV c A env ⟨ς, η⟩ iter (.lst xs)) (hx : xs = ls.map f) (ht : ∀ a ∈ ls, LoopB c A env ς η target t e (f a) (P a) R)
  (hit : (∃ a ∈ ls, P a) → ∀ τ, k (.ret R) τ) (done : (∀ a ∈ ls, ¬ P a) → WSs c A env ⟨ς, η⟩ rest k) (hp : plainTarget target = true := by rfl) (hs : ∀ x, foldedSetIterable iter env x = pure x := by intro _; rfl) :
  WSs c A env ⟨ς, η⟩ (.For target iter [.If t [.Return (some e) rp] [] ip] [] fp :: rest) k := by
 refine wSs_cons (wS_For (fun r τ' => ∃ td pre, τ' = ⟨ς, η⟩ ∧ r = td.map f ∧ ls = pre ++ td ∧ ∀ a ∈ pre, ¬ P a) (hi.run _ ⟨_, seq_lst hp, ?_⟩) ?_ ?_ hs)
 ·intro ys hy
  subst hy
  exact ⟨⟨ς, η⟩, St.le.refl _, ls, [], rfl, hx, rfl, fun a h => nomatch h⟩
 ·intro X r τ' hJ
  refine E24 hJ fun td pre h1 h2 h3 h4 => ?_
  clear hJ
  cases td with
  | nil => cases h2
  | cons a td =>
   rw [List.map_cons] at h2
   have e1 := (List.cons.inj h2).1
   have e2 := (List.cons.inj h2).2
   subst h1; subst e1; subst e2
   have ha : a ∈ ls := by rw [h3]; exact List.mem_append_right _ (.head _)
   refine E14 (ht a ha) fun l' a1 a2 a3 a4 => ?_
   refine a1.run _ (wSs_If (a2.run _ fun b hb => ?_))
   cases b with
   | true => exact wSs_Ret ((a3 (hb.mp rfl)).run _ (hit ⟨a, ha, hb.mp rfl⟩ _))
   | false => exact wSs_nil (wSs_nil ⟨⟨ς, η⟩, a4.le, td, pre ++ [a], rfl, rfl, by rw [h3, List.append_assoc]; rfl, fun b' hb' => (List.mem_append.mp hb').elim (h4 b') fun q => by
     rw [List.mem_singleton.mp q]; exact fun q => Bool.noConfusion (hb.mpr q)⟩)
 ·intro τ' hJ
  refine E24 hJ fun td pre h1 h2 h3 h4 => ?_
  clear hJ
  subst h1
  cases td with
  | cons a td => cases h2
  | nil =>
   rw [List.append_nil] at h3
   exact done (by rw [h3]; exact h4)
theorem cok {D : DefD} {qual : Str} {code : Value} {L a : Addr} (h1 : scope.kind = .function) (h2 : (scope.names.map (·.1)).Nodup) (h3 : ∀ p ∈ scope.names, p.2 = .free → D.scope.names.lookup p.1 = some .cell) : CompOk scope (envD D qual code L a) := ⟨h1, h2, h3⟩
end
end Mine
end
noncomputable section
namespace Mine
open PySem PySem.SeqAt PyProof.Rows
noncomputable def RetH (R : V) (H : List (Addr × O)) (f : FV) (σ : St) : Prop := f = .ret R ∧ ∃ l, σ.le ⟨l, H⟩
theorem retH {R : V} {H : List (Addr × O)} {l : List (Str × V)} : RetH R H (.ret R) ⟨l, H⟩ := ⟨rfl, l, St.le.refl _⟩
theorem retLe {R : V} {H : List (Addr × O)} {l : List (Str × V)} {σ : St} (h : σ.le ⟨l, H⟩) : RetH R H (.ret R) σ := ⟨rfl, l, h⟩
theorem def_H {c : Cx} {a : Addr} {D : DefD} {n : Nat} {ps : List Str} {Xs : List V} {H H' : List (Addr × O)} {R : V} {body : List Stmt} (F : IsFn c a D) (K : DefK D ps body) (hlen : Xs.length = ps.length)
  (h : ∀ A qual code L, Rm n A → WSs c A (envD D qual code L a) ⟨ps.zip Xs, H⟩ body (RetH R H')) : CallSpec c (n + 1) a H Xs fun X H'' => X = R ∧ H'' = H' :=
 call_def F K hlen fun A qual code L hR => WP.imp (h A qual code L hR) fun f ω => R02 fun z q => E11 q fun l hl => I13 ⟨l, H'⟩ hl (congrArg retV z) rfl
theorem CRest.all {c : Cx} {A : Around} {f : Addr} {Xs : List V} {k : V → St → Prop} {σ : St} {n : Nat} {post : V → List (Addr × O) → Prop} (hR : Rm n A) (h : CallSpec c n f σ.hp Xs post) (hk : ∀ Y H', post Y H' → k Y ⟨σ.loc, H'⟩) : CRest c A f Xs k σ :=
 (I44 n σ.hp [] post hR (by rw [List.append_nil]) h (fun Y H' hp => by rw [List.append_nil]; exact hk Y H' hp))
theorem le_eq {l : List (Str × V)} {H H' : List (Addr × O)} (e : H = H') : St.le ⟨l, H⟩ ⟨l, H'⟩ := e ▸ St.le.refl _
theorem le_cons {d : Addr} {ob : O} {τ : St} {ς : List (Str × V)} {η : List (Addr × O)} (h : τ.le ⟨ς, η⟩) : St.le ⟨τ.loc, (d, ob) :: τ.hp⟩ ⟨ς, (d, ob) :: η⟩ := by
 refine I03 h.1 (fun b o x => ?_) fun q => ?_
 ·rcases List.mem_cons.mp x with e | e
  ·rw [e]; exact .head _
  ·exact .tail _ (h.2.1 b o e)
 ·rw [List.map_cons, List.nodup_cons] at q ⊢
  refine ⟨fun m => q.1 ?_, h.2.2 q.2⟩
  refine E12 (List.mem_map.mp m) fun e he ee => ?_
  rw [← ee]
  exact List.mem_map_of_mem (h.2.1 e.1 e.2 he)
section
variable {c : Cx} {A : Around} {env : Env} {ς : List (Str × V)} {η : List (Addr × O)} {p p₁ p₂ p₃ pos spos : Pos} {n : Nat} {X Y Z W R : V} {Xs : List V} {e l r t : Expr} {es : List Expr} {P Q : Prop} {x y : Str} {rest : List Stmt}
theorem sRetH (h : EV c A env ⟨ς, η⟩ e R) : WSs c A env ⟨ς, η⟩ (.Return (some e) pos :: rest) (RetH R η) := wSs_Ret (h.run _ retH)
theorem sRetP {H : List (Addr × O)} {l : List (Str × V)} (h : EV c A env ⟨ς, η⟩ e R) (hl : St.le ⟨ς, η⟩ ⟨l, H⟩) : WSs c A env ⟨ς, η⟩ (.Return (some e) pos :: rest) (RetH R H) := wSs_Ret (h.run _ (retLe hl))
theorem sIfQ {γ : Type} {K : γ → FV → St → Prop} {a b : γ} [Decidable P] (h : TP c A env ⟨ς, η⟩ t P) (h1 : P → EV c A env ⟨ς, η⟩ e X) (hk : K a (.ret X) ⟨ς, η⟩) (h2 : ¬ P → WSs c A env ⟨ς, η⟩ rest (K b)) : WSs c A env ⟨ς, η⟩ (.If t [.Return (some e) p] [] pos :: rest) (K (if P then a else b)) :=
 sIf h (fun q => wSs_Ret ((h1 q).run _ (by rw [if_pos q]; exact hk))) fun q => wSs_nil (by rw [if_neg q]; exact h2 q)
theorem sIfQN {γ : Type} {K : γ → FV → St → Prop} {a b : γ} [Decidable P] (h : TP c A env ⟨ς, η⟩ t (¬ P)) (h1 : ¬ P → EV c A env ⟨ς, η⟩ e X) (hk : K a (.ret X) ⟨ς, η⟩) (h2 : P → WSs c A env ⟨ς, η⟩ rest (K b)) : WSs c A env ⟨ς, η⟩ (.If t [.Return (some e) p] [] pos :: rest) (K (if P then b else a)) :=
 sIf h (fun q => wSs_Ret ((h1 q).run _ (by rw [if_neg q]; exact hk))) fun q => wSs_nil (by rw [if_pos (Decidable.of_not_not q)]; exact h2 (Decidable.of_not_not q))
theorem sEl {k : FV → St → Prop} {b o : List Stmt} (h : TP c A env ⟨ς, η⟩ t P) (hn : ¬ P) (h2 : WSs c A env ⟨ς, η⟩ o (thenS c A env rest k)) : WSs c A env ⟨ς, η⟩ (.If t b o pos :: rest) k := sIf h (fun q => absurd q hn) fun _ => h2
theorem sTh {k : FV → St → Prop} {b o : List Stmt} (h : TP c A env ⟨ς, η⟩ t P) (hp : P) (h1 : WSs c A env ⟨ς, η⟩ b (thenS c A env rest k)) : WSs c A env ⟨ς, η⟩ (.If t b o pos :: rest) k := sIf h (fun _ => h1) fun q => absurd hp q
theorem sIfB {γ : Type} {K : γ → FV → St → Prop} {a b : γ} {sts : List Stmt} [Decidable P] (h : TP c A env ⟨ς, η⟩ t P) (h1 : P → WSs c A env ⟨ς, η⟩ sts (thenS c A env rest (K a))) (h2 : ¬ P → WSs c A env ⟨ς, η⟩ rest (K b)) : WSs c A env ⟨ς, η⟩ (.If t sts [] pos :: rest) (K (if P then a else b)) :=
 sIf h (fun q => by rw [if_pos q]; exact h1 q) fun q => wSs_nil (by rw [if_neg q]; exact h2 q)
theorem sIfH {K : FV → St → Prop} (h : TP c A env ⟨ς, η⟩ t P) (hp : P) (h1 : EV c A env ⟨ς, η⟩ e X) (hk : K (.ret X) ⟨ς, η⟩) : WSs c A env ⟨ς, η⟩ (.If t [.Return (some e) p] [] pos :: rest) K := sTh h hp (wSs_Ret (h1.run _ hk))
theorem sSub {k : FV → St → Prop} {o i : Expr} {a : Addr} {oo o' : O} (hv : EV c A env ⟨ς, η⟩ e W) (ho : EV c A env ⟨ς, η⟩ o X) (hi : EV c A env ⟨ς, η⟩ i Y) (ha : (a, oo) ∈ η) (hS : SetV c A η X Y W a o') (hr : WSs c A env ⟨ς, hset η a o'⟩ rest k)
  (hs : swapsWith e (some (.Subscript o i p)) pos.line env = pure false := by rfl) (hsw : swappedStores [.Subscript o i p] e env = pure none := by rfl) (hte : (assignEach [.Subscript o i p] env).map (·.2) = [assign (.Subscript o i p) env] := by rfl) :
  WSs c A env ⟨ς, η⟩ (.Assign [.Subscript o i p] e pos :: rest) k := wSs_cons (wS_Assign (hv.run _ (wA_Sub (ho.run _ (hi.run _ (I33 a oo o' ha hS hr))))) hs hsw hte)
theorem sDel {k : FV → St → Prop} {o i : Expr} {a : Addr} {oo o' : O} (ho : EV c A env ⟨ς, η⟩ o X) (hi : EV c A env ⟨ς, η⟩ i Y) (ha : (a, oo) ∈ η) (hS : DelV c A η X Y a o') (hr : WSs c A env ⟨ς, hset η a o'⟩ rest k)
  (he : deleteEach [.Subscript o i p] env = (do delete (.Subscript o i p) env; pure ()) := by rfl) : WSs c A env ⟨ς, η⟩ (.Delete [.Subscript o i p] pos :: rest) k := wSs_cons (wS_Del (ho.run _ (hi.run _ (I33 a oo o' ha hS hr))) he)
theorem sAug {k : FV → St → Prop} {o i v : Expr} {op : Operator} {a : Addr} {oo o' : O} {w w' : V} (ho : EV c A env ⟨ς, η⟩ o X) (hi : EV c A env ⟨ς, η⟩ i Y) (hit : ItemV c A η X Y w) (hv : EV c A env ⟨ς, η⟩ v Z) (hop : AOk A → ∀ Z' P s x y, HpR c Z' P s.heap η → Rd c Z' s.heap w x → Rd c Z' s.heap Z y → Res c A Z' s (inplaceOp op x y) w')
  (ha : (a, oo) ∈ η) (hS : SetV c A η X Y w' a o') (hr : WSs c A env ⟨ς, hset η a o'⟩ rest k) (hst : ∀ ov iv new, augStore i ov iv new = (do holding [new, ov, iv] (setItem ov iv new); release [new, ov, iv] []; pure .next) := by intros; rfl) :
  WSs c A env ⟨ς, η⟩ (.AugAssign (.Subscript o i p) op v pos :: rest) k := wSs_cons (wS_AugSub (ho.run _ (hi.run _ ⟨w, hit, hv.run _ ⟨w', hop, a, oo, o', ha, hS, hr⟩⟩)) hst)
theorem WSs.hs {pre post : List (Addr × O)} {d : Addr} {o o' : O} {l : List (Str × V)} {sts : List Stmt} {k : FV → St → Prop} (h : WSs c A env ⟨l, pre ++ (d, o') :: post⟩ sts k) : WSs c A env ⟨l, hset (pre ++ (d, o) :: post) d o'⟩ sts k :=
 WSs.nd fun hnd => by
  simp only [hset_fst] at hnd
  rw [hset_mid hnd]; exact h
theorem sMeth {k : FV → St → Prop} {o : Expr} {name : Str} {T id : String} {a : Addr} {oo o' : O} (m : MethOf T name id) (ho : EV c A env ⟨ς, η⟩ o X) (hv : VT c η X T) (hes : EVs c A env ⟨ς, η⟩ pos (e :: es) Xs) (ha : (a, oo) ∈ η) (hU : UCall c A η (.builtin id) (X :: Xs) a o' Y) (hr : WSs c A env ⟨ς, hset η a o'⟩ rest k)
  (hbase : attributeBase o name env (eval o env) = eval o env := by rfl) (hline : (p.endLine == pos.line) = true := by rfl)
  (hfew : ((backTo pos (starEach (e :: es) env)).all (fun x => !x.1) && (backToKw pos (keywordEach [] env)).all (fun x => x.1.isSome) && decide ((e :: es).length + ([] : List Keyword).length + (if ([] : List Keyword).isEmpty then 0 else 1) < 30)) = true := by rfl)
  (he : starEach (e :: es) env = (false, eval e env) :: starEach es env := by rfl) (hplain : (backTo pos (starEach (e :: es) env)).any (·.1) = false := by rfl) (hs : swapsWith (.Call (.Attribute o name p) (e :: es) [] pos) none spos.line env = pure false := by rfl) :
  WSs c A env ⟨ς, η⟩ (.Expr (.Call (.Attribute o name p) (e :: es) [] pos) spos :: rest) k := wSs_cons (wS_Expr (wE_Meth m (ho.run _ ⟨hv, hes.run _ (.inr (I43 a oo o' Y ha hU hr))⟩) hbase hline hfew he hplain) hs)
theorem ev_SA {C N : Addr} {mN : Str → Option Value} {o name : Str} {a d : Addr} {es' : List (Str × V)} (K : ClsOk c C N mN) (hn : mN name = none) (hB : typeLookup (.type "object") name = pure none) (hx : ς.lookup o = some (.ref a)) (h1 : (a, O.inst C d) ∈ η) (h2 : (d, O.ns es') ∈ η) (h3 : es'.lookup name = some Y)
  (hd : (o == ("__debug__" : Str)) = false := by decide) (hn' : (o == ("__classdict__" : Str)) = false := by decide) : EV c A env ⟨ς, η⟩ (.Attribute (.Name o p) name pos) Y := ⟨fun _ hk => wE_SA K hn hB hx h1 h2 h3 hk hd hn'⟩
theorem ev_items {a : Addr} {es' : List (Str × V)} {name : Str} (hname : name = "items") (h : EV c A env ⟨ς, η⟩ e (.ref a)) (ha : (a, O.dct es') ∈ η) (hbase : attributeBase e name env (eval e env) = eval e env := by rfl) (hline : (p.endLine == pos.line) = true := by rfl) : EV c A env ⟨ς, η⟩ (.Call (.Attribute e name p) [] [] pos) (.view (.ref a)) := by
 subst hname
 exact ⟨fun _ hk => wE_Meth0 meth_items (h.run _ ⟨vt_odct ha, .inl ⟨_, b_items_odct ha, hk⟩⟩) hbase hline⟩
theorem ev_itemsF {es' : List (Str × V)} {name : Str} (hname : name = "items") (h : EV c A env ⟨ς, η⟩ e (.dct es')) (hbase : attributeBase e name env (eval e env) = eval e env := by rfl) (hline : (p.endLine == pos.line) = true := by rfl) : EV c A env ⟨ς, η⟩ (.Call (.Attribute e name p) [] [] pos) (.view (.dct es')) := by
 subst hname
 exact ⟨fun _ hk => wE_Meth0 meth_items (h.run _ ⟨vt_dct, .inl ⟨_, b_items_dct, hk⟩⟩) hbase hline⟩
theorem ev_Meth {o : Expr} {name : Str} {T id : String} (m : MethOf T name id) (ho : EV c A env ⟨ς, η⟩ o X) (hv : VT c η X T) (hes : EVs c A env ⟨ς, η⟩ pos (e :: es) Xs) (hB : BCall c A η (.builtin id) (X :: Xs) Y)
  (hbase : attributeBase o name env (eval o env) = eval o env := by rfl) (hline : (p.endLine == pos.line) = true := by rfl)
  (hfew : ((backTo pos (starEach (e :: es) env)).all (fun x => !x.1) && (backToKw pos (keywordEach [] env)).all (fun x => x.1.isSome) && decide ((e :: es).length + ([] : List Keyword).length + (if ([] : List Keyword).isEmpty then 0 else 1) < 30)) = true := by rfl)
  (he : starEach (e :: es) env = (false, eval e env) :: starEach es env := by rfl) (hplain : (backTo pos (starEach (e :: es) env)).any (·.1) = false := by rfl) : EV c A env ⟨ς, η⟩ (.Call (.Attribute o name p) (e :: es) [] pos) Y := ⟨fun _ hk => wE_Meth m (ho.run _ ⟨hv, hes.run _ (.inl ⟨Y, hB, hk⟩)⟩) hbase hline hfew he hplain⟩
theorem ev_Self {C N : Addr} {mN : Str → Option Value} {o name : Str} {a d f : Addr} {es' : List (Str × V)} {D : DefD} {yv : Option Value} (K : ClsOk c C N mN) (hf : mN name = some (.ref f)) (F : IsFn c f D) (hB : typeLookup (.type "object") name = pure yv) (hx : ς.lookup o = some (.ref a)) (h1 : (a, O.inst C d) ∈ η) (h2 : (d, O.ns es') ∈ η) (h3 : es'.lookup name = none)
  (hes : EVs c A env ⟨ς, η⟩ pos (e :: es) Xs) (hR : Rm n A) (hp : CallSpec c n f η (.ref a :: Xs) fun X H' => X = R ∧ H' = η)
  (hd : (o == ("__debug__" : Str)) = false := by decide) (hn' : (o == ("__classdict__" : Str)) = false := by decide) (hbase : attributeBase (.Name o p₁) name env (eval (.Name o p₁) env) = eval (.Name o p₁) env := by rfl) (hline : (p.endLine == pos.line) = true := by rfl)
  (hform : methodCallForm ((e :: es).length + ([] : List Keyword).length) (backTo pos (starEach (e :: es) env)) (backToKw pos (keywordEach [] env)) = true := by rfl)
  (he : starEach (e :: es) env = (false, eval e env) :: starEach es env := by rfl) : EV c A env ⟨ς, η⟩ (.Call (.Attribute (.Name o p₁) name p) (e :: es) [] pos) R := ⟨fun _ hk => E51 F fun _ _ _ _ _ M =>
 wE_MethI K hf M hB ((ev_N hx hd hn').run _ (I35 a d es' rfl h1 h2 h3 (hes.run _ (CRest.all hR hp fun Y H' => R02 fun z0 z1 => by subst z0; subst z1; exact hk)))) hbase hline hform he⟩
theorem sSelf {k : FV → St → Prop} {C N : Addr} {mN : Str → Option Value} {o name : Str} {a d f : Addr} {es' : List (Str × V)} {D : DefD} {yv : Option Value} {post : V → List (Addr × O) → Prop} (hkx : env.kindOf x = some .local ∨ env.kindOf x = some .cell) (K : ClsOk c C N mN) (hf : mN name = some (.ref f)) (F : IsFn c f D) (hB : typeLookup (.type "object") name = pure yv) (hx : ς.lookup o = some (.ref a)) (h1 : (a, O.inst C d) ∈ η) (h2 : (d, O.ns es') ∈ η) (h3 : es'.lookup name = none)
  (hes : EVs c A env ⟨ς, η⟩ pos (e :: es) Xs) (hR : Rm n A) (hp : CallSpec c n f η (.ref a :: Xs) post) (hr : ∀ Y H', post Y H' → WSs c A env ⟨setL ς x Y, H'⟩ rest k)
  (hd : (o == ("__debug__" : Str)) = false := by decide) (hn' : (o == ("__classdict__" : Str)) = false := by decide) (hbase : attributeBase (.Name o p₁) name env (eval (.Name o p₁) env) = eval (.Name o p₁) env := by rfl) (hline : (p.endLine == pos.line) = true := by rfl)
  (hform : methodCallForm ((e :: es).length + ([] : List Keyword).length) (backTo pos (starEach (e :: es) env)) (backToKw pos (keywordEach [] env)) = true := by rfl)
  (he : starEach (e :: es) env = (false, eval e env) :: starEach es env := by rfl)
  (hs : swapsWith (.Call (.Attribute (.Name o p₁) name p) (e :: es) [] pos) (some (.Name x p₂)) spos.line env = pure false := by rfl) (hsw : swappedStores [.Name x p₂] (.Call (.Attribute (.Name o p₁) name p) (e :: es) [] pos) env = pure none := by rfl) (hte : (assignEach [.Name x p₂] env).map (·.2) = [assign (.Name x p₂) env] := by rfl) :
  WSs c A env ⟨ς, η⟩ (.Assign [.Name x p₂] (.Call (.Attribute (.Name o p₁) name p) (e :: es) [] pos) spos :: rest) k := E51 F fun _ _ _ _ _ M =>
 wSs_Set hkx (wE_MethI K hf M hB ((ev_N hx hd hn').run _ (I35 a d es' rfl h1 h2 h3 (hes.run _ (CRest.all hR hp hr)))) hbase hline hform he) hs hsw hte
theorem sSelf0 {k : FV → St → Prop} {C N : Addr} {mN : Str → Option Value} {o name : Str} {a d f : Addr} {es' : List (Str × V)} {D : DefD} {yv : Option Value} {post : V → List (Addr × O) → Prop} (hkx : env.kindOf x = some .local ∨ env.kindOf x = some .cell) (K : ClsOk c C N mN) (hf : mN name = some (.ref f)) (F : IsFn c f D) (hB : typeLookup (.type "object") name = pure yv) (hx : ς.lookup o = some (.ref a)) (h1 : (a, O.inst C d) ∈ η) (h2 : (d, O.ns es') ∈ η) (h3 : es'.lookup name = none)
  (hR : Rm n A) (hp : CallSpec c n f η [.ref a] post) (hr : ∀ Y H', post Y H' → WSs c A env ⟨setL ς x Y, H'⟩ rest k)
  (hd : (o == ("__debug__" : Str)) = false := by decide) (hn' : (o == ("__classdict__" : Str)) = false := by decide) (hbase : attributeBase (.Name o p₁) name env (eval (.Name o p₁) env) = eval (.Name o p₁) env := by rfl) (hline : (p.endLine == pos.line) = true := by rfl)
  (hs : swapsWith (.Call (.Attribute (.Name o p₁) name p) [] [] pos) (some (.Name x p₂)) spos.line env = pure false := by rfl) (hsw : swappedStores [.Name x p₂] (.Call (.Attribute (.Name o p₁) name p) [] [] pos) env = pure none := by rfl) (hte : (assignEach [.Name x p₂] env).map (·.2) = [assign (.Name x p₂) env] := by rfl) :
  WSs c A env ⟨ς, η⟩ (.Assign [.Name x p₂] (.Call (.Attribute (.Name o p₁) name p) [] [] pos) spos :: rest) k := E51 F fun _ _ _ _ _ M =>
 wSs_Set hkx (wE_MethI0 K hf M hB ((ev_N hx hd hn').run _ (I35 a d es' rfl h1 h2 h3 (CRest.all hR hp hr))) hbase hline) hs hsw hte
theorem tp_int {i : Int} (h : EV c A env ⟨ς, η⟩ e (.int i)) (he : isTrue e env (eval e env) = (do let v ← eval e env; standAt e.pos; holding [v] (truthy v)) := by rfl) : TP c A env ⟨ς, η⟩ e (i ≠ 0) := ⟨fun _ hk => wT_plain (h.run _ ⟨_, truth_int, hk _ (by simp)⟩) he⟩
theorem tp_own {a : Addr} {xs : List Str} (h : EV c A env ⟨ς, η⟩ e (.ref a)) (ha : (a, O.lst (xs.map .str)) ∈ η) (hl : xs.length ≤ sizeLine) (he : isTrue e env (eval e env) = (do let v ← eval e env; standAt e.pos; holding [v] (truthy v)) := by rfl) : TP c A env ⟨ς, η⟩ e (xs ≠ []) :=
 ⟨fun _ hk => wT_plain (h.run _ ⟨_, truth_own ha rfl (by rw [List.length_map]; exact hl), hk _ (by cases xs <;> simp)⟩) he⟩
theorem ev_own {a : Addr} {i : Int} (h : EV c A env ⟨ς, η⟩ e (.ref a)) (ha : (a, O.lst Xs) ∈ η) (hi : Xs[i.toNat]? = some X) (h0 : 0 ≤ i := by decide) (h1 : i < 2 ^ 62 := by decide) : EV c A env ⟨ς, η⟩ (.Subscript e (.Constant (.int i) n p₂) p₃) X := ev_Sub h ev_i (item_own ha h0 h1 hi)
theorem tp_inO {a : Addr} {xs : List Str} (h1 : EV c A env ⟨ς, η⟩ l (.str x)) (h2 : EV c A env ⟨ς, η⟩ r (.ref a)) (ha : (a, O.set xs) ∈ η) (hm : behindInMarks .In r = false := by rfl) : TP c A env ⟨ς, η⟩ (.Compare l [.In] [r] pos) (x ∈ xs) := tp_Cmp h1 h2 (cmp_in_oset (b := decide (x ∈ xs)) ha dec_iff) dec_iff hm
theorem tp_niO {a : Addr} {xs : List Str} (h1 : EV c A env ⟨ς, η⟩ l (.str x)) (h2 : EV c A env ⟨ς, η⟩ r (.ref a)) (ha : (a, O.set xs) ∈ η) (hm : behindInMarks .NotIn r = false := by rfl) : TP c A env ⟨ς, η⟩ (.Compare l [.NotIn] [r] pos) (x ∉ xs) := tp_Cmp h1 h2 (cmp_notin_oset (b := decide (x ∉ xs)) ha dec_iff) dec_iff hm
theorem tp_inD {a : Addr} {es' : List (Str × V)} (h1 : EV c A env ⟨ς, η⟩ l (.str x)) (h2 : EV c A env ⟨ς, η⟩ r (.ref a)) (ha : (a, O.dct es') ∈ η) (hm : behindInMarks .In r = false := by rfl) : TP c A env ⟨ς, η⟩ (.Compare l [.In] [r] pos) ((dget es' x).isSome = true) := tp_Cmp h1 h2 (cmp_in_odct ha) Iff.rfl hm
theorem tp_niD {a : Addr} {es' : List (Str × V)} (h1 : EV c A env ⟨ς, η⟩ l (.str x)) (h2 : EV c A env ⟨ς, η⟩ r (.ref a)) (ha : (a, O.dct es') ∈ η) (hm : behindInMarks .NotIn r = false := by rfl) : TP c A env ⟨ς, η⟩ (.Compare l [.NotIn] [r] pos) (¬ (dget es' x).isSome = true) := tp_Cmp h1 h2 (cmp_notin_odct ha) (by cases (dget es' x).isSome <;> simp) hm
end
section
variable {c : Cx} {A : Around} {env : Env} {ς : List (Str × V)} {η : List (Addr × O)} {α : Type} {f : α → V} {target iter t : Expr} {X R : V} {xs : List V} {ls : List α} {body rest : List Stmt} {fp ip rp : Pos}
noncomputable def BodyB (c : Cx) (A : Around) (env : Env) (ς : List (Str × V)) (η : List (Addr × O)) (target : Expr) (body : List Stmt) (X : V) (P : Prop) (R : V) : Prop :=
 ∀ k : FV → St → Prop, (P → ∀ τ, St.le τ ⟨ς, η⟩ → k (.ret R) τ) → (¬ P → ∀ τ, St.le τ ⟨ς, η⟩ → k .next τ) → WA c A env ⟨ς, η⟩ target X fun τ => WSs c A env τ body k
theorem tB {P : Prop} {e : Expr} {l' : List (Str × V)} (h1 : AV c A env ⟨ς, η⟩ target X ⟨l', η⟩) (h2 : TP c A env ⟨l', η⟩ t P) (h3 : P → EV c A env ⟨l', η⟩ e R) (h4 : LeL ς l') : BodyB c A env ς η target [.If t [.Return (some e) rp] [] ip] X P R := fun k k1 k2 =>
 h1.run _ (sIf h2 (fun q => wSs_Ret ((h3 q).run _ (k1 q _ h4.le))) fun q => wSs_nil (wSs_nil (k2 q _ h4.le)))
theorem tB2 {P Q : Prop} {e t' : Expr} {jp : Pos} {l' : List (Str × V)} (h1 : AV c A env ⟨ς, η⟩ target X ⟨l', η⟩) (h2 : TP c A env ⟨l', η⟩ t P) (h2' : P → TP c A env ⟨l', η⟩ t' Q) (h3 : P → Q → EV c A env ⟨l', η⟩ e R) (h4 : LeL ς l') : BodyB c A env ς η target [.If t [.If t' [.Return (some e) rp] [] jp] [] ip] X (P ∧ Q) R := fun k k1 k2 =>
 h1.run _ (sIf h2 (fun q => sIf (h2' q) (fun q' => wSs_Ret ((h3 q q').run _ (k1 ⟨q, q'⟩ _ h4.le))) fun q' => wSs_nil (wSs_nil (wSs_nil (k2 (fun z => q' z.2) _ h4.le)))) fun q => wSs_nil (wSs_nil (k2 (fun z => q z.1) _ h4.le)))
noncomputable def LeftJ (f : α → V) (P : α → Prop) (ls : List α) (σ : St) (r : List V) (τ : St) : Prop := ∃ td : List α, τ = σ ∧ r = td.map f ∧ (∀ a ∈ td, a ∈ ls) ∧ ∀ a ∈ ls, a ∈ td ∨ ¬ P a
theorem LeftJ.turn {P : α → Prop} {σ τ : St} {X : V} {r : List V} {G : Prop} (h : LeftJ f P ls σ (X :: r) τ) (k : ∀ a ∈ ls, τ = σ → X = f a → (¬ P a → LeftJ f P ls σ r σ) → G) : G := by
 refine E14 h fun td h1 h2 h3 h4 => ?_
 cases td with
 | nil => cases h2
 | cons a td =>
  rw [List.map_cons] at h2
  refine k a (h3 a (.head _)) h1 (List.cons.inj h2).1 fun q => I14 td rfl (List.cons.inj h2).2 (fun b hb => h3 b (.tail _ hb)) fun b hb => ?_
  rcases h4 b hb with z | z
  ·rcases List.mem_cons.mp z with z | z
   ·rw [z]; exact .inr q
   ·exact .inl z
  ·exact .inr z
theorem LeftJ.done {P : α → Prop} {σ τ : St} (h : LeftJ f P ls σ [] τ) : τ = σ ∧ ∀ a ∈ ls, ¬ P a := by
 refine E14 h fun td h1 h2 h3 h4 => ?_
 cases td with
 | cons a td => cases h2
 | nil => exact ⟨h1, fun a ha => (h4 a ha).resolve_left fun z => nomatch z⟩
theorem sForC {k : FV → St → Prop} {ord : List V → Prop} {P : α → Prop} (hi : EV c A env ⟨ς, η⟩ iter X) (hq : SeqV c A target η X (fun _ => False) ord) (hord : ∀ ys, ord ys → ∃ l : List α, ys = l.map f ∧ ∀ a, a ∈ l ↔ a ∈ ls) (ht : ∀ a ∈ ls, BodyB c A env ς η target body (f a) (P a) R)
  (hit : (∃ a ∈ ls, P a) → ∀ τ, St.le τ ⟨ς, η⟩ → k (.ret R) τ) (done : (∀ a ∈ ls, ¬ P a) → WSs c A env ⟨ς, η⟩ rest k) (hs : ∀ x, foldedSetIterable iter env x = pure x := by intro _; rfl) : WSs c A env ⟨ς, η⟩ (.For target iter body [] fp :: rest) k := by
 refine wSs_cons (wS_For (LeftJ f P ls ⟨ς, η⟩) (hi.run _ ⟨ord, hq, fun ys hy => ?_⟩) (fun Y r τ hJ => ?_) (fun τ hJ => ?_) hs)
 ·exact E12 (hord ys hy) fun l h1 h2 => I12 _ (St.le.refl _) (I14 l rfl h1 (fun a => (h2 a).mp) fun a ha => .inl ((h2 a).mpr ha))
 ·refine hJ.turn fun a ha z1 z2 hn => ?_
  subst z1; subst z2
  exact ht a ha _ (fun q τ hτ => hit ⟨a, ha, q⟩ τ hτ) fun q τ hτ => I12 _ hτ (hn q)
 ·refine E02 hJ.done fun z1 h => ?_
  subst z1
  exact done h
theorem sForH {k : FV → St → Prop} {P : α → Prop} {d : Addr} {ob : O} (hi : EV c A env ⟨ς, (d, ob) :: η⟩ iter X) (hq : SeqV c A target ((d, ob) :: η) X (fun b => b = d) (fun ys => ys = xs)) (hx : xs = ls.map f) (ht : ∀ a ∈ ls, BodyB c A env ς η target body (f a) (P a) R)
  (hit : (∃ a ∈ ls, P a) → ∀ τ, St.le τ ⟨ς, (d, ob) :: η⟩ → k (.ret R) τ) (done : (∀ a ∈ ls, ¬ P a) → WSs c A env ⟨ς, (d, ob) :: η⟩ rest k) (hs : ∀ x, foldedSetIterable iter env x = pure x := by intro _; rfl) : WSs c A env ⟨ς, (d, ob) :: η⟩ (.For target iter body [] fp :: rest) k := by
 refine wSs_cons (wS_ForH (d := d) (ob := ob) (LeftJ f P ls ⟨ς, η⟩) (hi.run _ ⟨_, hq, .head _, fun ys hy hnd => ?_⟩) (fun Y r τ hJ => ?_) (fun τ hJ => ?_) hs)
 ·exact I13 ⟨ς, η⟩ (le_hp (List.sublist_cons_self _ _)) (fun o ho => (List.nodup_cons.mp hnd).1 (List.mem_map_of_mem (f := (·.1)) ho)) (I14 ls rfl (hy.trans hx) (fun a h => h) fun a ha => .inl ha)
 ·refine hJ.turn fun a ha z1 z2 hn => ?_
  subst z1; subst z2
  exact ht a ha _ (fun q τ hτ => hit ⟨a, ha, q⟩ _ (le_cons hτ)) fun q τ hτ => I12 _ hτ (hn q)
 ·refine E02 hJ.done fun z1 h => ?_
  subst z1
  exact done h
theorem BodyB.iff {P Q : Prop} (h : BodyB c A env ς η target body X P R) (q : P ↔ Q) : BodyB c A env ς η target body X Q R := fun k k1 k2 => h k (fun z => k1 (q.mp z)) fun z => k2 fun w => z (q.mpr w)
theorem sFoldE {k : FV → St → Prop} {ς₀ : List (Str × V)} {η₀ : List (Addr × O)} {I : List α → List α → List (Addr × O) → Prop} (hi : EV c A env ⟨ς₀, η₀⟩ iter X) (hq : SeqV c A target η₀ X (fun _ => False) (fun ys => ys = xs)) (hx : xs = ls.map f) {H₀ : List (Addr × O)} (h0 : St.le ⟨ς₀, η₀⟩ ⟨ς, H₀⟩) (h0' : I [] ls H₀)
  (ht : ∀ dn a td H, dn ++ a :: td = ls → I dn (a :: td) H → ∀ k' : FV → St → Prop, (∀ τ H', I (dn ++ [a]) td H' → St.le τ ⟨ς, H'⟩ → k' .next τ ∧ k' .cont τ) → WA c A env ⟨ς, H⟩ target (f a) fun τ => WSs c A env τ body k')
  (done : ∀ H, I ls [] H → WSs c A env ⟨ς, H⟩ rest k) (hs : ∀ x, foldedSetIterable iter env x = pure x := by intro _; rfl) : WSs c A env ⟨ς₀, η₀⟩ (.For target iter body [] fp :: rest) k := by
 refine wSs_cons (wS_For (fun r τ => ∃ dn td H, τ = ⟨ς, H⟩ ∧ r = td.map f ∧ dn ++ td = ls ∧ I dn td H) (hi.run _ ⟨_, hq, fun ys hy => I12 _ h0 (I34 [] ls H₀ rfl (hy.trans hx) rfl h0')⟩) (fun Y r τ hJ => ?_) (fun τ hJ => ?_) hs)
 ·refine E34 hJ fun dn td H z1 z2 z3 z4 => ?_
  clear hJ
  cases td with
  | nil => cases z2
  | cons a td =>
   have e1 := (List.cons.inj z2).1
   have e2 := (List.cons.inj z2).2
   subst z1; subst e1; subst e2
   refine ht dn a td H z3 z4 _ fun τ H' hI hτ => ?_
   have h : ∃ τ', τ.le τ' ∧ ∃ dn' td' H', τ' = ⟨ς, H'⟩ ∧ td.map f = td'.map f ∧ dn' ++ td' = ls ∧ I dn' td' H' := I12 _ hτ (I34 (dn ++ [a]) td H' rfl rfl (by rw [List.append_assoc]; exact z3) hI)
   exact ⟨h, h⟩
 ·refine E34 hJ fun dn td H z1 z2 z3 z4 => ?_
  clear hJ
  cases td with
  | cons a td => cases z2
  | nil =>
   rw [List.append_nil] at z3
   subst z1; subst z3
   exact done H z4
theorem sFold {k : FV → St → Prop} {ς₀ : List (Str × V)} {η₀ : List (Addr × O)} {S : List α → List α → List (Addr × O)} (hi : EV c A env ⟨ς₀, η₀⟩ iter X) (hq : SeqV c A target η₀ X (fun _ => False) (fun ys => ys = xs)) (hx : xs = ls.map f) (h0 : St.le ⟨ς₀, η₀⟩ ⟨ς, S [] ls⟩)
  (ht : ∀ dn a td, dn ++ a :: td = ls → ∀ k' : FV → St → Prop, (∀ τ, St.le τ ⟨ς, S (dn ++ [a]) td⟩ → k' .next τ ∧ k' .cont τ) → WA c A env ⟨ς, S dn (a :: td)⟩ target (f a) fun τ => WSs c A env τ body k')
  (done : WSs c A env ⟨ς, S ls []⟩ rest k) (hs : ∀ x, foldedSetIterable iter env x = pure x := by intro _; rfl) : WSs c A env ⟨ς₀, η₀⟩ (.For target iter body [] fp :: rest) k :=
 sFoldE (I := fun dn td H => H = S dn td) hi hq hx h0 rfl (fun dn a td H z e k' hk => by subst e; exact ht dn a td z k' fun τ hτ => hk τ _ rfl hτ) (fun H e => by subst e; exact done) hs
theorem sFoldH {k : FV → St → Prop} {ς₀ : List (Str × V)} {η₀ : List (Addr × O)} {d : Addr} {ob : O} {S : List α → List α → List (Addr × O)} (hi : EV c A env ⟨ς₀, (d, ob) :: η₀⟩ iter X) (hq : SeqV c A target ((d, ob) :: η₀) X (fun b => b = d) (fun ys => ys = xs)) (hx : xs = ls.map f) (h0 : St.le ⟨ς₀, η₀⟩ ⟨ς, S [] ls⟩)
  (ht : ∀ dn a td, dn ++ a :: td = ls → ∀ k' : FV → St → Prop, (∀ τ, St.le τ ⟨ς, S (dn ++ [a]) td⟩ → k' .next τ) → WA c A env ⟨ς, S dn (a :: td)⟩ target (f a) fun τ => WSs c A env τ body k')
  (done : WSs c A env ⟨ς, (d, ob) :: S ls []⟩ rest k) (hs : ∀ x, foldedSetIterable iter env x = pure x := by intro _; rfl) : WSs c A env ⟨ς₀, (d, ob) :: η₀⟩ (.For target iter body [] fp :: rest) k := by
 refine wSs_cons (wS_ForH (d := d) (ob := ob) (fun r τ => ∃ dn td : List α, τ = ⟨ς, S dn td⟩ ∧ r = td.map f ∧ dn ++ td = ls) (hi.run _ ⟨_, hq, .head _, fun ys hy hnd => I13 ⟨ς, S [] ls⟩ ((le_hp (List.sublist_cons_self _ _)).trans h0) (fun o ho => (List.nodup_cons.mp hnd).1 (List.mem_map_of_mem (f := (·.1)) (h0.2.1 d o ho))) (I23 [] ls rfl (hy.trans hx) rfl)⟩) (fun Y r τ hJ => ?_) (fun τ hJ => ?_) hs)
 ·refine E23 hJ fun dn td z1 z2 z3 => ?_
  clear hJ
  cases td with
  | nil => cases z2
  | cons a td =>
   have e1 := (List.cons.inj z2).1
   have e2 := (List.cons.inj z2).2
   subst z1; subst e1; subst e2
   exact ht dn a td z3 _ fun τ hτ => I12 _ hτ (I23 (dn ++ [a]) td rfl rfl (by rw [List.append_assoc]; exact z3))
 ·refine E23 hJ fun dn td z1 z2 z3 => ?_
  clear hJ
  cases td with
  | cons a td => cases z2
  | nil =>
   rw [List.append_nil] at z3
   subst z1; subst z3
   exact done
theorem sForBrk {k : FV → St → Prop} {P : α → Prop} {x : Str} {b : Bool} {n : Nat} {xp cp ap bp : Pos} {l' : α → List (Str × V)} (hi : EV c A env ⟨ς, η⟩ iter (.lst xs)) (hx : xs = ls.map f) (ht : ∀ a ∈ ls, AV c A env ⟨ς, η⟩ target (f a) ⟨l' a, η⟩ ∧ TP c A env ⟨l' a, η⟩ t (P a) ∧ LeL ς (l' a)) (hkx : env.kindOf x = some .local ∨ env.kindOf x = some .cell)
  (hbrk : (∃ a ∈ ls, P a) → ∀ a ∈ ls, WSs c A env ⟨setL (l' a) x (.bool b), η⟩ rest k) (done : (∀ a ∈ ls, ¬ P a) → WSs c A env ⟨ς, η⟩ rest k) (hp : plainTarget target = true := by rfl) (hs : ∀ x, foldedSetIterable iter env x = pure x := by intro _; rfl)
  (hs' : swapsWith (.Constant (.bool b) n cp) (some (.Name x xp)) ap.line env = pure false := by rfl) (hsw : swappedStores [.Name x xp] (.Constant (.bool b) n cp) env = pure none := by rfl) (hte : (assignEach [.Name x xp] env).map (·.2) = [assign (.Name x xp) env] := by rfl) :
  WSs c A env ⟨ς, η⟩ (.For target iter [.If t [.Assign [.Name x xp] (.Constant (.bool b) n cp) ap, .Break bp] [] ip] [] fp :: rest) k := by
 refine wSs_cons (wS_For (LeftJ f P ls ⟨ς, η⟩) (hi.run _ ⟨_, seq_lst hp, fun ys hy => I12 _ (St.le.refl _) (I14 ls rfl (Eq.trans hy hx) (fun a h => h) fun a ha => .inl ha)⟩) (fun Y r τ hJ => ?_) (fun τ hJ => ?_) hs)
 ·refine hJ.turn fun a ha z1 z2 hn => ?_
  subst z1; subst z2
  refine E03 (ht a ha) fun a1 a2 a3 => ?_
  exact a1.run _ (sIf a2 (fun q => sSet hkx ev_b (wSs_cons (wS_Break (hbrk ⟨a, ha, q⟩ a ha))) hs' hsw hte) fun q => wSs_nil (wSs_nil (I12 _ a3.le (hn q))))
 ·refine E02 hJ.done fun z1 h => ?_
  subst z1
  exact done h
theorem ordL (ys : List V) (h : ys = ls.map f) : ∃ l : List α, ys = l.map f ∧ ∀ a, a ∈ l ↔ a ∈ ls := ⟨ls, h, fun _ => Iff.rfl⟩
end
theorem anyP_t {α : Type} {P : α → Prop} [DecidablePred P] {ls : List α} (h : ∃ a ∈ ls, P a) : (ls.any fun a => decide (P a)) = true := E12 h fun a h1 h2 => List.any_eq_true.mpr ⟨a, h1, decide_eq_true h2⟩
theorem anyP_f {α : Type} {P : α → Prop} [DecidablePred P] {ls : List α} (h : ∀ a ∈ ls, ¬ P a) : (ls.any fun a => decide (P a)) = false := List.any_eq_false.mpr fun a ha z => h a ha (of_decide_eq_true z)
theorem any_t {α : Type} {pb : α → Bool} {ls : List α} (h : ∃ a ∈ ls, pb a = true) : ls.any pb = true := List.any_eq_true.mpr h
theorem any_f {α : Type} {pb : α → Bool} {ls : List α} (h : ∀ a ∈ ls, ¬ pb a = true) : ls.any pb = false := List.any_eq_false.mpr h
theorem ordS {xs : List Str} (ys : List V) (h : ∃ ks : List Str, ys = ks.map V.str ∧ ks.Perm xs) : ∃ l : List Str, ys = l.map V.str ∧ ∀ a, a ∈ l ↔ a ∈ xs := E12 h fun ks h1 h2 => I12 ks h1 fun _ => h2.mem_iff
end Mine
end
noncomputable section
namespace Mine
open PySem PySem.SeqAt PyProof.Rows
theorem RdL.reverse {c Z h xs vs} (r : RdL c Z h xs vs) : RdL c Z h xs.reverse vs.reverse := r.ind (M := fun xs vs => RdL c Z h xs.reverse vs.reverse) .nil fun a _ ih => by
 rw [List.reverse_cons, List.reverse_cons]; exact ih.append (.cons a .nil)
section
variable {c : Cx} {A : Around} {env : Env} {σ : St}
theorem wS_While {test : Expr} {body : List Stmt} {pos : Pos} {k : FV → St → Prop} (J : Nat → St → Prop) {n : Nat} {σ₀ : St} (hle : σ.le σ₀) (h0 : J n σ₀)
  (turn : ∀ n τ, J n τ → WT c A env τ test fun b τ₁ => if b then WSs c A env τ₁ body (TurnK (fun τ₂ => ∃ m, m < n ∧ J m τ₂) k) else k .next τ₁) : WS c A env σ (.While test body [] pos) k := by
 refine WP.mk fun hA Z P s R => ?_
 refine wpAny_While ?_
 refine codeAny_whileLoop (prog := c.prog) (fun n s' => ∃ Z' h' tk dr τ, s' = { s with heap := h', toks := tk, drawn := dr } ∧ Step Z P s.heap Z' h' ∧ Rel c Z' P env τ h' ∧ J n τ) ?_ n ⟨Z, s.heap, s.toks, s.drawn, σ₀, rfl, Step.refl .., R.le hle, h0⟩
 intro n s' hI
 refine E51 hI fun Z₁ h₁ tk₁ dr₁ τ hI' => E04 hI' fun z1 S₁ R₁ j₁ => ?_; clear hI; subst z1
 refine wp_thenB (turn n τ j₁) hA R₁ fun Z₂ h₂ tk₂ dr₂ b τ₂ S₂ R₂ k₂ => ?_
 cases b with
 | false => exact wpAny_pure (fin_mk (S₁.trans S₂) R₂ .next k₂)
 | true =>
  refine wpAny_mono (k₂.run hA Z₂ P _ R₂) ?_ fun _ _ x => x.elim
  refine fun f s₃ => R65 fun Z₃ h₃ tk₃ dr₃ fv τ₃ z1 S₃ R₃ rf k₃ => ?_; subst z1
  cases rf with
  | next => exact E12 k₃ fun τ' hle hm => E12 hm fun m hm hj => ⟨m, hm, Z₃, h₃, tk₃, dr₃, τ', rfl, (S₁.trans S₂).trans S₃, R₃.le hle, hj⟩
  | cont => exact E12 k₃ fun τ' hle hm => E12 hm fun m hm hj => ⟨m, hm, Z₃, h₃, tk₃, dr₃, τ', rfl, (S₁.trans S₂).trans S₃, R₃.le hle, hj⟩
  | brk => exact fin_mk ((S₁.trans S₂).trans S₃) R₃ .next k₃
  | ret r => exact fin_mk ((S₁.trans S₂).trans S₃) R₃ (.ret r) k₃
theorem wS_AugAssign_Name {x : Str} {npos pos : Pos} {op : Operator} {value : Expr} {X : V} {k : FV → St → Prop} (hx : σ.loc.lookup x = some X)
  (h : WE c A env σ value fun Y σ₁ => ∃ w, (AOk A → ∀ Z P s x y, HpR c Z P s.heap σ₁.hp → Rd c Z s.heap X x → Rd c Z s.heap Y y → Res c A Z s (inplaceOp op x y) w) ∧ k .next (σ₁.set x w)) (hk : env.kindOf x = some .local ∨ env.kindOf x = some .cell)
  (hn : (x == ("__classdict__" : Str)) = false := by decide) : WS c A env σ (.AugAssign (.Name x npos) op value pos) k := by
 refine WP.mk fun hA Z P s R => ?_
 show wpAny _ _ (do
  standAt npos
  let old ← loadName env x
  let v ← holding [old] (eval value env)
  standAt pos
  let new ← operate [old, v] (inplaceOp op old v)
  standAt npos
  bindName env x new
  pure Flow.next) _ _ s
 refine E12 (R.vars x X hx) fun v hv r => ?_
 refine wpAny_bind (wpAny_standAt (wpAny_bind ?_))
 have main : wpAny c.M A (do
   let u ← holding [v] (eval value env)
   standAt pos
   let new ← operate [v, u] (inplaceOp op v u)
   standAt npos
   bindName env x new
   pure Flow.next) (Fin c P env (RF c) k Z s) (fun _ _ => False) s := by
  refine wpAny_bind (wpAny_holding (wp_then h hA R fun Z₁ h₁ tk₁ dr₁ Y σ₁ u S₁ R₁ r₁ kk => ?_))
  refine E12 kk fun w hw k₁ => ?_; clear kk
  refine wpAny_bind (wpAny_standAt (wpAny_bind (wpAny_operateT (hw hA Z₁ P { s with heap := h₁, toks := tk₁, drawn := dr₁ } v u R₁.hp (r.step S₁) r₁ _ _ fun z h' tk dr N hkp hN rd => ?_))))
  refine wpAny_bind (wpAny_standAt ?_)
  have R' := R₁.new hkp hN
  have hS := S₁.trans (Step.new (P := P) hkp N)
  refine wpAny_bind (wpAny_bindName (store_var (s := { s with heap := h', toks := tk, drawn := dr }) R' hk rd fun h₂ tk₂ S₂ R₂ => ?_))
  exact wpAny_pure (fin_mk (hS.trans S₂) R₂ .next k₁)
 rcases hv with ⟨k1, m, hm, hm1⟩ | ⟨k1 | k1, cl, h1, h2⟩
 ·exact wpAny_loadName_local R.fn k1 hm hm1 main
 ·exact wpAny_loadName_cell R.fn k1 h1 h2 main
 ·exact wpAny_loadName_free R.fn k1 h1 h2 main hn
theorem wE_Compare {l r : Expr} {op : CmpOp} {pos : Pos} {k : V → St → Prop} (h : WE c A env σ l fun X σ₁ => WE c A env σ₁ r fun Y σ₂ => ∃ b, CmpV c A σ₂.hp op X Y b ∧ k (.bool b) σ₂)
  (hm : behindInMarks op r = false := by rfl) : WE c A env σ (.Compare l [op] [r] pos) k := by
 refine WP.mk fun hA Z P s R => ?_
 rw [arm_eval_Compare]
 have e1 : markedEach [op] [r] (evalEach [r] env) = [eval r env] := by
  show [markedBehindIn op r (eval r env)] = _
  unfold markedBehindIn; rw [hm]
 rw [e1]
 refine wpAny_bind (wp_then h hA R fun Z₁ h₁ tk₁ dr₁ X σ₁ v₁ S₁ R₁ r₁ k₁ => ?_)
 unfold compareChain
 refine wpAny_bind (wpAny_holding (wp_then k₁ hA R₁ fun Z₂ h₂ tk₂ dr₂ Y σ₂ v₂ S₂ R₂ r₂ kk => ?_))
 refine E12 kk fun b hb k₂ => ?_; clear kk
 refine wpAny_bind (wpAny_standAt (wpAny_operateT ?_))
 exact hb hA Z₂ P { s with heap := h₂, toks := tk₂, drawn := dr₂ } v₁ v₂ R₂.hp (r₁.step S₂) r₂ _ _ fun tk => (fin_mk (S₁.trans S₂) R₂ (.bool _) k₂)
theorem seq_tup {target : Expr} {hp : List (Addr × O)} {xs : List V} (ht : plainTarget target = true := by rfl) : SeqV c A target hp (.tup xs) (fun _ => False) (fun ys => ys = xs) := by
 intro hA Z P s v hZ _ r
 cases r with | tup z i r => exact (SeqO.tup hA ht i.isTuple r (.inl z) hZ).seq
theorem wS_AssignComp2 {elt t target iter target' iter' : Expr} {ifs ifs' : List Expr} {scope : Scope} {pos spos : Pos} {k : FV → St → Prop} (OK : CompOk scope env) (hfn : env.scope.kind = .function)
  (h : CompSrc c A env σ target iter fun xs σ₁ => ∃ g : V → List V, (xs.flatMap g).length ≤ sizeLine ∧ (∀ C, ∀ X ∈ xs, Turn2 c A (cenvOf scope env C) ⟨capsOf scope σ₁.loc, σ₁.hp⟩ target ifs target' iter' ifs' elt X (g X)) ∧ WA c A env σ₁ t (.lst (xs.flatMap g)) fun σ₂ => k .next σ₂)
  (hs : ∀ x, foldedSetIterable iter env x = pure x := by intro _; rfl) (hs' : ∀ C x, foldedSetIterable iter' (cenvOf scope env C) x = pure x := by intro _ _; rfl)
  (hsw : swapsWith (.ListComp elt [⟨target, iter, ifs, 0⟩, ⟨target', iter', ifs', 0⟩] scope pos) (some t) spos.line env = pure true := by rfl)
  (hte : (assignEach [t] env).map (·.2) = [assign t env] := by rfl) : WS c A env σ (.Assign [t] (.ListComp elt [⟨target, iter, ifs, 0⟩, ⟨target', iter', ifs', 0⟩] scope pos) spos) k := by
 refine wS_AssignComp (gc := ⟨target, iter, ifs, 0⟩) (gs := [⟨target', iter', ifs', 0⟩]) _ OK rfl rfl hs (fun I C D => turn_fst ..) ?_ hsw hte
 exact WP.imp h fun X σ₁ => R12 fun xs h1 y0 => E13 y0 fun g h2 h3 h4 => (I12 xs h1 (I13 g h2 (fun I C D X hX => (h3 C X hX).turnC (hs' C) (free_cenv hfn OK)) h4))
theorem wS_AssignCompG2 {α : Type} {f : α → V} {elt t target iter target' iter' : Expr} {ifs ifs' : List Expr} {scope : Scope} {pos spos : Pos} {k : FV → St → Prop} (hf : Inj f) (OK : CompOk scope env) (hfn : env.scope.kind = .function)
  (h : CompSrc c A env σ target iter fun xs σ₁ => ∃ (l : List α) (G : α → List V), xs = l.map f ∧ (l.flatMap G).length ≤ sizeLine ∧ (∀ C, ∀ a ∈ l, Turn2 c A (cenvOf scope env C) ⟨capsOf scope σ₁.loc, σ₁.hp⟩ target ifs target' iter' ifs' elt (f a) (G a)) ∧ WA c A env σ₁ t (.lst (l.flatMap G)) fun σ₂ => k .next σ₂)
  (hs : ∀ x, foldedSetIterable iter env x = pure x := by intro _; rfl) (hs' : ∀ C x, foldedSetIterable iter' (cenvOf scope env C) x = pure x := by intro _ _; rfl)
  (hsw : swapsWith (.ListComp elt [⟨target, iter, ifs, 0⟩, ⟨target', iter', ifs', 0⟩] scope pos) (some t) spos.line env = pure true := by rfl)
  (hte : (assignEach [t] env).map (·.2) = [assign t env] := by rfl) : WS c A env σ (.Assign [t] (.ListComp elt [⟨target, iter, ifs, 0⟩, ⟨target', iter', ifs', 0⟩] scope pos) spos) k := by
 refine wS_AssignComp2 OK hfn ?_ hs hs' hsw hte
 refine WP.imp h ?_
 refine fun X σ₁ => R12 fun xs h1 y0 => E24 y0 fun l G z4 h2 h3 h4 => ?_; subst z4
 obtain ⟨g, hg⟩ := fn_of hf G
 refine (I12 _ h1 (I13 g (by rw [flat_fn hg]; exact h2) (fun C X hX => ?_) (by rw [flat_fn hg]; exact h4)))
 refine E12 (List.mem_map.mp hX) fun a ha z2 => ?_; subst z2
 rw [hg]; exact h3 C a ha
theorem wE_AddO {l r : Expr} {pos : Pos} {k : V → St → Prop} (h : WE c A env σ l fun X σ₁ => ∃ d xs, X = .ref d ∧ WE c A env σ₁ r fun Y σ₂ => ∃ ys, Y = .lst ys ∧ (d, O.lst xs) ∈ σ₂.hp ∧ xs.length + ys.length ≤ sizeLine ∧ ∀ a, a ∉ σ₂.hp.map (·.1) → k (.ref a) ⟨σ₂.loc, (a, .lst (xs ++ ys)) :: σ₂.hp⟩) : WE c A env σ (.BinOp l .Add r pos) k := by
 refine WP.mk fun hA Z P s R => ?_
 rw [arm_eval_BinOp]
 refine wpAny_bind (wp_then h hA R fun Z₁ h₁ tk₁ dr₁ X σ₁ v₁ S₁ R₁ r₁ kk => ?_)
 refine E22 kk fun d xs z1 k₁ => ?_; clear kk; subst z1
 refine wpAny_bind (wpAny_holding (wp_then k₁ hA R₁ fun Z₂ h₂ tk₂ dr₂ Y σ₂ v₂ S₂ R₂ r₂ kk => ?_))
 refine E14 kk fun ys z1 hd hsz k₂ => ?_; clear kk; subst z1
 refine wpAny_bind (wpAny_standAt (wpAny_operateT ?_))
 refine Rd.ref_elim r₁ ?_
 refine Rd.lst_elim r₂ fun a2 items2 z2 i2 ri2 => ?_
 refine E12 (R₂.hp.obj d _ hd).1 fun items1 i1 ri1 => ?_
 have l1 := ri1.length
 have l2 := ri2.length
 simp only [Array.length_toList] at l1 l2
 obtain ⟨n1, ho1⟩ := i1
 obtain ⟨n2, ho2⟩ := i2
 have hk := Kp.push h₂ { cls := .type "list", data := .seq (items1 ++ items2) }
 have hn : h₂.get? h₂.objs.size = none := fresh_none _ _ (Nat.le_refl _)
 refine PySem.P.add_list (s := { s with heap := h₂, toks := tk₂, drawn := dr₂ }) ho1 ho2 ?_ (by omega)
 exact (fin_mk ((S₁.trans S₂).trans (Step.kp hk)) (R₂.adopt hk hn (o := .lst (xs ++ ys)) (I12 (items1 ++ items2) ⟨0, Heap.get?_push_size _ rfl⟩ (by simpa using (ri1.append ri2).kp hk))) (.ref _) (k₂ _ (R₂.notin hn)))
noncomputable def WNs (c : Cx) (A : Around) (env : Env) (σ : St) (ns : List Str) (Xs : List V) (k : St → Prop) : Prop :=
 AOk A → ∀ Z P s vs, Rel c Z P env σ s.heap → RdL c Z s.heap Xs vs → wpAny c.M A (assignInOrder (ns.map fun n => bindName env n) vs) (Fin c P env RU (fun _ => k) Z s) (fun _ _ => False) s
theorem wNs_nil {k : St → Prop} (h : k σ) : WNs c A env σ [] [] k := by
 intro hA Z P s vs R r
 cases r
 exact wpAny_pure (fin_mk (b := ()) (Step.refl ..) R trivial h)
theorem wNs_cons {x : Str} {ns : List Str} {X : V} {Xs : List V} {k : St → Prop} (hk : env.kindOf x = some .local ∨ env.kindOf x = some .cell) (h : WNs c A env (σ.set x X) ns Xs k) : WNs c A env σ (x :: ns) (X :: Xs) k := by
 intro hA Z P s vs R r
 cases r with | cons r1 r2 =>
 show wpAny _ _ (do holding _ (bindName env x _); assignInOrder _ _) _ _ s
 refine wpAny_bind (wpAny_holding (wpAny_bindName (store_var R hk r1 fun h₁ tk₁ S₁ R₁ => ?_)))
 exact wpAny_mono (h hA Z P _ _ R₁ (r2.step S₁)) (fun _ _ f => Fin.after (dr₁ := s.drawn) S₁ f) fun _ _ x => x
theorem wS_Swap {ts : List Expr} {value : Expr} {n : Nat} {tp pos : Pos} {names : List Str} {k : FV → St → Prop}
  (h : WE c A env σ value fun X σ₁ => ∃ Xs, X = .tup Xs ∧ names.length = Xs.length ∧ WNs c A env σ₁ names.reverse Xs.reverse fun σ₂ => k .next σ₂)
  (hs : swapsWith value (some (.Tuple ts n tp)) pos.line env = pure false := by rfl) (hsw : swappedStores [.Tuple ts n tp] value env = pure (some names) := by rfl) : WS c A env σ (.Assign [.Tuple ts n tp] value pos) k := by
 refine WP.mk fun hA Z P s R => ?_
 show wpAny _ _ (exec _ _) _ _ _
 rw [exec_Assign_arm]
 refine wpAny_bind (wpAny_standAt ?_)
 have hs' : swapsWithSole [.Tuple ts n tp] value pos.line env = pure false := hs
 rw [hs']
 refine wpAny_bind (wpAny_pure ?_)
 rw [if_neg (by decide)]
 refine wpAny_bind (wp_then h hA R fun Z₁ h₁ tk₁ dr₁ X σ₁ v S₁ R₁ r₁ kk => ?_)
 refine E13 kk fun Xs z0 hl k₁ => ?_; clear kk; subst z0
 rw [hsw]
 refine wpAny_bind (wpAny_pure ?_)
 refine Rd.tup_elim r₁ fun a items z ht rs => ?_
 have hlen : items.size = names.length := by rw [hl, rs.length, Array.length_toList]
 show wpAny _ _ (do rule "assign.swapped-stores"; let items ← unpackItems (.ref a) names.length none; assignInOrder (names.reverse.map fun n => bindName env n) items.reverse; pure Flow.next) _ _ _
 rw [← hlen]
 refine wpAny_bind (wpAny_rule (wpAny_bind (wpAny_unpackItems_tuple hA.handled ht.isTuple fun h' he' => ?_)))
 have hk : Kp h₁ h' := fun b o e => he' b o (Nat.ne_of_lt (Heap.lt_size e)) e
 have h2 := k₁ hA Z₁ P { s with heap := h', toks := tk₁, drawn := dr₁ } items.toList.reverse (R₁.kp hk) (rs.kp hk).reverse
 refine wpAny_bind (wpAny_mono h2 ?_ fun _ _ x => x.elim)
 refine fun _ _ => R65 fun Z₂ h₂ tk₂ dr₂ b σ₂ z6 S₂ R₂ _ k₂ => ?_; subst z6
 exact wpAny_pure (fin_mk (S₁.trans ((Step.kp hk).trans S₂)) R₂ .next k₂)
theorem WP.freezeL {α β : Type} {t : Sem α} {Rr : (Addr → Prop) → Heap → β → α → Prop} {k : β → St → Prop} {d : Addr} {o : O} {X : V} {τ : St} (hd : (d, o) ∈ σ.hp) (hX : o.frz = some X) (hloc : ∀ y Y, τ.loc.lookup y = some Y → σ.loc.lookup y = some Y ∨ (Y = X ∧ σ.loc.lookup y = some (.ref d)))
  (hhp : ∀ b ob, (b, ob) ∈ τ.hp → (b, ob) ∈ σ.hp) (hnd : (σ.hp.map (·.1)).Nodup → (τ.hp.map (·.1)).Nodup ∧ ∀ ob, (d, ob) ∉ τ.hp) (h : WP c A env τ t Rr k) : WP c A env σ t Rr k := by
 refine WP.mk fun hA Z P s R => ?_
 refine E02 (hnd R.hp.nodup) fun n1 n2 => ?_
 have hD := R.hp.obj d o hd
 have R1 : Rel c Z P env ⟨σ.loc, []⟩ s.heap := R.le (I03 (fun x X e => e) (fun b ob hb => (by cases hb)) (fun _ => by simp))
 have R2 := R1.freeze (N := fun b => b = d) (fun b hb => by subst hb; exact (I04 (hD.1.some) (hD.2.2) (R.hpOff _ o hd) (fun o ho => by cases ho)))
 have rX : Rd c (fun b => Z b ∨ b = d) s.heap X (.ref d) := hD.1.frz hX
 have R3 : Rel c (fun b => Z b ∨ b = d) P env τ s.heap := { R2 with
  vars := fun x Y e => (hloc x Y e).elim (fun q => R2.vars x Y q) fun q => E02 q fun q1 q2 => E12 (R2.vars x _ q2) fun v hv rv => by
   cases rv
   rw [q1]
   exact I12 _ hv rX
  hp := ⟨fun b ob hb => by
   have hbd : b ≠ d := fun e => n2 ob (e ▸ hb)
   have := R.hp.obj b ob (hhp b ob hb)
   exact (I03 (this.1.keep (fun _ z => .inl z) (fun _ _ _ e => e) (fun _ e => e)) (fun z => z.elim this.2.1 hbd) (this.2.2)), n1⟩
  hpOff := fun b ob hb => R.hpOff b ob (hhp b ob hb) }
 exact wpAny_mono (h.run hA _ P s R3) (fun _ _ f => Fin.after (tk₁ := s.toks) (dr₁ := s.drawn) (Step.freeze (P := P)) f) fun _ _ x => x
end
section
variable {c : Cx} {A : Around} {env : Env} {ς : List (Str × V)} {η : List (Addr × O)} {p p₁ p₂ p₃ pos spos : Pos} {n : Nat} {X Y Z W R : V} {Xs : List V} {e l r t : Expr} {es : List Expr} {P Q : Prop} {x y : Str} {rest : List Stmt}
theorem sFrz {k : FV → St → Prop} {d : Addr} {o : O} {pre post : List (Addr × O)} (hx : ς.lookup x = some (.ref d)) (hX : o.frz = some X) (h : WSs c A env ⟨setL ς x X, pre ++ post⟩ rest k) : WSs c A env ⟨ς, pre ++ (d, o) :: post⟩ rest k :=
 WP.freezeL (d := d) (o := o) (X := X) (τ := ⟨setL ς x X, pre ++ post⟩) (List.mem_append_right _ (.head _)) hX (fun y Y e => by
   have e' : (setL ς x X).lookup y = some Y := e
   rw [lookup_setL] at e'
   by_cases q : y = x
   ·rw [if_pos q] at e'; cases e'; exact .inr ⟨rfl, q ▸ hx⟩
   ·rw [if_neg q] at e'; exact .inl e')
  (fun b ob hb => (List.mem_append.mp hb).elim (fun z => List.mem_append_left _ z) fun z => List.mem_append_right _ (.tail _ z))
  (fun hnd => by
   have hnd' : ((pre ++ (d, o) :: post).map (·.1)).Nodup := hnd
   rw [List.map_append, List.map_cons, List.nodup_append, List.nodup_cons] at hnd'
   show ((pre ++ post).map (·.1)).Nodup ∧ ∀ ob, (d, ob) ∉ pre ++ post
   rw [List.map_append, List.nodup_append]
   refine ⟨⟨hnd'.1, hnd'.2.1.2, fun a ha b hb => hnd'.2.2 a ha b (.tail _ hb)⟩, fun ob hob => ?_⟩
   rcases List.mem_append.mp hob with z | z
   ·exact hnd'.2.2 d (List.mem_map_of_mem (f := (·.1)) z) d (.head _) rfl
   ·exact hnd'.2.1.1 (List.mem_map_of_mem (f := (·.1)) z)) h
theorem sSwap2 {k : FV → St → Prop} {m : Nat} {e₁ e₂ : Expr} (hx : env.kindOf x = some .local) (hy : env.kindOf y = some .local) (h : EV c A env ⟨ς, η⟩ (.Tuple [e₁, e₂] n p) (.tup [X, Y])) (hr : WSs c A env ⟨setL (setL ς y Y) x X, η⟩ rest k)
  (hs : swapsWith (.Tuple [e₁, e₂] n p) (some (.Tuple [.Name x p₁, .Name y p₂] m p₃)) pos.line env = pure false := by rfl) (hsw : swappedStores [.Tuple [.Name x p₁, .Name y p₂] m p₃] (.Tuple [e₁, e₂] n p) env = pure (some [x, y]) := by rfl) :
  WSs c A env ⟨ς, η⟩ (.Assign [.Tuple [.Name x p₁, .Name y p₂] m p₃] (.Tuple [e₁, e₂] n p) pos :: rest) k :=
 wSs_cons (wS_Swap (names := [x, y]) (h.run _ ⟨[X, Y], rfl, rfl, wNs_cons (.inl hy) (wNs_cons (.inl hx) (wNs_nil hr))⟩) hs hsw)
theorem sSwap3 {k : FV → St → Prop} {m : Nat} {z : Str} {e₁ e₂ e₃ : Expr} {pz : Pos} (hx : env.kindOf x = some .local) (hy : env.kindOf y = some .local) (hz : env.kindOf z = some .local) (h : EV c A env ⟨ς, η⟩ (.Tuple [e₁, e₂, e₃] n p) (.tup [X, Y, Z])) (hr : WSs c A env ⟨setL (setL (setL ς z Z) y Y) x X, η⟩ rest k)
  (hs : swapsWith (.Tuple [e₁, e₂, e₃] n p) (some (.Tuple [.Name x p₁, .Name y p₂, .Name z pz] m p₃)) pos.line env = pure false := by rfl) (hsw : swappedStores [.Tuple [.Name x p₁, .Name y p₂, .Name z pz] m p₃] (.Tuple [e₁, e₂, e₃] n p) env = pure (some [x, y, z]) := by rfl) :
  WSs c A env ⟨ς, η⟩ (.Assign [.Tuple [.Name x p₁, .Name y p₂, .Name z pz] m p₃] (.Tuple [e₁, e₂, e₃] n p) pos :: rest) k :=
 wSs_cons (wS_Swap (names := [x, y, z]) (h.run _ ⟨[X, Y, Z], rfl, rfl, wNs_cons (.inl hz) (wNs_cons (.inl hy) (wNs_cons (.inl hx) (wNs_nil hr)))⟩) hs hsw)
theorem sAugN {k : FV → St → Prop} {op : Operator} {w : V} (hx : ς.lookup x = some X) (hv : EV c A env ⟨ς, η⟩ e Y) (hop : AOk A → ∀ Z P s x y, HpR c Z P s.heap η → Rd c Z s.heap X x → Rd c Z s.heap Y y → Res c A Z s (inplaceOp op x y) w) (hk : env.kindOf x = some .local ∨ env.kindOf x = some .cell) (hr : WSs c A env ⟨setL ς x w, η⟩ rest k)
  (hn : (x == ("__classdict__" : Str)) = false := by decide) : WSs c A env ⟨ς, η⟩ (.AugAssign (.Name x p) op e pos :: rest) k := wSs_cons (wS_AugAssign_Name hx (hv.run _ ⟨w, hop, hr⟩) hk hn)
theorem sLst0 {k : FV → St → Prop} (hk : env.kindOf x = some .local ∨ env.kindOf x = some .cell) (hr : ∀ d, WSs c A env ⟨setL ς x (.ref d), (d, .lst []) :: η⟩ rest k)
  (hs : swapsWith (.List [] p) (some (.Name x p₁)) pos.line env = pure false := by rfl) (hsw : swappedStores [.Name x p₁] (.List [] p) env = pure none := by rfl) (hte : (assignEach [.Name x p₁] env).map (·.2) = [assign (.Name x p₁) env] := by rfl) : WSs c A env ⟨ς, η⟩ (.Assign [.Name x p₁] (.List [] p) pos :: rest) k :=
 wSs_cons (wS_Assign (wE_ListO (wEs_nil ⟨Nat.zero_le _, fun d _ => wA_Name hk (hr d)⟩)) hs hsw hte)
theorem sApp {k : FV → St → Prop} {d : Addr} {xs : List V} {q : Pos} (hx : ς.lookup x = some (.ref d)) (he : EV c A env ⟨ς, (d, .lst xs) :: η⟩ e X) (hl : xs.length ≤ sizeLine) (hr : WSs c A env ⟨ς, (d, .lst (xs ++ [X])) :: η⟩ rest k)
  (hd : (x == ("__debug__" : Str)) = false := by decide) (hn' : (x == ("__classdict__" : Str)) = false := by decide) (hbase : attributeBase (.Name x p) "append" env (eval (.Name x p) env) = eval (.Name x p) env := by rfl) (hline : (q.endLine == pos.line) = true := by rfl)
  (hfew : ((backTo pos (starEach [e] env)).all (fun x => !x.1) && (backToKw pos (keywordEach [] env)).all (fun x => x.1.isSome) && decide ([e].length + ([] : List Keyword).length + (if ([] : List Keyword).isEmpty then 0 else 1) < 30)) = true := by rfl)
  (hes : starEach [e] env = (false, eval e env) :: starEach [] env := by rfl) (hplain : (backTo pos (starEach [e] env)).any (·.1) = false := by rfl) (hs : swapsWith (.Call (.Attribute (.Name x p) "append" q) [e] [] pos) none spos.line env = pure false := by rfl) :
  WSs c A env ⟨ς, (d, .lst xs) :: η⟩ (.Expr (.Call (.Attribute (.Name x p) "append" q) [e] [] pos) spos :: rest) k :=
 sMeth meth_append (ev_N hx hd hn') (vt_olst (.head _)) (evs he evs0 hes) (.head _) (u_append (.head _) hl) (WSs.hs (pre := []) hr) hbase hline hfew hes hplain hs
theorem ev_Cmp {op : CmpOp} {b : Bool} (h1 : EV c A env ⟨ς, η⟩ l X) (h2 : EV c A env ⟨ς, η⟩ r Y) (h : CmpV c A η op X Y b) (hm : behindInMarks op r = false := by rfl) : EV c A env ⟨ς, η⟩ (.Compare l [op] [r] pos) (.bool b) := ⟨fun _ hk => wE_Compare (h1.run _ (h2.run _ ⟨b, h, hk⟩)) hm⟩
theorem sWhile {k : FV → St → Prop} {body : List Stmt} (J : Nat → St → Prop) {m : Nat} {σ₀ : St} (hle : St.le ⟨ς, η⟩ σ₀) (h0 : J m σ₀) (turn : ∀ m τ, J m τ → WT c A env τ t fun b τ₁ => if b then WSs c A env τ₁ body (TurnK (fun τ₂ => ∃ m', m' < m ∧ J m' τ₂) (thenS c A env rest k)) else WSs c A env τ₁ rest k) : WSs c A env ⟨ς, η⟩ (.While t body [] pos :: rest) k :=
 wSs_cons (wS_While J hle h0 turn)
theorem sComp2 {k : FV → St → Prop} {α β γ : Type} {f : α → V} {ls : List α} {xs : List V} {target target' elt iter iter' : Expr} {ifs ifs' : List Expr} {scope : Scope} (m : α → List γ) (P : α → γ → Prop) [∀ a, DecidablePred (P a)] (h : β → V) (yy : α → γ → β) (hf : Inj f) (OK : CompOk scope env) (hfn : env.scope.kind = .function) (hk : env.kindOf x = some .local ∨ env.kindOf x = some .cell) (hi : EV c A env ⟨ς, η⟩ iter (.lst xs)) (hx : xs = ls.map f)
  (hl : (ls.flatMap fun a => sel (m a) (P a) (yy a)).length ≤ sizeLine)
  (ht : ∀ C, ∀ a ∈ ls, Turn2 c A (cenvOf scope env C) ⟨capsOf scope ς, η⟩ target ifs target' iter' ifs' elt (f a) ((sel (m a) (P a) (yy a)).map h)) (hr : WSs c A env ⟨setL ς x (.lst ((ls.flatMap fun a => sel (m a) (P a) (yy a)).map h)), η⟩ rest k) (hp : plainTarget target = true := by rfl)
  (hs : ∀ x, foldedSetIterable iter env x = pure x := by intro _; rfl) (hs' : ∀ C x, foldedSetIterable iter' (cenvOf scope env C) x = pure x := by intro _ _; rfl)
  (hsw : swapsWith (.ListComp elt [⟨target, iter, ifs, 0⟩, ⟨target', iter', ifs', 0⟩] scope pos) (some (.Name x p)) spos.line env = pure true := by rfl) (hte : (assignEach [.Name x p] env).map (·.2) = [assign (.Name x p) env] := by rfl) :
  WSs c A env ⟨ς, η⟩ (.Assign [.Name x p] (.ListComp elt [⟨target, iter, ifs, 0⟩, ⟨target', iter', ifs', 0⟩] scope pos) spos :: rest) k :=
 wSs_cons (wS_AssignCompG2 hf OK hfn (hi.run _ ⟨xs, seq_lst hp, ls, _, hx, by rw [← List.map_flatMap, List.length_map]; exact hl, ht, by rw [← List.map_flatMap]; exact wA_Name hk hr⟩) hs hs' hsw hte)
end
theorem sFoldG {c : Cx} {A : Around} {env : Env} {ς₀ : List (Str × V)} {η₀ : List (Addr × O)} {α : Type} {f : α → V} {target iter : Expr} {X : V} {xs : List V} {ls : List α} {body rest : List Stmt} {fp : Pos} {k : FV → St → Prop} {I : List α → List α → St → Prop} (hi : EV c A env ⟨ς₀, η₀⟩ iter X) (hq : SeqV c A target η₀ X (fun _ => False) (fun ys => ys = xs)) (hx : xs = ls.map f) {τ₀ : St} (h0 : St.le ⟨ς₀, η₀⟩ τ₀) (h0' : I [] ls τ₀)
  (ht : ∀ dn a td τ, dn ++ a :: td = ls → I dn (a :: td) τ → ∀ k' : FV → St → Prop, (∀ τ' τ'', I (dn ++ [a]) td τ'' → St.le τ' τ'' → k' .next τ' ∧ k' .cont τ') → WA c A env τ target (f a) fun τ => WSs c A env τ body k')
  (done : ∀ τ, I ls [] τ → WSs c A env τ rest k) (hs : ∀ x, foldedSetIterable iter env x = pure x := by intro _; rfl) : WSs c A env ⟨ς₀, η₀⟩ (.For target iter body [] fp :: rest) k := by
 refine wSs_cons (wS_For (fun r τ => ∃ dn td : List α, r = td.map f ∧ dn ++ td = ls ∧ I dn td τ) (hi.run _ ⟨_, hq, fun ys hy => I12 _ h0 (I23 [] ls (hy.trans hx) rfl h0')⟩) (fun Y r τ hJ => ?_) (fun τ hJ => ?_) hs)
 ·refine E23 hJ fun dn td z2 z3 z4 => ?_
  clear hJ
  cases td with
  | nil => cases z2
  | cons a td =>
   have e1 := (List.cons.inj z2).1
   have e2 := (List.cons.inj z2).2
   subst e1; subst e2
   refine ht dn a td τ z3 z4 _ fun τ' τ'' hI hτ => ?_
   have h : ∃ τ₂, τ'.le τ₂ ∧ ∃ dn' td', td.map f = td'.map f ∧ dn' ++ td' = ls ∧ I dn' td' τ₂ := I12 _ hτ (I23 (dn ++ [a]) td rfl (by rw [List.append_assoc]; exact z3) hI)
   exact ⟨h, h⟩
 ·refine E23 hJ fun dn td z2 z3 z4 => ?_
  clear hJ
  cases td with
  | cons a td => cases z2
  | nil =>
   rw [List.append_nil] at z3
   subst z3
   exact done τ z4
theorem range_rev (n : Nat) : (List.range n).map (fun k : Nat => ((n : Int) - 1 + -1 * (k : Int)).toNat) = (List.range n).reverse := by
 apply List.ext_getElem
 ·simp
 ·intro i h1 h2
  simp only [List.getElem_map, List.getElem_range, List.getElem_reverse, List.length_range]
  omega
theorem slicePick_rev (items : Array Value) : (slicePick items none none (some (-1))).toList = items.toList.reverse := by
 have e : sliceRange ((items.size : Int) - 1) (-1) (-1) = (List.range items.size).reverse := by
  unfold sliceRange
  rw [if_neg (by decide)]
  have hc : (if (items.size : Int) - 1 > -1 then ((items.size : Int) - 1 - -1 - -1 - 1) / (- -1) else 0).toNat = items.size := by
   by_cases h : (items.size : Int) - 1 > -1
   ·rw [if_pos h, show (- -1 : Int) = 1 from rfl, Int.ediv_one]; omega
   ·rw [if_neg h]; omega
  dsimp only
  rw [hc]; exact range_rev _
 show ((sliceRange ((items.size : Int) - 1) (-1) (-1)).filterMap (items[·]?)) = _
 rw [e, List.filterMap_reverse]
 have := pick_run items 0 items.size
 rw [List.drop_zero, List.take_of_length_le (by simp)] at this
 rw [← this]
 simp
theorem ev_rev {c : Cx} {A : Around} {env : Env} {ς : List (Str × V)} {η : List (Addr × O)} {p p₁ p₂ p₃ pos : Pos} {n : Nat} {x : Str} {xs : List V} (hx : ς.lookup x = some (.lst xs)) (hsz : xs.length ≤ sizeLine) (hd : (x == ("__debug__" : Str)) = false := by decide) (hn : (x == ("__classdict__" : Str)) = false := by decide) :
  EV c A env ⟨ς, η⟩ (.Subscript (.Name x p) (.Slice none none (some (.UnaryOp .USub (.Constant (.int 1) n p₁) p₂)) p₃) pos) (.lst xs.reverse) := ⟨fun k hk => by
 refine WP.mk fun hA Z P s R => ?_
 refine wpAny_Subscript_Slice_step (T := "list") list_getitem_lookup (wp_then (wE_Name hx (k := fun X σ' => X = .lst xs ∧ σ' = ⟨ς, η⟩) ⟨rfl, rfl⟩ hd hn) hA R fun Z₁ h₁ tk₁ dr₁ X σ₁ v₁ S₁ R₁ r₁ kk => ?_)
 refine E02 kk fun z1 z2 => ?_; clear kk; subst z1; subst z2
 refine Rd.lst_elim r₁ fun l items z i ri => ?_
 have hl : xs.length = items.size := ri.length
 refine wpAny_Slice ?_
 rw [evalPart_none]
 refine wpAny_pure (wpAny_pure ?_)
 rw [evalPart_some]
 refine wp_then (wE_neg (i := 1) (k := fun X σ' => X = .int (-1) ∧ σ' = ⟨ς, η⟩) ⟨rfl, rfl⟩) hA R₁ fun Z₂ h₂ tk₂ dr₂ Y σ₂ v₂ S₂ R₂ r₂ kk => ?_
 refine E02 kk fun z1 z2 => ?_; clear kk; subst z1; subst z2
 refine Rd.int_elim r₂ fun t => ?_
 have i₂ : h₂.PlainList l items := i.at fun o e => S₂.keepZ l o z e
 have ri₂ := ri.keep S₂.grow S₂.keepZ
 have kp1 := Kp.push h₂ { cls := .type "slice", data := .fields #[.none, .none, .int (-1) t] }
 have i₃ := i₂.at fun o => kp1 l o
 refine ⟨i₃.isList.typeIs, wpAny_getItem_list_slice i₃.isList (Heap.IsSliceOf.new ..) .none .none (.int (-1) t) (by decide) ?_ (by rw [← hl]; exact hsz)⟩
 have kp2 := Kp.push (h₂.push { cls := .type "slice", data := .fields #[.none, .none, .int (-1) t] }) { cls := .type "list", data := .seq (slicePick items none none (some (-1))) }
 have kp := kp1.trans kp2
 refine (fin_mk ((S₁.trans S₂).trans (Step.new kp (fun bb => bb = (h₂.push { cls := .type "slice", data := .fields #[.none, .none, .int (-1) t] }).objs.size))) (R₂.new kp fun bb hb => ?_) (.lst (.inr rfl) ⟨0, Heap.get?_push_size _ rfl⟩ ?_) hk)
 ·subst hb
  exact (I02 (fresh_none _ _ (by rw [Heap.size_push]; omega)) (I11 _ (Heap.get?_push_size _ rfl)))
 ·rw [slicePick_rev]
  exact ri₂.reverse.keep (fun _ z => .inl z) fun b o _ e => kp b o e⟩
theorem item_pm {c : Cx} {A : Around} {hp : List (Addr × O)} {i : Int} : ItemV c A hp (.str "+-") (.int (i.fmod 2)) (.str (pick ["+", "-"] "" i)) := by
 intro hA Z P s x y _ rX rY
 refine Rd.str_elim rX fun t => ?_
 refine Rd.int_elim rY fun u => ?_
 refine ⟨fun Q E h => gip (T := "str") (typeIs_str _ _ _) F.slot_str_getitem.lookup (by intro e; cases e) h, ?_⟩
 have h2 := Int.fmod_lt_of_pos i (show (0 : Int) < 2 by decide)
 have h1 := Int.fmod_nonneg_of_pos i (show (0 : Int) < 2 by decide)
 have e : i.fmod 2 = 0 ∨ i.fmod 2 = 1 := by omega
 intro Q E h
 have hp : pick (["+", "-"] : List Str) "" i = (["+", "-"] : List Str).getD (i.fmod 2).toNat "" := rfl
 rw [hp] at h
 rcases e with e | e
 ·rw [e] at h ⊢
  exact PyProof.Rows.getItem_str (c := 43) (by decide) (by decide) (h _ s.heap (s.toks + 1) s.drawn (fun _ => False) (fun _ _ e => e) (fun _ z => z.elim) (.str _ _))
 ·rw [e] at h ⊢
  exact PyProof.Rows.getItem_str (c := 45) (by decide) (by decide) (h _ s.heap (s.toks + 1) s.drawn (fun _ => False) (fun _ _ e => e) (fun _ z => z.elim) (.str _ _))
end Mine
end
noncomputable section
set_option maxRecDepth 100000
namespace Mine
open PySem PySem.SeqAt
noncomputable abbrev PP : Program := PySem.Challenge.pw_sx_r111_1
noncomputable def D_clash : DefD := defD PP.main.body[1]?
theorem k_clash : DefK D_clash ["a", "b"] D_clash.body where
 body := rfl
 fn := rfl
 co := rfl
 gen := rfl
 bind := by
  intro nm qual pm code doc vs h
  refine E21 (list2 h) fun x y z2 => ?_; subst z2; rfl
 nodup := by decide
 kinds := by decide
 noFree := by decide
theorem prs_map (l : List (Str × Str)) : prs l = l.map fun p => V.tup [.str p.1, .str p.2] := by unfold prs RdPairs; rw [List.map_map]; rfl
theorem ev_CompP {c : Cx} {A : Around} {env : Env} {ς : List (Str × V)} {η : List (Addr × O)} {pos : Pos} {α : Type} {f : α → V} {target elt iter : Expr} {ifs : List Expr} {scope : Scope} {xs : List V} {ls : List α} (y : α → Str × Str) (hf : Inj f) (OK : CompOk scope env) (hi : EV c A env ⟨ς, η⟩ iter (.lst xs)) (hx : xs = ls.map f) (hl : ls.length ≤ sizeLine)
  (ht : ∀ C, ∀ a ∈ ls, TurnD c A (cenvOf scope env C) (capsOf scope ς) η target ifs elt (f a) True (.tup [.str (y a).1, .str (y a).2])) (hp : plainTarget target = true := by rfl)
  (hs : ∀ x, foldedSetIterable iter env x = pure x := by intro _; rfl) : EV c A env ⟨ς, η⟩ (.ListComp elt [⟨target, iter, ifs, 0⟩] scope pos) (.lst (prs (ls.map y))) :=
 ev_eq (ev_CompY (fun p : Str × Str => V.tup [.str p.1, .str p.2]) y hf OK hi hx hl ht hp hs) (by rw [prs_map])
theorem gadd_len (p s : Str) : ∀ G : List (Str × List Str), (gadd G p s).length ≤ G.length + 1
 | [] => Nat.le_refl _
 | (q, xs) :: r => by
  unfold gadd
  by_cases e : q = p
  ·rw [if_pos e]; exact Nat.le_succ _
  ·rw [if_neg e]; exact Nat.succ_le_succ (gadd_len p s r)
theorem gadd_mem (p s : Str) (n : Nat) : ∀ G : List (Str × List Str), (∀ g ∈ G, g.2.length ≤ n) → ∀ g ∈ gadd G p s, g.2.length ≤ n + 1
 | [], _, g, hg => by rw [List.mem_singleton.mp hg]; exact Nat.le_add_left _ _
 | (q, xs) :: r, h, g, hg => by
  unfold gadd at hg
  by_cases e : q = p
  ·rw [if_pos e] at hg
   exact (List.mem_cons.mp hg).elim (fun z => by rw [z]; exact Nat.le_trans (sadd_len xs s) (Nat.add_le_add_right (h (q, xs) (.head _)) 1)) fun z => Nat.le_succ_of_le (h g (.tail _ z))
  ·rw [if_neg e] at hg
   exact (List.mem_cons.mp hg).elim (fun z => by rw [z]; exact Nat.le_succ_of_le (h (q, xs) (.head _))) fun z => gadd_mem p s n r (fun g hg => h g (.tail _ hg)) g z
theorem grp_fold : ∀ (l : List (Str × Str)) (G : List (Str × List Str)) (n : Nat), G.length ≤ n → (∀ g ∈ G, g.2.length ≤ n) → (l.foldl (fun G q => gadd G q.1 q.2) G).length ≤ n + l.length ∧ ∀ g ∈ l.foldl (fun G q => gadd G q.1 q.2) G, g.2.length ≤ n + l.length
 | [], G, n, h1, h2 => ⟨h1, h2⟩
 | q :: l, G, n, h1, h2 => by
  have h := grp_fold l (gadd G q.1 q.2) (n + 1) (Nat.le_trans (gadd_len q.1 q.2 G) (Nat.add_le_add_right h1 1)) (gadd_mem q.1 q.2 n G h2)
  rw [List.length_cons, ← Nat.add_assoc, Nat.add_right_comm]
  exact h
theorem grp_len (l : List (Str × Str)) : (grp l).length ≤ l.length ∧ ∀ g ∈ grp l, g.2.length ≤ l.length := by
 have h := grp_fold l [] 0 (Nat.le_refl _) (fun g hg => nomatch hg)
 rw [Nat.zero_add] at h
 exact h
theorem dget_dset {es : List (Str × V)} {k : Str} {X : V} (h : dget es k = none) : dget (es ++ [(k, X)]) k = some X := by
 unfold dget at h ⊢
 rw [Option.map_eq_none_iff] at h
 rw [List.find?_append, h, List.find?_cons]
 simp
theorem need1 {G : List (Str × List Str)} {q : Str × Str} : needClash G [q] = match gget G q.1 with | some xs => decide (xs.length > 1) || decide (q.2 ∉ xs) | none => false := Bool.or_false _
theorem needs {G : List (Str × List Str)} {l : List (Str × Str)} : needClash G l = true ↔ ∃ q ∈ l, needClash G [q] = true := List.any_eq_true.trans ⟨fun h => E12 h fun q h1 h2 => ⟨q, h1, (Bool.or_false _).trans h2⟩, fun h => E12 h fun q h1 h2 => ⟨q, h1, (Bool.or_false _).symm.trans h2⟩⟩
theorem spec_clash {c : Cx} {a : Addr} {n : Nat} {ra rb : Rt} (F : IsFn c a D_clash) (hset : c.mg "set" = none) (hlen : c.mg "len" = none) (h1 : ra.nd.length ≤ 100) (h2 : ra.ov.length ≤ 100) (h3 : rb.ov.length ≤ 100) : Pure c (n + 1) a [ra.v, rb.v] (.bool (clashB ra rb)) := by
 refine pure_def F k_clash rfl fun A qual code L hR => ?_
 conv in D_clash.body => whnf
 have hb : ∀ {n : Nat}, n ≤ 100 → n + 1 < scanBound := fun h => Nat.lt_of_le_of_lt (Nat.add_le_add_right h 1) (by decide)
 refine wSs_cons (wS_Assign (wE_Dict0 fun d hd => wA_Name (.inl rfl) ?_))
 refine sFoldE (ls := ra.nd) (f := fun q : Str × Str => V.tup [.str q.1, .str q.2]) (ς := [("a", ra.v), ("b", rb.v), ("da", .ref d)]) (I := fun dn _ H => ∃ G : GA, H = G.hp d ∧ G.er = grp dn) (ev_at rfl rfl) seq_lst (prs_map ra.nd) (St.le.refl _) ⟨[], rfl, rfl⟩ ?_ ?_
 ·refine fun dn q td H hdn hI k' hk => E12 hI fun G z1 hG => ?_
  subst z1
  have hlen : dn.length ≤ 100 := Nat.le_trans (by rw [← hdn, List.length_append]; exact Nat.le_add_right _ _) h1
  have gl := grp_len dn
  rw [← hG] at gl
  have e : grp (dn ++ [q]) = gadd G.er q.1 q.2 := by rw [hG]; exact List.foldl_append
  refine (av2 (.inl rfl) (.inl rfl)).run _ ?_
  rcases GA.split G q.1 with ⟨g1, g2, g3⟩ | ⟨pre, x, xs, post, rfl, g1, g2, g3⟩
  ·refine sTh (tp_niD (ev_N rfl) (ev_N rfl) (.head _)) (by rw [g2]; exact fun z => nomatch z) ?_
   refine wSs_cons (wS_Assign (wE_set0 hset rfl fun x hx => wA_Sub ((ev_N rfl).run _ ((ev_N rfl).run _ (I33 d _ _ (.tail _ (.head _)) (set_odct (.tail _ (.head _)) (sz100 (Nat.le_trans ?_ hlen))) (WSs.hs (pre := [_]) (wSs_nil ?_)))))))
   ·have := gl.1; rw [GA.er, List.length_map] at this; rw [GA.es, List.length_map]; exact this
   rw [dset_new g2]
   have e2 : dget (G.es ++ [(q.1, .ref x)]) q.1 = some (.ref x) := dget_dset g2
   refine sMeth meth_add (ev_Sub (ev_N rfl) (ev_N rfl) (item_odct (.tail _ (.head _)) e2)) (vt_oset (.head _)) (evs (ev_N rfl) evs0) (.head _) (u_add (.head _) (hb (Nat.zero_le _))) (WSs.hs (pre := []) (wSs_nil (hk _ (GA.hp d (G ++ [(q.1, x, [q.2])])) ⟨_, rfl, ?_⟩ ?_).1))
   ·rw [e, g3]; exact List.map_append
   ·refine le_lp (I04 rfl rfl rfl trivial) ?_
    unfold GA.hp GA.es GA.sets
    rw [List.map_append, List.map_append]
    exact (List.Perm.cons _ List.perm_append_comm).trans (List.Perm.swap _ _ _)
  ·have hmem : (x, O.set xs) ∈ GA.hp d (pre ++ (q.1, x, xs) :: post) := by
    unfold GA.hp; rw [GA.sets_mid]; exact .tail _ (List.mem_append_right _ (.head _))
   refine sIfF (tp_niD (ev_N rfl) (ev_N rfl) (.head _)) (by rw [g2]; exact fun z => z rfl) ?_
   refine sMeth meth_add (ev_Sub (ev_N rfl) (ev_N rfl) (item_odct (.head _) g2)) (vt_oset hmem) (evs (ev_N rfl) evs0) hmem (u_add hmem (hb (Nat.le_trans (gl.2 (q.1, xs) ?_) hlen))) (WSs.nd fun hnd => wSs_nil (hk _ (GA.hp d (pre ++ (q.1, x, sadd xs q.2) :: post)) ⟨_, rfl, ?_⟩ (le_lp (I04 rfl rfl rfl trivial) (List.Perm.of_eq (Eq.symm ?_)))).1)
   ·exact List.mem_map.mpr ⟨(q.1, x, xs), List.mem_append_right _ (.head _), rfl⟩
   ·rw [e, g3]
   ·have hnd' : ((Mine.hset (GA.hp d (pre ++ (q.1, x, xs) :: post)) x (.set (sadd xs q.2))).map (·.1)).Nodup := hnd
    rw [hset_fst] at hnd'
    unfold GA.hp at hnd' ⊢
    rw [GA.sets_mid] at hnd' ⊢
    rw [GA.sets_mid, GA.es_mid pre post q.1 x (sadd xs q.2) xs]
    exact hset_mid (pre := _ :: pre.sets) hnd'
 ·refine fun H hI => E12 hI fun G z1 hG => ?_
  subst z1
  refine sSet (.inl rfl) (ev_CallB hset rfl (.type _) rfl (evs (ev_at rfl rfl) evs0) ((f_set_lst (hb h3)).frz rfl)) ?_
  refine sForC (ls := ra.ov) (f := V.str) (P := fun s => s ∈ rb.ov) (R := .bool true) (ev_CallB hset rfl (.type _) rfl (evs (ev_at rfl rfl) evs0) ((f_set_lst (hb h2)).frz rfl)) seq_set (fun ys h => E12 h fun ks h1 h2 => I12 ks h1 fun a => h2.mem_iff.trans (mem_sof a ra.ov)) ?_ (fun q τ _ => ?_) fun hno => ?_
  ·exact fun s hs => tB (av_N (.inl rfl)) (tp_Cmp (ev_N rfl) (ev_N rfl) (cmp_in_set (b := decide (s ∈ rb.ov)) (by rw [decide_eq_true_eq, mem_sof])) dec_iff) (fun _ => ev_b) (ll1 rfl)
  ·unfold clashB; rw [anyP_t q]; rfl
  have hA := anyP_f hno
  refine sIfR (tp_eq (ev_at rfl rfl) (ev_at rfl rfl)) (fun hst => ev_eq ev_b ?_) fun hst => ?_
  ·unfold clashB; rw [hA, decide_eq_true hst]; rfl
  refine sForC (ls := rb.nd) (f := fun q : Str × Str => V.tup [.str q.1, .str q.2]) (P := fun q => needClash G.er [q] = true) (R := .bool true) (ev_at rfl rfl) seq_lst (fun ys h => ordL ys (h.trans (prs_map rb.nd))) (fun q hq => ?_) (fun q τ _ => ?_) fun hno => ?_
  ·rcases GA.split G q.1 with ⟨g1, g2, g3⟩ | ⟨pre, x, xs, post, rfl, g1, g2, g3⟩
   ·refine (tB2 (Q := False) (av2 (.inl rfl) (.inl rfl)) (tp_inD (ev_N rfl) (ev_N rfl) (.head _)) (fun z => ?_) (fun z => ?_) (ll2 rfl rfl)).iff ?_
    ·rw [g2] at z; cases z
    ·rw [g2] at z; cases z
    ·rw [need1, g1]; exact ⟨fun z => z.2.elim, fun z => nomatch z⟩
   ·have hmem : (x, O.set xs) ∈ GA.hp d (pre ++ (q.1, x, xs) :: post) := by
     unfold GA.hp; rw [GA.sets_mid]; exact .tail _ (List.mem_append_right _ (.head _))
    refine (tB2 (av2 (.inl rfl) (.inl rfl)) (tp_inD (ev_N rfl) (ev_N rfl) (.head _)) (fun _ => tp_O2 (tp_gt (ev_CallB hlen rfl (.blt _) rfl (evs (ev_Sub (ev_N rfl) (ev_N rfl) (item_odct (.head _) g2)) evs0) (b_len_oset hmem)) ev_i) fun _ => tp_niO (ev_N rfl) (ev_Sub (ev_N rfl) (ev_N rfl) (item_odct (.head _) g2)) hmem) (fun _ _ => ev_b) (ll2 rfl rfl)).iff ?_
    rw [need1, g1, g2, Bool.or_eq_true, decide_eq_true_eq, decide_eq_true_eq]
    exact ⟨fun z => z.2.imp_left Int.ofNat_lt.mp, fun z => ⟨rfl, z.imp_left Int.ofNat_lt.mpr⟩⟩
  ·have : needClash G.er rb.nd = true := needs.mpr q
   rw [hG] at this
   unfold clashB; rw [this, Bool.or_true]; rfl
  ·have : needClash G.er rb.nd = false := Bool.eq_false_iff.mpr fun z => E12 (needs.mp z) hno
   rw [hG] at this
   refine sRet (ev_eq ev_b ?_)
   unfold clashB; rw [hA, this, decide_eq_false hst]; rfl
end Mine
end
noncomputable section
set_option maxRecDepth 100000
namespace Mine
open PySem PySem.SeqAt
noncomputable def mth (i : Nat) : DefD := defD (clsBody PP.main.body[4]?)[i]?
noncomputable def D_init : DefD := mth 0
noncomputable def D_out : DefD := mth 1
noncomputable def D_busy : DefD := mth 2
noncomputable def D_locked : DefD := mth 3
noncomputable def D_set : DefD := mth 4
noncomputable def D_cancel : DefD := mth 5
noncomputable def D_tick : DefD := mth 6
noncomputable def D_enter : DefD := mth 7
noncomputable def D_leave : DefD := mth 8
noncomputable def D_move : DefD := mth 9
set_option genInjectivity false in
set_option genSizeOf false in
structure Core (c : Cx) where
 C : Addr
 N : Addr
 mN : Str → Option Value
 K : ClsOk c C N mN
 n_lay : mN "lay" = none
 n_r : mN "r" = none
 n_pos : mN "pos" = none
 n_occ : mN "occ" = none
 n_held : mN "held" = none
 f_init : Addr
 f_out : Addr
 f_busy : Addr
 f_locked : Addr
 f_set : Addr
 f_cancel : Addr
 f_tick : Addr
 f_enter : Addr
 f_leave : Addr
 f_move : Addr
 f_clash : Addr
 m_init : mN "__init__" = some (.ref f_init)
 m_out : mN "_out" = some (.ref f_out)
 m_busy : mN "_busy" = some (.ref f_busy)
 m_locked : mN "_locked" = some (.ref f_locked)
 m_set : mN "_set" = some (.ref f_set)
 m_cancel : mN "_cancel" = some (.ref f_cancel)
 m_tick : mN "_tick" = some (.ref f_tick)
 m_enter : mN "_enter" = some (.ref f_enter)
 m_leave : mN "_leave" = some (.ref f_leave)
 m_move : mN "_move" = some (.ref f_move)
 F_init : IsFn c f_init D_init
 F_out : IsFn c f_out D_out
 F_busy : IsFn c f_busy D_busy
 F_locked : IsFn c f_locked D_locked
 F_set : IsFn c f_set D_set
 F_cancel : IsFn c f_cancel D_cancel
 F_tick : IsFn c f_tick D_tick
 F_enter : IsFn c f_enter D_enter
 F_leave : IsFn c f_leave D_leave
 F_move : IsFn c f_move D_move
 F_clash : IsFn c f_clash D_clash
 g_clash : c.mg "_clash" = some (.ref f_clash)
 g_M : c.mg "_M" = some (.ref C)
 b_set : c.mg "set" = none
 b_dict : c.mg "dict" = none
 b_list : c.mg "list" = none
 b_len : c.mg "len" = none
 b_sorted : c.mg "sorted" = none
theorem k_busy : DefK D_busy ["self", "secs"] D_busy.body where
 body := rfl
 fn := rfl
 co := rfl
 gen := rfl
 bind := by
  intro nm qual pm code doc vs h
  refine E21 (list2 h) fun x y z2 => ?_; subst z2; rfl
 nodup := by decide
 kinds := by decide
 noFree := by decide
theorem k_locked : DefK D_locked ["self", "p"] D_locked.body where
 body := rfl
 fn := rfl
 co := rfl
 gen := rfl
 bind := by
  intro nm qual pm code doc vs h
  refine E21 (list2 h) fun x y z2 => ?_; subst z2; rfl
 nodup := by decide
 kinds := by decide
 noFree := by decide
section
variable {c : Cx} (G : Core c) {n : Nat} {ad : Ad} {lay : Lay} {rs pos : List (Str × V)} {occ : List Str} {rows : List Row}
theorem spec_busyG {H : List (Addr × O)} {x dx od : Addr} {es : List (Str × V)} {xs : List Str} (hx : (x, O.inst G.C dx) ∈ H) (hn : (dx, O.ns es) ∈ H) (ho : es.lookup ("occ" : Str) = some (.ref od)) (hs : (od, O.set occ) ∈ H) :
  CallSpec c (n + 1) G.f_busy H [.ref x, .set xs] fun X H' => X = .bool (xs.any fun s => decide (s ∈ occ)) ∧ H' = H := by
 refine def_H G.F_busy k_busy rfl fun A qual code L hR => ?_
 conv in D_busy.body => whnf
 refine sForC (ls := xs) (f := V.str) (P := fun s => s ∈ occ) (R := .bool true) (ev_N rfl) seq_set ordS ?_ (fun q τ hτ => ?_) fun q => ?_
 ·exact fun s _ => tB (av_N (.inl rfl)) (tp_inO (ev_N rfl) (ev_SA G.K G.n_occ tl_occ rfl hx hn ho) hs) (fun _ => ev_b) (ll1 rfl)
 ·rw [anyP_t q]; exact retLe hτ
 ·rw [anyP_f q]; exact sRetH ev_b
theorem spec_busy {xs : List Str} : CallSpec c (n + 1) G.f_busy (mhp G.C ad lay.v rs pos occ rows) [.ref ad.x, .set xs] fun X H' => X = .bool (xs.any fun s => decide (s ∈ occ)) ∧ H' = mhp G.C ad lay.v rs pos occ rows := spec_busyG G mem_x mem_ns rfl mem_od
noncomputable def rowsV (rows : List Row) : List V := rows.map fun r => .tup [.str r.nm, .ref r.a]
theorem rowsV_eq (rows : List Row) : RdPairs (rowsEs rows) = rowsV rows := by simp [RdPairs, rowsEs, rowsV]
noncomputable def lockB (R : Str → Rt) (occ : List Str) (hm p : Str) (rows : List Row) : Bool := decide (hm ∈ occ) || rows.any fun r => !r.left.isEmpty && decide (p ∈ (R r.nm).nd.map (·.1))
structure RsOk (R : Str → Rt) (rs : List (Str × V)) (rows : List Row) : Prop where
 get : ∀ r ∈ rows, dget rs r.nm = some (R r.nm).v
 nd : ∀ r ∈ rows, (R r.nm).nd.length ≤ 100
 left : ∀ r ∈ rows, r.left.length ≤ 100
theorem dgetS {l : List (Str × Str)} {k v : Str} (h : tget (tfold l []) k = some v) : dget (dfold (tv l) []) k = some (.str v) := by
 rw [show ([] : List (Str × V)) = tv [] from rfl, tv_fold, tv_get, h]; rfl
theorem dsome {l : List (Str × Str)} {k : Str} : (dget (dfold (tv l) []) k).isSome = true ↔ k ∈ l.map (·.1) := by
 rw [show ([] : List (Str × V)) = tv [] from rfl, tv_fold, tv_get, Option.isSome_map, tget_fold_some]
 show (_ || false) = true ↔ _
 rw [Bool.or_false, decide_eq_true_eq]
theorem tvl {l : List (Str × Str)} (h : l.length ≤ 100) : (tv l).length ≤ sizeLine := by rw [tv, List.length_map]; exact sz100 h
theorem nilB {α : Type} {l : List α} : l ≠ [] ↔ (!l.isEmpty) = true := by cases l <;> simp
theorem spec_locked {p hm : Str} {R : Str → Rt} (hh : tget (tfold lay.pts []) p = some hm) (hpl : lay.pts.length ≤ 100) (hR : RsOk R rs rows) :
  CallSpec c (n + 1) G.f_locked (mhp G.C ad lay.v rs pos occ rows) [.ref ad.x, .str p] fun X H' => X = .bool (lockB R occ hm p rows) ∧ H' = mhp G.C ad lay.v rs pos occ rows := by
 refine def_H G.F_locked k_locked rfl fun A qual code L hR' => ?_
 conv in D_locked.body => whnf
 have e : lockB R occ hm p rows = if hm ∈ occ then true else rows.any fun r => !r.left.isEmpty && decide (p ∈ (R r.nm).nd.map (·.1)) := by
  unfold lockB
  by_cases q : hm ∈ occ
  ·rw [if_pos q, decide_eq_true q]; rfl
  ·rw [if_neg q, decide_eq_false q]; rfl
 rw [e]
 refine sIfQ (K := fun b => RetH (.bool b) (mhp G.C ad lay.v rs pos occ rows)) (tp_inO (ev_Sub (ev_CallB G.b_dict rfl (.type _) rfl (evs (ev_T (ev_SA G.K G.n_lay tl_lay rfl mem_x mem_ns rfl) rfl) evs0) ((f_dict_pairs (ps := tv lay.pts) (tvl hpl)).frz rfl)) (ev_N rfl) (item_dct (dgetS hh))) (ev_SA G.K G.n_occ tl_occ rfl mem_x mem_ns rfl) mem_od) (fun _ => ev_b) retH fun ho => ?_
 refine sForH (ls := rows) (η := mhp' G.C ad lay.v rs pos occ rows) (f := fun r : Row => V.tup [.str r.nm, .ref r.a]) (P := fun r => (!r.left.isEmpty && decide (p ∈ (R r.nm).nd.map (·.1))) = true) (R := .bool true) (ev_items rfl (ev_SA G.K G.n_held tl_held rfl mem_x mem_ns rfl) mem_hd) (seq_oview mem_hd) (rowsV_eq rows) ?_ (fun q τ hτ => ?_) fun q => ?_
 ·exact fun r hr => tB (av2 (.inl rfl) (.inl rfl)) (tp_iff (tp_A2 (tp_own (ev_own (ev_N rfl) (mem_rows' (mem_rowA hr)) rfl) (mem_rows' (mem_rowB hr)) (sz100 (hR.left r hr))) fun _ => tp_Cmp (ev_N rfl) (ev_CallB G.b_dict rfl (.type _) rfl (evs (ev_T (ev_Sub (ev_SA G.K G.n_r tl_r rfl mem_x' mem_ns' rfl) (ev_N rfl) (item_odct mem_rd' (hR.get r hr))) rfl) evs0) ((f_dict_pairs (ps := tv (R r.nm).nd) (tvl (hR.nd r hr))).frz rfl)) cmp_in_dct dsome) (by rw [nilB, Bool.and_eq_true, decide_eq_true_eq])) (fun _ => ev_b) (ll2 rfl rfl)
 ·rw [any_t q]; exact retLe hτ
 ·rw [any_f q]; exact sRetH ev_b
end
end Mine
end
noncomputable section
set_option maxRecDepth 100000
namespace Mine
open PySem PySem.SeqAt
theorem k_init : DefK D_init ["self", "layout", "state"] D_init.body where
 body := rfl
 fn := rfl
 co := rfl
 gen := rfl
 bind := by
  intro nm qual pm code doc vs h
  refine E31 (list3 h) fun x y z z3 => ?_; subst z3; rfl
 nodup := by decide
 kinds := by decide
 noFree := by decide
noncomputable def rsOf (rts : List Rt) (es : List (Str × V)) : List (Str × V) := rts.foldl (fun es r => dset es r.nm r.v) es
theorem rsOf_len (rts : List Rt) (es : List (Str × V)) : (rsOf rts es).length ≤ es.length + rts.length := by
 induction rts generalizing es with
 | nil => exact Nat.le_refl _
 | cons r rts ih =>
  refine Nat.le_trans (ih (dset es r.nm r.v)) (Nat.le_trans (Nat.add_le_add_right (dset_len es r.nm r.v) _) ?_)
  rw [List.length_cons, Nat.add_assoc, Nat.add_comm 1]; exact Nat.le_refl _
noncomputable def Row.held (r : Row) : Held := ⟨r.nm, r.left, r.e, r.w⟩
theorem map_inv {α : Type} {f : α → V} {X : V} {rest : List V} {l : List α} (h : X :: rest = l.map f) : ∃ r l', l = r :: l' ∧ X = f r ∧ rest = l'.map f := by
 cases l with
 | nil => cases h
 | cons r l' => simp only [List.map_cons, List.cons.injEq] at h; exact (I23 r l' rfl (h.1) (h.2))
theorem map_nil' {α : Type} {f : α → V} {l : List α} (h : ([] : List V) = l.map f) : l = [] := by
 cases l with
 | nil => rfl
 | cons p l' => cases h
theorem rows_new {rows : List Row} {r : Row} : rowsEs (rows ++ [r]) = rowsEs rows ++ [(r.nm, V.ref r.a)] ∧ rowsHp (rows ++ [r]) = rowsHp rows ++ [(r.a, O.lst [.ref r.b, .int r.e, .int r.w]), (r.b, O.lst (r.left.map .str))] := by
 constructor
 ·unfold rowsEs; rw [List.map_append]; rfl
 ·unfold rowsHp; rw [List.flatMap_append]; rfl
theorem add_row {C : Addr} {ad : Ad} {lay : V} {rs pos : List (Str × V)} {occ : List Str} {rows : List Row} {r : Row} {l : List (Str × V)} (hn : dget (rowsEs rows) r.nm = none) :
  St.le ⟨l, (r.a, O.lst [.ref r.b, .int r.e, .int r.w]) :: (r.b, O.lst (r.left.map .str)) :: (ad.hd, O.dct (dset (rowsEs rows) r.nm (.ref r.a))) :: mhp' C ad lay rs pos occ rows⟩ ⟨l, mhp C ad lay rs pos occ (rows ++ [r])⟩ := by
 refine le_perm ?_
 unfold mhp mhp'
 rw [rows_new.1, rows_new.2, dset_new hn]
 exact List.perm_append_comm (l₁ := _ :: _ :: _ :: _ :: _ :: _ :: rowsHp rows) (l₂ := [_, _])
theorem dget_no {rows : List Row} {n : Str} (h : ∀ r ∈ rows, r.nm ≠ n) : dget (rowsEs rows) n = none := by
 unfold dget
 rw [Option.map_eq_none_iff, List.find?_eq_none]
 exact fun e he he2 => E12 (List.mem_map.mp he) fun r hr z => h r hr (by rw [← z] at he2; exact of_decide_eq_true he2)
section
variable {c : Cx} (G : Core c) {n : Nat}
theorem spec_init {x dx : Addr} {lay : Lay} {st : Sta} (hnd : (st.held.map Held.nm).Nodup) (h1 : lay.rts.length ≤ 100) (h2 : st.pos.length ≤ 100) (h3 : st.occ.length ≤ 100) (h4 : st.held.length ≤ 100) (h5 : ∀ h ∈ st.held, h.left.length ≤ 100) :
  CallSpec c (n + 1) G.f_init [(x, .inst G.C dx), (dx, .ns [])] [.ref x, lay.v, st.v] fun X H' => X = .none ∧ ∃ (ad : Ad) (rows : List Row), ad.x = x ∧ ad.dx = dx ∧ rows.map Row.held = st.held ∧ H' = mhp G.C ad lay.v (rsOf lay.rts []) (tv (tfold st.pos [])) (sof st.occ) rows := by
 refine call_def G.F_init k_init rfl fun A qual code L hR' => ?_
 conv in D_init.body => whnf
 refine wSs_cons (wS_Assign ((ev_N rfl).run _ (wA_Attr G.K G.n_lay tl_lay ((ev_N rfl).run _ (I35 x dx _ rfl (.head _) (.tail _ (.head _)) (Nat.zero_le _) ?_)))))
 refine WSs.hs (pre := [_]) ?_
 refine wSs_cons (wS_Assign (wE_Dict0 fun rd hrd => wA_Attr G.K G.n_r tl_r ((ev_N rfl).run _ (I35 x dx _ rfl (.tail _ (.head _)) (.tail _ (.tail _ (.head _))) (sz10 (Nat.le_of_ble_eq_true rfl)) ?_))))
 refine WSs.hs (pre := [_, _]) ?_
 refine sFold (ls := lay.rts) (f := Rt.v) (ς := [("self", .ref x), ("layout", lay.v), ("state", st.v)]) (S := fun dn _ => [(x, .inst G.C dx), (dx, .ns [("lay", lay.v), ("r", .ref rd)]), (rd, .dct (rsOf dn []))]) (ev_at rfl rfl) seq_lst rfl (le_perm (List.perm_append_comm (l₁ := [_, _]) (l₂ := [_]))) (fun dn r td hdn k' hk => ?_) ?_
 ·have e : rsOf (dn ++ [r]) [] = dset (rsOf dn []) r.nm r.v := List.foldl_append
  rw [e] at hk
  refine (av_N (.inl rfl)).run _ (sSub (ev_N rfl) (ev_SA G.K G.n_r tl_r rfl (.head _) (.tail _ (.head _)) rfl) (ev_at rfl rfl) (.tail _ (.tail _ (.head _))) (set_odct (.tail _ (.tail _ (.head _))) (sz100 ?_)) (WSs.hs (pre := [_, _]) (wSs_nil (hk _ (le_loc (I04 rfl rfl rfl trivial))).1)))
  refine Nat.le_trans (rsOf_len dn []) ?_
  rw [List.length_nil, Nat.zero_add]
  exact Nat.le_trans (by rw [← hdn, List.length_append]; exact Nat.le_add_right _ _) h1
 refine wSs_cons (wS_Assign (wE_CallF G.b_dict rfl (.type _) rfl (wEs_cons (wE_at rfl rfl (wEs_nil (I12 _ (f_dict_pairs (ps := tv st.pos) (tvl h2)) (fun pd hpd => wA_Attr G.K G.n_pos tl_pos (wE_Name rfl (I35 x dx _ rfl (.tail _ (.head _)) (.tail _ (.tail _ (.head _))) (sz10 (Nat.le_of_ble_eq_true rfl)) ?_)))))))))
 refine WSs.hs (pre := [_, _]) ?_
 refine wSs_cons (wS_Assign (wE_CallF G.b_set rfl (.type _) rfl (wEs_cons (wE_at rfl rfl (wEs_nil (I12 _ (f_set_lst (Nat.lt_of_le_of_lt (Nat.add_le_add_right h3 1) (by decide))) (fun od hod => wA_Attr G.K G.n_occ tl_occ (wE_Name rfl (I35 x dx _ rfl (.tail _ (.tail _ (.head _))) (.tail _ (.tail _ (.tail _ (.head _)))) (sz10 (Nat.le_of_ble_eq_true rfl)) ?_)))))))))
 refine WSs.hs (pre := [_, _, _]) ?_
 refine wSs_cons (wS_Assign (wE_Dict0 fun hd hhd => wA_Attr G.K G.n_held tl_held (wE_Name rfl (I35 x dx _ rfl (.tail _ (.tail _ (.tail _ (.head _)))) (.tail _ (.tail _ (.tail _ (.tail _ (.head _))))) (sz10 (Nat.le_of_ble_eq_true rfl)) ?_))))
 refine WSs.hs (pre := [_, _, _, _]) ?_
 have epos : dfold (tv st.pos) [] = tv (tfold st.pos []) := tv_fold st.pos []
 rw [epos]
 refine wSs_cons (wS_For (fun rest τ => ∃ (rows : List Row) (td : List Held), τ = ⟨[("self", .ref x), ("layout", lay.v), ("state", st.v)], mhp G.C ⟨x, dx, rd, pd, od, hd⟩ lay.v (rsOf lay.rts []) (tv (tfold st.pos [])) (sof st.occ) rows⟩ ∧ rest = td.map Held.v ∧ rows.map Row.held ++ td = st.held) ?_ ?_ ?_)
 ·refine wE_at rfl rfl (I12 _ seq_lst ?_)
  rintro ys rfl
  refine (I12 ⟨[("self", .ref x), ("layout", lay.v), ("state", st.v)], mhp G.C ⟨x, dx, rd, pd, od, hd⟩ lay.v (rsOf lay.rts []) (tv (tfold st.pos [])) (sof st.occ) []⟩ (le_lp (I04 rfl rfl rfl trivial) ?_) (I23 [] st.held rfl rfl rfl))
  exact .cons _ ((List.perm_append_comm (l₁ := [_, _, _]) (l₂ := [_, _])).trans (List.Perm.swap _ _ _))
 ·refine fun X rest τ => R23 fun rows td z2 htd happ => ?_; subst z2
  refine E23 (map_inv htd) fun h td z2 z3 z4 => ?_; subst z2; subst z3; subst z4
  have hh : h ∈ st.held := by rw [← happ]; exact List.mem_append_right _ (.head _)
  have hlr : rows.length ≤ 100 := by
   have e := congrArg List.length happ
   rw [List.length_append, List.length_map] at e
   exact Nat.le_trans (e ▸ Nat.le_add_right _ _) h4
  have hnew : dget (rowsEs rows) h.nm = none := dget_no fun r hr e => by
   rw [← happ, List.map_append, List.map_cons, List.nodup_append] at hnd
   exact hnd.2.2 r.nm (List.mem_map.mpr (I12 r.held (List.mem_map_of_mem hr) rfl)) h.nm (.head _) e
  refine (av_N (.inl rfl)).run _ (wSs_cons (wS_Assign (wE_ListO (wEs_cons (wE_CallF G.b_list rfl (.type _) rfl ((evs (ev_at rfl rfl) evs0).run _ (I12 _ (f_list_lst (by rw [List.length_map]; exact sz100 (h5 h hh))) (fun b hb => ?_))))))))
  refine (evs (ev_at rfl rfl) (evs (ev_at rfl rfl) evs0)).run _ ⟨sz10 (Nat.le_of_ble_eq_true rfl), fun a ha => ?_⟩
  refine wA_Sub ((ev_SA G.K G.n_held tl_held rfl (.tail _ (.tail _ (mem_x (ad := ⟨x, dx, rd, pd, od, hd⟩)))) (.tail _ (.tail _ (mem_ns (ad := ⟨x, dx, rd, pd, od, hd⟩)))) rfl).run _ ((ev_at rfl rfl).run _ (I33 hd _ _ (.tail _ (.tail _ (.head _))) (set_odct (.tail _ (.tail _ (.head _))) (by rw [rowsEs, List.length_map]; exact sz100 hlr)) ?_)))
  refine WSs.hs (pre := [_, _]) ?_
  exact wSs_nil (I12 ⟨[("self", .ref x), ("layout", lay.v), ("state", st.v)], mhp G.C ⟨x, dx, rd, pd, od, hd⟩ lay.v (rsOf lay.rts []) (tv (tfold st.pos [])) (sof st.occ) (rows ++ [⟨h.nm, a, b, h.left, h.e, h.w⟩])⟩ ((le_loc (l' := [("self", .ref x), ("layout", lay.v), ("state", st.v)]) (I04 rfl rfl rfl trivial)).trans (add_row (ad := ⟨x, dx, rd, pd, od, hd⟩) (r := ⟨h.nm, a, b, h.left, h.e, h.w⟩) hnew)) (I23 _ td rfl rfl (by rw [← happ, List.map_append, List.append_assoc]; rfl)))
 ·refine fun τ => R23 fun rows td z2 htd happ => ?_; subst z2
  obtain rfl := map_nil' htd
  exact wSs_nil (I13 ⟨[], _⟩ (le_loc trivial) rfl (I24 _ rows rfl rfl (by rw [List.append_nil] at happ; exact happ) rfl))
end
end Mine
end
noncomputable section
set_option maxRecDepth 100000
namespace Mine
open PySem PySem.SeqAt PyProof.Rows
theorem k_out : DefK D_out ["self"] D_out.body where
 body := rfl
 fn := rfl
 co := rfl
 gen := rfl
 bind := by
  intro nm qual pm code doc vs h
  obtain ⟨x, rfl⟩ := list1 h; rfl
 nodup := by decide
 kinds := by decide
 noFree := by decide
theorem compOk {scope : Scope} {D : DefD} {qual : Str} {code : Value} {L a : Addr} (h1 : scope.kind = .function) (h2 : (scope.names.map (·.1)).Nodup) (h3 : ∀ p ∈ scope.names, p.2 = .free → D.scope.names.lookup p.1 = some .cell) : CompOk scope (envD D qual code L a) := ⟨h1, h2, h3⟩
theorem flat_one {α : Type} (l : List α) (f : α → V) (g : V → List V) (h : α → V) (hg : ∀ a ∈ l, g (f a) = [h a]) : (l.map f).flatMap g = l.map h := by
 induction l with
 | nil => rfl
 | cons a l ih =>
  simp only [List.map_cons, List.flatMap_cons, hg a (.head _)]
  rw [ih fun b hb => hg b (.tail _ hb)]; rfl
section
variable {c : Cx} (G : Core c) {n : Nat} {ad : Ad} {lay : Lay} {rs : List (Str × V)} {occ : List Str} {rows : List Row}
noncomputable def mhpF (C : Addr) (ad : Ad) (lay : V) (rs pos : List (Str × V)) (occ : List Str) (rows : List Row) : List (Addr × O) :=
 (ad.x, .inst C ad.dx) :: (ad.dx, .ns (setL (nsM ad lay) "held" (.dct (rowsEs rows)))) :: (ad.rd, .dct rs) :: (ad.pd, .dct pos) :: (ad.od, .set occ) :: rowsHp rows
theorem freezeM {A : Around} {env : Env} {loc : List (Str × V)} {lay : V} {rs pos : List (Str × V)} {C : Addr} {sts : List Stmt} {k : FV → St → Prop} (h : WSs c A env ⟨loc, mhpF C ad lay rs pos occ rows⟩ sts k) : WSs c A env ⟨loc, mhp C ad lay rs pos occ rows⟩ sts k := by
 refine WSs.freeze (d := ad.hd) (o := .dct (rowsEs rows)) (X := .dct (rowsEs rows)) (τ := ⟨loc, mhpF C ad lay rs pos occ rows⟩) mem_hd rfl rfl (fun b ob hb => ?_) (fun hnd => ?_) h
 ·have hb' : (b, ob) ∈ (ad.x, O.inst C ad.dx) :: (ad.dx, O.ns (setL (nsM ad lay) "held" (.dct (rowsEs rows)))) :: (ad.rd, O.dct rs) :: (ad.pd, O.dct pos) :: (ad.od, O.set occ) :: rowsHp rows := hb
  rcases List.mem_cons.mp hb' with e | hb'
  ·cases e; exact .inl mem_x
  rcases List.mem_cons.mp hb' with e | hb'
  ·cases e; exact .inr (I23 (nsM ad lay) "held" rfl mem_ns rfl)
  ·exact .inl (.tail _ (.tail _ (.tail _ hb')))
 ·have e : (mhp C ad lay rs pos occ rows).map (·.1) = ad.hd :: (mhpF C ad lay rs pos occ rows).map (·.1) := rfl
  have hnd' : ((mhp C ad lay rs pos occ rows).map (·.1)).Nodup := hnd
  rw [e, List.nodup_cons] at hnd'
  exact ⟨hnd'.2, fun ob hob => hnd'.1 (List.mem_map_of_mem (f := (·.1)) hob)⟩
theorem rowA_nodup : ∀ {rows : List Row}, ((rowsHp rows).map (·.1)).Nodup → (rows.map Row.a).Nodup
 | [], _ => .nil
 | r :: rows, h => by
  have e : (rowsHp (r :: rows)).map (·.1) = r.a :: r.b :: (rowsHp rows).map (·.1) := rfl
  rw [e, List.nodup_cons, List.nodup_cons] at h
  rw [List.map_cons, List.nodup_cons]
  refine ⟨fun hm => h.1 (.tail _ ?_), rowA_nodup h.2.2⟩
  refine E12 (List.mem_map.mp hm) fun q hq e => ?_
  rw [← e]
  exact List.mem_map.mpr (I12 _ (mem_rowA hq) rfl)
theorem find_row : ∀ {rows : List Row}, (rows.map Row.a).Nodup → ∀ r ∈ rows, rows.find? (fun q => decide (q.a = r.a)) = some r
 | [], _, r, h => by cases h
 | q :: rows, hnd, r, h => by
  rw [List.map_cons, List.nodup_cons] at hnd
  rcases List.mem_cons.mp h with rfl | h
  ·simp
  ·have : ¬ q.a = r.a := fun e => hnd.1 (e ▸ List.mem_map_of_mem h)
   rw [List.find?_cons]
   simp only [this, decide_false]
   exact find_row hnd.2 r h
theorem spec_out {pos : List (Str × Str)} {pg : Str → Str} (hpg : ∀ q ∈ lay.pts, tget pos q.1 = some (pg q.1)) (h1 : lay.pts.length ≤ 100) (h2 : rows.length ≤ 100) (h3 : occ.length < 64) (h4 : ∀ r ∈ rows, r.left.length ≤ 100) :
  CallSpec c (n + 1) G.f_out (mhp G.C ad lay.v rs (tv pos) occ rows) [.ref ad.x] fun X H' => ∃ ss : List Str, ss.Perm occ ∧ sortedS ss = true ∧ X = (Sta.mk (lay.pts.map fun q => (q.1, pg q.1)) ss (rows.map Row.held)).v := by
 refine call_def G.F_out k_out rfl fun A qual code L hR => ?_
 conv in D_out.body => whnf
 have hl : sizeLine > 1000 := by decide
 refine wSs_cons (wS_AssignComp1 (compOk rfl (by decide) (by decide)) ?_)
 refine wE_Sub (wE_SA G.K G.n_lay tl_lay rfl mem_x mem_ns rfl (wE_int (I12 _ (item_tup (by decide) (by decide) rfl) (I12 (prs lay.pts) seq_lst (I13 (fun X => (match X with | .tup (.str p :: _) => [.tup [.str p, .str (pg p)]] | _ => [])) ?_ ?_ ?_)))))
 ·rw [prs_map, flat_one lay.pts _ _ (fun q => .tup [.str q.1, .str (pg q.1)]) (fun _ _ => rfl)]; simp; omega
 ·intro C X hX D zs
  rw [prs_map] at hX
  refine E12 (List.mem_map.mp hX) fun q hq z2 => ?_; subst z2
  refine wA_Tuple (wAs_cons (wA_Name (.inl rfl) (wAs_cons (wA_Name (.inl rfl) (wAs_nil ?_)))))
  refine wTs_nil ?_
  refine wE_Tuple (wEs_cons (wE_Name rfl (wEs_cons (wE_Sub (wE_SA G.K G.n_pos tl_pos rfl (.tail _ mem_x) (.tail _ mem_ns) rfl (wE_Name rfl (I12 (.str (pg q.1)) (item_odct (.tail _ mem_pd) (by rw [tv_get, hpg q hq]; rfl)) (wEs_nil (I03 (sz10 (Nat.le_of_ble_eq_true rfl)) rfl ?_)))))))))
  exact le_loc ⟨rfl, trivial⟩
 have e1 : (prs lay.pts).flatMap (fun X => (match X with | .tup (.str p :: _) => [.tup [.str p, .str (pg p)]] | _ => [])) = prs (lay.pts.map fun q => (q.1, pg q.1)) := by
  rw [prs_map, flat_one lay.pts _ _ (fun q => .tup [.str q.1, .str (pg q.1)]) (fun _ _ => rfl), prs_map, List.map_map]; rfl
 rw [e1]
 refine wA_Name (.inl rfl) ?_
 refine freezeM (loc := [("self", .ref ad.x), ("pos", .lst (prs (lay.pts.map fun q => (q.1, pg q.1))))]) ?_
 refine WSs.nd fun hnd => ?_
 have hra : (rows.map Row.a).Nodup := by
  refine rowA_nodup ?_
  have e : ((mhpF G.C ad lay.v rs (tv pos) occ rows).map (·.1)) = [ad.x, ad.dx, ad.rd, ad.pd, ad.od] ++ (rowsHp rows).map (·.1) := rfl
  have hnd' : ((mhpF G.C ad lay.v rs (tv pos) occ rows).map (·.1)).Nodup := hnd
  rw [e, List.nodup_append] at hnd'
  exact hnd'.2.1
 refine wSs_cons (wS_AssignComp1 (compOk rfl (by decide) (by decide)) ?_)
 refine wE_Meth0 meth_items (wE_SA G.K G.n_held tl_held rfl (.head _) (.tail _ (.head _)) rfl ⟨vt_dct, .inl (I12 _ b_items_dct (I12 (RdPairs (rowsEs rows)) seq_view (I13 (fun X => (match X with | .tup (_ :: .ref a :: _) => (match rows.find? (fun q => decide (q.a = a)) with | some r => [r.held.v] | none => []) | _ => [])) ?_ ?_ ?_)))⟩)
 ·rw [rowsV_eq]
  unfold rowsV
  rw [flat_one rows _ _ (fun r => r.held.v) (fun r hr => by simp only [find_row hra r hr])]; simp; omega
 ·intro C X hX D zs
  rw [rowsV_eq] at hX
  refine E12 (List.mem_map.mp hX) fun r hr z2 => ?_; subst z2
  have hA' : ∀ {e}, e ∈ rowsHp rows → e ∈ (D, O.lst zs) :: mhpF G.C ad lay.v rs (tv pos) occ rows := fun h => .tail _ (.tail _ (.tail _ (.tail _ (.tail _ (.tail _ h)))))
  simp only [find_row hra r hr]
  refine wA_Tuple (wAs_cons (wA_Name (.inl rfl) (wAs_cons (wA_Name (.inl rfl) (wAs_nil ?_)))))
  refine wTs_nil ?_
  refine wE_Tuple (wEs_cons (wE_Name rfl (wEs_cons (wE_CallB G.b_list rfl (.type _) rfl (wEs_cons (wE_Sub (wE_Name rfl (wE_int (I12 _ (item_own (hA' (mem_rowA hr)) (by decide) (by decide) rfl) (wEs_nil (I12 _ ((f_list_own (hA' (mem_rowB hr)) (by have := h4 r hr; simp; omega)).frz rfl) ?_)))))))))))
  refine wEs_cons (wE_Sub (wE_Name rfl (wE_int (I12 _ (item_own (hA' (mem_rowA hr)) (by decide) (by decide) rfl) (wEs_cons (wE_Sub (wE_Name rfl (wE_int (I12 _ (item_own (hA' (mem_rowA hr)) (by decide) (by decide) rfl) (wEs_nil (I03 (sz10 (Nat.le_of_ble_eq_true rfl)) rfl ?_)))))))))))
  exact le_loc trivial
 have e2 : (RdPairs (rowsEs rows)).flatMap (fun X => (match X with | .tup (_ :: .ref a :: _) => (match rows.find? (fun q => decide (q.a = a)) with | some r => [r.held.v] | none => []) | _ => [])) = (rows.map Row.held).map Held.v := by
  rw [rowsV_eq]
  unfold rowsV
  rw [flat_one rows _ _ (fun r => r.held.v) (fun r hr => by simp only [find_row hra r hr]), List.map_map]; rfl
 rw [e2]
 refine wA_Name (.inl rfl) ?_
 refine wSs_Ret (wE_Tuple (wEs_cons (wE_Name rfl (wEs_cons (wE_SortedSet G.b_sorted rfl (wE_SA G.K G.n_occ tl_occ rfl (.head _) (.tail _ (.head _)) rfl (I24 ad.od occ rfl (.tail _ (.tail _ (.tail _ (.tail _ (.head _))))) h3 (fun ss hp hs => ?_))))))))
 refine wEs_cons (wE_Name rfl (wEs_nil (I02 (sz10 (Nat.le_of_ble_eq_true rfl)) (I12 ⟨[], []⟩ le_nil (I13 ss hp hs rfl)))))
end
end Mine
end
noncomputable section
set_option maxRecDepth 100000
namespace Mine
open PySem PySem.SeqAt PyProof.Rows
section
variable {c : Cx} {A : Around} {env : Env} {σ : St}
theorem wE_Self0 {C N : Addr} {mN : Str → Option Value} {o : Expr} {name : Str} {apos pos : Pos} {f : Addr} {D : DefD} {y : Option Value} {k : V → St → Prop} (K : ClsOk c C N mN) (hf : mN name = some (.ref f)) (F : IsFn c f D) (hB : typeLookup (.type "object") name = pure y)
  (h : WE c A env σ o fun X σ₁ => ∃ x d es, X = .ref x ∧ (x, O.inst C d) ∈ σ₁.hp ∧ (d, O.ns es) ∈ σ₁.hp ∧ es.lookup name = none ∧ CRest c A f [X] k σ₁)
  (hbase : attributeBase o name env (eval o env) = eval o env := by rfl) (hline : (apos.endLine == pos.line) = true := by rfl) : WE c A env σ (.Call (.Attribute o name apos) [] [] pos) k := by
 refine E51 F fun _ _ _ _ _ M => ?_; clear F
 exact wE_MethI0 K hf M hB h hbase hline
end
theorem k_move : DefK D_move ["self", "p", "x"] D_move.body where
 body := rfl
 fn := rfl
 co := rfl
 gen := rfl
 bind := by
  intro nm qual pm code doc vs h
  refine E31 (list3 h) fun x y z z3 => ?_; subst z3; rfl
 nodup := by decide
 kinds := by decide
 noFree := by decide
theorem k_cancel : DefK D_cancel ["self", "n"] D_cancel.body where
 body := rfl
 fn := rfl
 co := rfl
 gen := rfl
 bind := by
  intro nm qual pm code doc vs h
  refine E21 (list2 h) fun x y z2 => ?_; subst z2; rfl
 nodup := by decide
 kinds := by decide
 noFree := by decide
theorem hset_mid2 {pre post : List (Addr × O)} {x : Addr × O} {d : Addr} {o o' : O} (hnd : ((pre ++ x :: (d, o) :: post).map (·.1)).Nodup) : hset (pre ++ x :: (d, o) :: post) d o' = pre ++ x :: (d, o') :: post := by
 have e : ∀ l, (pre ++ [x]) ++ l = pre ++ x :: l := fun l => List.append_assoc pre [x] l
 have h := hset_mid (pre := pre ++ [x]) (o' := o') (by rw [e]; exact hnd)
 rw [e, e] at h
 exact h
theorem rowsHp_mid (pre post : List Row) (r : Row) : rowsHp (pre ++ r :: post) = rowsHp pre ++ (r.a, .lst [.ref r.b, .int r.e, .int r.w]) :: (r.b, .lst (r.left.map .str)) :: rowsHp post := by simp [rowsHp, Row.hp]
section
variable {C : Addr} {ad : Ad} {lay : V} {rs pos : List (Str × V)} {occ : List Str} {pre post : List Row} {r : Row}
theorem hset_rowA {e w : Int} (hnd : ((mhp C ad lay rs pos occ (pre ++ r :: post)).map (·.1)).Nodup) : hset (mhp C ad lay rs pos occ (pre ++ r :: post)) r.a (.lst [.ref r.b, .int e, .int w]) = mhp C ad lay rs pos occ (pre ++ { r with e := e, w := w } :: post) := by
 have e1 : rowsEs (pre ++ { r with e := e, w := w } :: post) = rowsEs (pre ++ r :: post) := by simp [rowsEs]
 unfold mhp mhp' at hnd ⊢
 rw [rowsHp_mid] at hnd ⊢
 rw [rowsHp_mid, e1]
 exact hset_mid (pre := _ :: _ :: _ :: _ :: _ :: _ :: rowsHp pre) hnd
theorem hset_rowA' {e w : Int} (hnd : ((mhp' C ad lay rs pos occ (pre ++ r :: post)).map (·.1)).Nodup) : hset (mhp' C ad lay rs pos occ (pre ++ r :: post)) r.a (.lst [.ref r.b, .int e, .int w]) = mhp' C ad lay rs pos occ (pre ++ { r with e := e, w := w } :: post) := by
 unfold mhp' at hnd ⊢
 rw [rowsHp_mid] at hnd ⊢
 rw [rowsHp_mid]
 exact hset_mid (pre := _ :: _ :: _ :: _ :: _ :: rowsHp pre) hnd
theorem hset_rowB {l : List Str} (hnd : ((mhp C ad lay rs pos occ (pre ++ r :: post)).map (·.1)).Nodup) : hset (mhp C ad lay rs pos occ (pre ++ r :: post)) r.b (.lst (l.map .str)) = mhp C ad lay rs pos occ (pre ++ { r with left := l } :: post) := by
 have e1 : rowsEs (pre ++ { r with left := l } :: post) = rowsEs (pre ++ r :: post) := by simp [rowsEs]
 unfold mhp mhp' at hnd ⊢
 rw [rowsHp_mid] at hnd ⊢
 rw [rowsHp_mid, e1]
 exact hset_mid2 (pre := _ :: _ :: _ :: _ :: _ :: _ :: rowsHp pre) hnd
end
section
variable {c : Cx} (G : Core c) {n : Nat} {ad : Ad} {lay : Lay} {rs : List (Str × V)} {occ : List Str} {rows : List Row}
noncomputable def moveF (R : Str → Rt) (pos : List (Str × Str)) (occ : List Str) (rows : List Row) (hm p x : Str) : Str × List (Str × Str) :=
 if (tget pos p).isSome then (if lockB R occ hm p rows then ("locked", pos) else ("done", tset pos p x)) else ("unknown", pos)
theorem spec_move {pos : List (Str × Str)} {R : Str → Rt} {p x hm : Str} (hh : (tget pos p).isSome = true → tget (tfold lay.pts []) p = some hm) (hpl : lay.pts.length ≤ 100) (hpl2 : pos.length ≤ 100) (hR : RsOk R rs rows) :
  CallSpec c (n + 2) G.f_move (mhp G.C ad lay.v rs (tv pos) occ rows) [.ref ad.x, .str p, .str x] fun X H' => X = .str (moveF R pos occ rows hm p x).1 ∧ H' = mhp G.C ad lay.v rs (tv (moveF R pos occ rows hm p x).2) occ rows := by
 refine def_H G.F_move k_move rfl fun A qual code L hR' => ?_
 conv in D_move.body => whnf
 unfold moveF
 refine sIfQN (K := fun q : Str × List (Str × Str) => RetH (.str q.1) (mhp G.C ad lay.v rs (tv q.2) occ rows)) (tp_iff (tp_niD (ev_N rfl) (ev_SA G.K G.n_pos tl_pos rfl mem_x mem_ns rfl) mem_pd) (by rw [tv_get, Option.isSome_map])) (fun _ => ev_s) retH fun hp => ?_
 refine sIfQ (K := fun q : Str × List (Str × Str) => RetH (.str q.1) (mhp G.C ad lay.v rs (tv q.2) occ rows)) (tp_bool (ev_Self G.K G.m_locked G.F_locked tl_locked rfl mem_x mem_ns rfl (evs (ev_N rfl) evs0) hR' (spec_locked G (hh hp) hpl hR))) (fun _ => ev_s) retH fun hlk => ?_
 refine sSub (ev_N rfl) (ev_SA G.K G.n_pos tl_pos rfl mem_x mem_ns rfl) (ev_N rfl) mem_pd (set_odct mem_pd (tvl hpl2)) ?_
 refine WSs.hs (pre := [_, _, _, _]) ?_
 rw [tv_set]
 exact sRetH ev_s
end
end Mine
end
noncomputable section
set_option maxRecDepth 100000
namespace Mine
open PySem PySem.SeqAt PyProof.Rows
theorem rowsHp_sub : ∀ {l l' : List Row}, l'.Sublist l → (rowsHp l').Sublist (rowsHp l)
 | _, _, .slnil => .slnil
 | _, _, .cons r h => (rowsHp_sub h).trans (List.sublist_append_right _ _)
 | _, _, .cons₂ r h => (List.Sublist.refl _).append (rowsHp_sub h)
theorem rowsEs_del (rows : List Row) (n : Str) : ddel (rowsEs rows) n = rowsEs (rows.filter fun r => decide (r.nm ≠ n)) := by
 unfold ddel rowsEs
 rw [List.filter_map]; rfl
theorem row_split : ∀ (rows : List Row) (n : Str), (rows.find? (fun r => decide (r.nm = n)) = none ∧ dget (rowsEs rows) n = none ∧ ∀ r ∈ rows, r.nm ≠ n) ∨
  ∃ pre r post, rows = pre ++ r :: post ∧ r.nm = n ∧ (∀ q ∈ pre, q.nm ≠ n) ∧ rows.find? (fun r => decide (r.nm = n)) = some r ∧ dget (rowsEs rows) n = some (.ref r.a)
 | [], n => .inl (I03 rfl rfl (fun _ h => by cases h))
 | q :: rows, n => by
  have hc : dget (rowsEs (q :: rows)) n = if q.nm = n then some (.ref q.a) else dget (rowsEs rows) n := dget_cons (q.nm, V.ref q.a) (rowsEs rows) n
  by_cases h : q.nm = n
  ·refine .inr (I35 [] q rows rfl h (fun _ h => (by cases h)) ?_ ?_)
   ·simp [h]
   ·rw [hc, if_pos h]
  ·rcases row_split rows n with ⟨h1, h2, h3⟩ | ⟨pre, r, post, h0, h1, h2, h3, h4⟩
   ·refine .inl (I03 ?_ ?_ ?_)
    ·rw [List.find?_cons]; simp only [h, decide_false]; exact h1
    ·rw [hc, if_neg h]; exact h2
    ·intro r hr
     rcases List.mem_cons.mp hr with rfl | hr
     ·exact h
     ·exact h3 r hr
   ·refine .inr (I35 (q :: pre) r post (by rw [h0]; rfl) h1 ?_ ?_ ?_)
    ·intro r' hr
     rcases List.mem_cons.mp hr with rfl | hr
     ·exact h
     ·exact h2 r' hr
    ·rw [List.find?_cons]; simp only [h, decide_false]; exact h3
    ·rw [hc, if_neg h]; exact h4
theorem names_post {pre post : List Row} {r : Row} (hnd : ((pre ++ r :: post).map Row.nm).Nodup) : (∀ q ∈ pre, q.nm ≠ r.nm) ∧ ∀ q ∈ post, q.nm ≠ r.nm := by
 rw [List.map_append, List.map_cons, List.nodup_append, List.nodup_cons] at hnd
 refine ⟨fun q hq e => hnd.2.2 q.nm (List.mem_map_of_mem hq) r.nm (.head _) e, fun q hq e => hnd.2.1.1 (e ▸ List.mem_map_of_mem hq)⟩
theorem filter_ne {l : List Row} {n : Str} (h : ∀ q ∈ l, q.nm ≠ n) : l.filter (fun r => decide (r.nm ≠ n)) = l := List.filter_eq_self.mpr fun q hq => decide_eq_true (h q hq)
theorem map_row {pre post : List Row} {r : Row} {f : Row → Row} (hnd : ((pre ++ r :: post).map Row.nm).Nodup) : (pre ++ r :: post).map (fun q => if q.nm = r.nm then f q else q) = pre ++ f r :: post := by
 have h1 : pre.map (fun q => if q.nm = r.nm then f q else q) = pre := (List.map_congr_left fun q hq => if_neg ((names_post hnd).1 q hq)).trans (List.map_id' _)
 have h2 : post.map (fun q => if q.nm = r.nm then f q else q) = post := (List.map_congr_left fun q hq => if_neg ((names_post hnd).2 q hq)).trans (List.map_id' _)
 rw [List.map_append, List.map_cons, if_pos rfl, h1, h2]
theorem rowsL {rows : List Row} {n : Nat} (h : rows.length ≤ n) (hn : n ≤ sizeLine := by decide) : (rowsEs rows).length ≤ sizeLine := by rw [rowsEs, List.length_map]; exact Nat.le_trans h hn
section
variable {c : Cx} (G : Core c) {n : Nat} {ad : Ad} {lay : Lay} {rs pos : List (Str × V)} {occ : List Str} {rows : List Row}
noncomputable def cancelF (occ : List Str) (rows : List Row) (nm sg : Str) : Str × List Row :=
 match rows.find? (fun r => decide (r.nm = nm)) with
 | none => ("unknown", rows)
 | some r => if r.e ≠ 0 then ("entered", rows) else if r.w ≠ 0 then ("waiting", rows) else if sg ∈ occ then ("waits", rows.map fun r => if r.nm = nm then { r with w := 3 } else r) else ("done", rows.filter fun r => decide (r.nm ≠ nm))
theorem spec_cancel {R : Str → Rt} {nm sg : Str} (hnd : (rows.map Row.nm).Nodup) (hR : RsOk R rs rows) (hsg : (∃ r ∈ rows, r.nm = nm) → tget (tfold lay.sigs []) (R nm).st = some sg) (h1 : lay.sigs.length ≤ 100) (h2 : rows.length ≤ 100) :
  CallSpec c (n + 1) G.f_cancel (mhp G.C ad lay.v rs pos occ rows) [.ref ad.x, .str nm] fun X H' => X = .str (cancelF occ rows nm sg).1 ∧ H' = mhp G.C ad lay.v rs pos occ (cancelF occ rows nm sg).2 := by
 refine def_H G.F_cancel k_cancel rfl fun A qual code L hR' => ?_
 conv in D_cancel.body => whnf
 unfold cancelF
 rcases row_split rows nm with ⟨q1, q2, q3⟩ | ⟨pre, r, post, rfl, rfl, q3, q4, q5⟩
 ·rw [q1]
  exact sIfH (tp_niD (ev_N rfl) (ev_SA G.K G.n_held tl_held rfl mem_x mem_ns rfl) mem_hd) (by rw [q2]; exact fun z => nomatch z) ev_s retH
 rw [q4]
 have hr : r ∈ pre ++ r :: post := List.mem_append_right _ (.head _)
 refine sIfF (tp_niD (ev_N rfl) (ev_SA G.K G.n_held tl_held rfl mem_x mem_ns rfl) mem_hd) (by rw [q5]; exact fun z => z rfl) ?_
 refine sSet (.inl rfl) (ev_Sub (ev_SA G.K G.n_held tl_held rfl mem_x mem_ns rfl) (ev_N rfl) (item_odct mem_hd q5)) ?_
 refine sIfQ (K := fun q : Str × List Row => RetH (.str q.1) (mhp G.C ad lay.v rs pos occ q.2)) (tp_int (ev_own (ev_N rfl) (mem_rows (mem_rowA hr)) rfl)) (fun _ => ev_s) retH fun _ => ?_
 refine sIfQ (K := fun q : Str × List Row => RetH (.str q.1) (mhp G.C ad lay.v rs pos occ q.2)) (tp_int (ev_own (ev_N rfl) (mem_rows (mem_rowA hr)) rfl)) (fun _ => ev_s) retH fun _ => ?_
 refine sIfB (K := fun q : Str × List Row => RetH (.str q.1) (mhp G.C ad lay.v rs pos occ q.2)) (tp_inO (ev_Sub (ev_CallB G.b_dict rfl (.type _) rfl (evs (ev_T (ev_SA G.K G.n_lay tl_lay rfl mem_x mem_ns rfl) rfl) evs0) ((f_dict_pairs (ps := tv lay.sigs) (tvl h1)).frz rfl)) (ev_T (ev_Sub (ev_SA G.K G.n_r tl_r rfl mem_x mem_ns rfl) (ev_N rfl) (item_odct mem_rd (hR.get r hr))) rfl) (item_dct (dgetS (hsg ⟨r, hr, rfl⟩)))) (ev_SA G.K G.n_occ tl_occ rfl mem_x mem_ns rfl) mem_od) (fun _ => ?_) fun _ => ?_
 ·refine sSub ev_i (ev_N rfl) ev_i (mem_rows (mem_rowA hr)) (set_olst (mem_rows (mem_rowA hr)) (by decide) (show ((2 : Nat) : Int) < ((3 : Nat) : Int) by decide) (sz10 (Nat.le_of_ble_eq_true rfl))) ?_
  refine WSs.nd fun hnd2 => ?_
  rw [hset_fst] at hnd2
  rw [map_row hnd]
  exact wSs_Ret (ev_s.run _ ⟨rfl, _, le_eq (hset_rowA (e := r.e) (w := 3) hnd2)⟩)
 ·refine sDel (ev_SA G.K G.n_held tl_held rfl mem_x mem_ns rfl) (ev_N rfl) mem_hd (del_odct mem_hd (by rw [q5]; rfl) (rowsL h2)) ?_
  refine WSs.hs (pre := []) ?_
  rw [rowsEs_del]
  exact sRetP (l := []) ev_s (le_ls trivial (.cons₂ _ (.cons₂ _ (.cons₂ _ (.cons₂ _ (.cons₂ _ (.cons₂ _ (rowsHp_sub List.filter_sublist))))))))
end
end Mine
end
noncomputable section
set_option maxRecDepth 100000
namespace Mine
open PySem PySem.SeqAt PyProof.Rows
theorem k_tick : DefK D_tick ["self"] D_tick.body where
 body := rfl
 fn := rfl
 co := rfl
 gen := rfl
 bind := by
  intro nm qual pm code doc vs h
  obtain ⟨x, rfl⟩ := list1 h; rfl
 nodup := by decide
 kinds := by decide
 noFree := by decide
theorem k_enter : DefK D_enter ["self", "s"] D_enter.body where
 body := rfl
 fn := rfl
 co := rfl
 gen := rfl
 bind := by
  intro nm qual pm code doc vs h
  refine E21 (list2 h) fun x y z2 => ?_; subst z2; rfl
 nodup := by decide
 kinds := by decide
 noFree := by decide
theorem k_leave : DefK D_leave ["self", "s"] D_leave.body where
 body := rfl
 fn := rfl
 co := rfl
 gen := rfl
 bind := by
  intro nm qual pm code doc vs h
  refine E21 (list2 h) fun x y z2 => ?_; subst z2; rfl
 nodup := by decide
 kinds := by decide
 noFree := by decide
noncomputable def tickR (r : Row) : List Row := if r.w = 0 then [r] else if r.w - 1 = 0 then [] else [{ r with w := r.w - 1 }]
theorem tickR_nm {r q : Row} (h : q ∈ tickR r) : q.nm = r.nm := by
 unfold tickR at h
 split at h
 ·rw [List.mem_singleton.mp h]
 ·split at h
  ·cases h
  ·rw [List.mem_singleton.mp h]
theorem tickR_len (r : Row) : (tickR r).length ≤ 1 := by
 unfold tickR; split
 ·simp
 ·split <;> simp
theorem flat_nm {f : Row → List Row} (hf : ∀ r q, q ∈ f r → q.nm = r.nm) {dn : List Row} {q : Row} (h : q ∈ dn.flatMap f) : ∃ r ∈ dn, r.nm = q.nm := by
 refine E12 (List.mem_flatMap.mp h) fun r hr hq => ?_
 exact (I12 r hr ((hf r q hq).symm))
theorem flat_len {f : Row → List Row} (hf : ∀ r, (f r).length ≤ 1) (dn : List Row) : (dn.flatMap f).length ≤ dn.length := by
 induction dn with
 | nil => simp
 | cons r dn ih => have := hf r; simp only [List.flatMap_cons, List.length_append, List.length_cons]; omega
theorem dget_row {pre post : List Row} {r : Row} (h : ∀ q ∈ pre, q.nm ≠ r.nm) : dget (rowsEs (pre ++ r :: post)) r.nm = some (.ref r.a) := by
 induction pre with
 | nil =>
  show dget ((r.nm, V.ref r.a) :: rowsEs post) r.nm = _
  rw [dget_cons]; simp
 | cons q pre ih =>
  show dget ((q.nm, V.ref q.a) :: rowsEs (pre ++ r :: post)) r.nm = _
  rw [dget_cons, if_neg (h q (.head _))]
  exact ih fun q hq => h q (.tail _ hq)
theorem rowsEs_drop {pre post : List Row} {r : Row} (h1 : ∀ q ∈ pre, q.nm ≠ r.nm) (h2 : ∀ q ∈ post, q.nm ≠ r.nm) : ddel (rowsEs (pre ++ r :: post)) r.nm = rowsEs (pre ++ post) := by
 rw [rowsEs_del, List.filter_append, List.filter_cons_of_neg (by simp), filter_ne h1, filter_ne h2]
theorem rowsN {rows : List Row} : ((rowsEs rows).map fun e => V.str e.1) = rows.map fun r => V.str r.nm := by unfold rowsEs; rw [List.map_map]; rfl
theorem rowsK {rows : List Row} (h : rows.length ≤ 100) : (rowsEs rows).length ≤ 1000 := by rw [rowsEs, List.length_map]; exact Nat.le_trans h (by decide)
theorem flat_step {f : Row → List Row} {dn td : List Row} {r : Row} {l : List Row} (h : f r = l) : (dn ++ [r]).flatMap f ++ td = dn.flatMap f ++ (l ++ td) := by rw [List.flatMap_append, List.flatMap_cons, h, List.flatMap_nil, List.append_nil, List.append_assoc]
theorem hsRow {c : Cx} {A : Around} {env : Env} {C : Addr} {ad : Ad} {lay : V} {rs pos : List (Str × V)} {occ : List Str} {pre post : List Row} {r : Row} {e w : Int} {l : List (Str × V)} {sts : List Stmt} {k : FV → St → Prop} (h : WSs c A env ⟨l, mhp C ad lay rs pos occ (pre ++ { r with e := e, w := w } :: post)⟩ sts k) : WSs c A env ⟨l, hset (mhp C ad lay rs pos occ (pre ++ r :: post)) r.a (.lst [.ref r.b, .int e, .int w])⟩ sts k :=
 WSs.nd fun hnd => by
  have hnd' : ((hset (mhp C ad lay rs pos occ (pre ++ r :: post)) r.a (.lst [.ref r.b, .int e, .int w])).map (·.1)).Nodup := hnd
  rw [hset_fst] at hnd'
  rw [hset_rowA hnd']; exact h
section
variable {c : Cx} (G : Core c) {n : Nat} {ad : Ad} {lay : Lay} {rs pos : List (Str × V)} {occ : List Str} {rows : List Row}
theorem spec_tick (hnd : (rows.map Row.nm).Nodup) (h2 : rows.length ≤ 100) :
  CallSpec c (n + 1) G.f_tick (mhp G.C ad lay.v rs pos occ rows) [.ref ad.x] fun X H' => X = .str "done" ∧ H' = mhp G.C ad lay.v rs pos occ (rows.flatMap tickR) := by
 refine def_H G.F_tick k_tick rfl fun A qual code L hR' => ?_
 conv in D_tick.body => whnf
 refine sFold (ls := rows) (f := fun r : Row => V.str r.nm) (ς := [("self", .ref ad.x)]) (S := fun dn td => mhp G.C ad lay.v rs pos occ (dn.flatMap tickR ++ td)) (ev_CallB G.b_list rfl (.type _) rfl (evs (ev_SA G.K G.n_held tl_held rfl mem_x mem_ns rfl) evs0) ((f_list_odct mem_hd (rowsK h2)).frz rfl)) seq_lst rowsN (St.le.refl _) (fun dn r td hrows k' hk => ?_) ?_
 ·refine E02 (names_post (hrows.symm ▸ hnd : ((dn ++ r :: td).map Row.nm).Nodup)) fun n1 n2 => ?_
  have n1' : ∀ q ∈ dn.flatMap tickR, q.nm ≠ r.nm := fun q hq e => E12 (flat_nm (fun _ _ => tickR_nm) hq) fun r' hr' e' => n1 r' hr' (e'.trans e)
  have hd := dget_row (post := td) n1'
  have hr : r ∈ dn.flatMap tickR ++ r :: td := List.mem_append_right _ (.head _)
  have e0 : ∀ l, tickR r = l → (dn ++ [r]).flatMap tickR ++ td = dn.flatMap tickR ++ (l ++ td) := fun l h => flat_step h
  refine (av_N (.inl rfl)).run _ (sIf (tp_int (ev_own (ev_Sub (ev_SA G.K G.n_held tl_held rfl mem_x mem_ns rfl) (ev_N rfl) (item_odct mem_hd hd)) (mem_rows (mem_rowA hr)) rfl)) (fun hw => ?_) fun hw => ?_)
  ·refine sAug (ev_Sub (ev_SA G.K G.n_held tl_held rfl mem_x mem_ns rfl) (ev_N rfl) (item_odct mem_hd hd)) ev_i (item_own (mem_rows (mem_rowA hr)) (by decide) (by decide) rfl) ev_i inp_sub (mem_rows (mem_rowA hr)) (set_olst (mem_rows (mem_rowA hr)) (by decide) (show ((2 : Nat) : Int) < ((3 : Nat) : Int) by decide) (sz10 (Nat.le_of_ble_eq_true rfl))) ?_
   refine hsRow (pre := dn.flatMap tickR) (r := r) (e := r.e) (w := r.w - 1) ?_
   have hr2 : ({ r with e := r.e, w := r.w - 1 } : Row) ∈ dn.flatMap tickR ++ { r with e := r.e, w := r.w - 1 } :: td := List.mem_append_right _ (.head _)
   have hd2 : dget (rowsEs (dn.flatMap tickR ++ { r with e := r.e, w := r.w - 1 } :: td)) r.nm = some (.ref r.a) := dget_row (r := { r with e := r.e, w := r.w - 1 }) n1'
   refine sIf (tp_not (tp_int (ev_own (ev_Sub (ev_SA G.K G.n_held tl_held rfl mem_x mem_ns rfl) (ev_N rfl) (item_odct mem_hd hd2)) (mem_rows (mem_rowA (r := { r with e := r.e, w := r.w - 1 }) hr2)) rfl))) (fun hw1 => ?_) fun hw1 => ?_
   ·refine sDel (ev_SA G.K G.n_held tl_held rfl mem_x mem_ns rfl) (ev_N rfl) mem_hd (del_odct mem_hd (by rw [hd2]; rfl) (rowsL (n := 100) ?_)) ?_
    ·rw [List.length_append]
     exact Nat.le_trans (Nat.add_le_add_right (flat_len tickR_len dn) _) (by rw [← hrows, List.length_append] at h2; exact h2)
    refine WSs.hs (pre := []) ?_
    rw [show ddel (rowsEs (dn.flatMap tickR ++ { r with e := r.e, w := r.w - 1 } :: td)) r.nm = rowsEs (dn.flatMap tickR ++ td) from rowsEs_drop (r := { r with e := r.e, w := r.w - 1 }) n1' n2]
    refine wSs_nil (wSs_nil (wSs_nil (hk _ (le_ls ⟨rfl, trivial⟩ ?_)).1))
    rw [e0 [] (by unfold tickR; rw [if_neg hw, if_pos (Decidable.of_not_not hw1)])]
    exact .cons₂ _ (.cons₂ _ (.cons₂ _ (.cons₂ _ (.cons₂ _ (.cons₂ _ (rowsHp_sub ((List.Sublist.refl _).append (List.sublist_cons_self _ _))))))))
   ·refine wSs_nil (wSs_nil (wSs_nil (hk _ ?_).1))
    rw [e0 [{ r with w := r.w - 1 }] (by unfold tickR; rw [if_neg hw, if_neg (fun z => hw1 fun q => q z)])]
    exact le_loc ⟨rfl, trivial⟩
  ·refine wSs_nil (wSs_nil (hk _ ?_).1)
   rw [e0 [r] (by unfold tickR; rw [if_pos (Decidable.of_not_not hw)])]
   exact le_loc ⟨rfl, trivial⟩
 ·show WSs c A _ ⟨_, mhp G.C ad lay.v rs pos occ (rows.flatMap tickR ++ [])⟩ _ _
  rw [List.append_nil]
  exact sRetH ev_s
end
end Mine
end
noncomputable section
set_option maxRecDepth 100000
namespace Mine
open PySem PySem.SeqAt PyProof.Rows
noncomputable def entR (R : Str → Rt) (s : Str) (r : Row) : Row := if (R r.nm).ov[r.e.toNat]? = some s then { r with e := r.e + 1, w := 0 } else r
theorem entR_nm (R : Str → Rt) (s : Str) (r : Row) : (entR R s r).nm = r.nm := by unfold entR; split <;> rfl
theorem entR_a (R : Str → Rt) (s : Str) (r : Row) : (entR R s r).a = r.a := by unfold entR; split <;> rfl
theorem rowsEs_ent (R : Str → Rt) (s : Str) (rows : List Row) : rowsEs (rows.map (entR R s)) = rowsEs rows := by
 unfold rowsEs
 rw [List.map_map]
 exact List.map_congr_left fun r _ => by simp only [Function.comp, entR_nm, entR_a]
noncomputable def enterF (R : Str → Rt) (secs occ : List Str) (rows : List Row) (s : Str) : Str × List Str × List Row :=
 if s ∈ secs then (if s ∈ occ then ("occupied", occ, rows) else ("done", sadd occ s, rows.map (entR R s))) else ("unknown", occ, rows)
theorem hsRow' {c : Cx} {A : Around} {env : Env} {C : Addr} {ad : Ad} {lay : V} {rs pos : List (Str × V)} {occ : List Str} {pre post : List Row} {r : Row} {e w : Int} {l : List (Str × V)} {sts : List Stmt} {k : FV → St → Prop} (h : WSs c A env ⟨l, mhp' C ad lay rs pos occ (pre ++ { r with e := e, w := w } :: post)⟩ sts k) : WSs c A env ⟨l, hset (mhp' C ad lay rs pos occ (pre ++ r :: post)) r.a (.lst [.ref r.b, .int e, .int w])⟩ sts k :=
 WSs.nd fun hnd => by
  have hnd' : ((hset (mhp' C ad lay rs pos occ (pre ++ r :: post)) r.a (.lst [.ref r.b, .int e, .int w])).map (·.1)).Nodup := hnd
  rw [hset_fst] at hnd'
  rw [hset_rowA' hnd']; exact h
section
variable {c : Cx} (G : Core c) {n : Nat} {ad : Ad} {lay : Lay} {rs pos : List (Str × V)} {occ : List Str} {rows : List Row}
theorem spec_enter {R : Str → Rt} {s : Str} (hR : RsOk R rs rows) (hov : ∀ r ∈ rows, (R r.nm).ov.length ≤ 100) (he0 : ∀ r ∈ rows, 0 ≤ r.e) (h3 : occ.length ≤ 100) :
  CallSpec c (n + 1) G.f_enter (mhp G.C ad lay.v rs pos occ rows) [.ref ad.x, .str s] fun X H' => X = .str (enterF R lay.secs occ rows s).1 ∧ H' = mhp G.C ad lay.v rs pos (enterF R lay.secs occ rows s).2.1 (enterF R lay.secs occ rows s).2.2 := by
 refine def_H G.F_enter k_enter rfl fun A qual code L hR' => ?_
 conv in D_enter.body => whnf
 unfold enterF
 refine sIfQN (K := fun q : Str × List Str × List Row => RetH (.str q.1) (mhp G.C ad lay.v rs pos q.2.1 q.2.2)) (tp_ni (ev_N rfl) (ev_T (ev_SA G.K G.n_lay tl_lay rfl mem_x mem_ns rfl) rfl)) (fun _ => ev_s) retH fun hs => ?_
 refine sIfQ (K := fun q : Str × List Str × List Row => RetH (.str q.1) (mhp G.C ad lay.v rs pos q.2.1 q.2.2)) (tp_inO (ev_N rfl) (ev_SA G.K G.n_occ tl_occ rfl mem_x mem_ns rfl) mem_od) (fun _ => ev_s) retH fun ho => ?_
 refine sMeth meth_add (ev_SA G.K G.n_occ tl_occ rfl mem_x mem_ns rfl) (vt_oset mem_od) (evs (ev_N rfl) evs0) mem_od (u_add mem_od (Nat.lt_of_le_of_lt (Nat.add_le_add_right h3 1) (by decide))) ?_
 refine WSs.hs (pre := [_, _, _, _, _]) ?_
 refine sFoldH (ls := rows) (f := fun r : Row => V.tup [.str r.nm, .ref r.a]) (ς := [("self", .ref ad.x), ("s", .str s)]) (η₀ := mhp' G.C ad lay.v rs pos (sadd occ s) rows) (d := ad.hd) (ob := .dct (rowsEs rows)) (S := fun dn td => mhp' G.C ad lay.v rs pos (sadd occ s) (dn.map (entR R s) ++ td)) (ev_items rfl (ev_SA G.K G.n_held tl_held rfl (.tail _ mem_x') (.tail _ mem_ns') rfl) (.head _)) (seq_oview (.head _)) (rowsV_eq rows) (St.le.refl _) (fun dn r td hrows k' hk => ?_) ?_
 ·have hr0 : r ∈ rows := by rw [← hrows]; exact List.mem_append_right _ (.head _)
  have hr : r ∈ dn.map (entR R s) ++ r :: td := List.mem_append_right _ (.head _)
  have e0 := he0 r hr0
  have ov1 := sz100 (hov r hr0)
  have e1 : ∀ q, entR R s r = q → (dn ++ [r]).map (entR R s) ++ td = dn.map (entR R s) ++ q :: td := fun q h => by rw [List.map_append, List.map_cons, h, List.append_assoc]; rfl
  have hget : r.e < ((R r.nm).ov.length : Int) → ∃ y, (R r.nm).ov[r.e.toNat]? = some y := fun z => ⟨_, List.getElem?_eq_getElem ((Int.toNat_lt e0).mpr z)⟩
  refine (av2 (.inl rfl) (.inl rfl)).run _ ?_
  refine sSet (.inl rfl) (ev_T (ev_Sub (ev_SA G.K G.n_r tl_r rfl mem_x' mem_ns' rfl) (ev_N rfl) (item_odct mem_rd' (hR.get r hr0))) rfl) ?_
  refine sIf (P := (R r.nm).ov[r.e.toNat]? = some s) (tp_iff (tp_A2 (Q := (R r.nm).ov[r.e.toNat]? = some s) (tp_lt (ev_own (ev_N rfl) (mem_rows' (mem_rowA hr)) rfl) (ev_CallB G.b_len rfl (.blt _) rfl (evs (ev_N rfl) evs0) (b_len_lst (by rw [List.length_map]; exact ov1)))) fun z => ?_) ?_) (fun hit => ?_) fun hit => ?_
  ·rw [List.length_map] at z
   exact E11 (hget z) fun y hy => tp_iff (Q := (R r.nm).ov[r.e.toNat]? = some s) (tp_eq (x := y) (ev_Sub (ev_N rfl) (ev_own (ev_N rfl) (mem_rows' (mem_rowA hr)) rfl) (item_lst e0 (Int.lt_trans z (Int.lt_of_le_of_lt (Int.ofNat_le.mpr (hov r hr0)) (by decide))) (by rw [List.getElem?_map, hy]; rfl))) (ev_N rfl)) (by rw [hy, Option.some.injEq])
  ·rw [List.length_map]
   refine ⟨fun z => z.2, fun z => ⟨?_, z⟩⟩
   exact (Int.toNat_lt e0).mp (List.getElem?_eq_some_iff.mp z).1
  ·refine sAug (ev_N rfl) ev_i (item_own (mem_rows' (mem_rowA hr)) (by decide) (by decide) rfl) ev_i inp_add (mem_rows' (mem_rowA hr)) (set_olst (mem_rows' (mem_rowA hr)) (by decide) (show ((1 : Nat) : Int) < ((3 : Nat) : Int) by decide) (sz10 (Nat.le_of_ble_eq_true rfl))) ?_
   refine hsRow' (pre := dn.map (entR R s)) (r := r) (e := r.e + 1) (w := r.w) ?_
   have hr2 : ({ r with e := r.e + 1, w := r.w } : Row) ∈ dn.map (entR R s) ++ { r with e := r.e + 1, w := r.w } :: td := List.mem_append_right _ (.head _)
   refine sSub ev_i (ev_N rfl) ev_i (mem_rows' (mem_rowA (r := { r with e := r.e + 1, w := r.w }) hr2)) (set_olst (mem_rows' (mem_rowA (r := { r with e := r.e + 1, w := r.w }) hr2)) (by decide) (show ((2 : Nat) : Int) < ((3 : Nat) : Int) by decide) (sz10 (Nat.le_of_ble_eq_true rfl))) ?_
   refine hsRow' (pre := dn.map (entR R s)) (r := { r with e := r.e + 1, w := r.w }) (e := r.e + 1) (w := 0) ?_
   refine wSs_nil (wSs_nil (hk _ ?_))
   rw [e1 { r with e := r.e + 1, w := 0 } (by unfold entR; rw [if_pos hit])]
   exact le_loc (I03 rfl rfl trivial)
  ·refine wSs_nil (wSs_nil (hk _ ?_))
   rw [e1 r (by unfold entR; rw [if_neg hit])]
   exact le_loc (I03 rfl rfl trivial)
 ·refine sRetP (l := [("self", .ref ad.x), ("s", .str s)]) ev_s (le_eq ?_)
  show _ = mhp G.C ad lay.v rs pos (sadd occ s) (rows.map (entR R s))
  unfold mhp
  rw [rowsEs_ent, List.append_nil]
end
end Mine
end
noncomputable section
set_option maxRecDepth 100000
namespace Mine
open PySem PySem.SeqAt PyProof.Rows
noncomputable def leaveR (R : Str → Rt) (s : Str) (r : Row) : List Row :=
 match r.left with
 | [] => [r]
 | x :: l => if x = s ∧ s ∈ (R r.nm).ov.take r.e.toNat then (if l = [] then [] else [{ r with left := l }]) else [r]
theorem leaveR_nm {R : Str → Rt} {s : Str} {r q : Row} (h : q ∈ leaveR R s r) : q.nm = r.nm := by
 unfold leaveR at h
 split at h
 ·rw [List.mem_singleton.mp h]
 ·split at h
  ·split at h
   ·cases h
   ·rw [List.mem_singleton.mp h]
  ·rw [List.mem_singleton.mp h]
theorem leaveR_len (R : Str → Rt) (s : Str) (r : Row) : (leaveR R s r).length ≤ 1 := by
 unfold leaveR
 split
 ·simp
 ·split
  ·split <;> simp
  ·simp
noncomputable def leaveF (R : Str → Rt) (secs occ : List Str) (rows : List Row) (s : Str) : Str × List Str × List Row :=
 if s ∈ secs then (if s ∈ occ then ("done", occ.filter (fun y => decide (y ≠ s)), rows.flatMap (leaveR R s)) else ("free", occ, rows)) else ("unknown", occ, rows)
theorem first_idx {s : Str} : ∀ {ov : List Str}, s ∈ ov → ∃ j : Nat, ov[j]? = some s ∧ (∀ m, m < j → ov[m]? ≠ some s) ∧ ∀ e : Nat, j < e ↔ s ∈ ov.take e
 | [], h => by cases h
 | x :: ov, h => by
  by_cases hx : x = s
  ·subst hx
   refine (I13 0 (by simp) (fun m hm => by omega) (fun e => ?_))
   cases e with
   | zero => simp
   | succ e => simp
  ·have h' : s ∈ ov := by
    rcases List.mem_cons.mp h with e | h
    ·exact absurd e.symm hx
    ·exact h
   refine E13 (first_idx h') fun j h1 h2 h3 => ?_
   refine (I13 (j + 1) (by simpa using h1) (fun m hm => ?_) (fun e => ?_))
   ·cases m with
    | zero => simpa using hx
    | succ m => simpa using h2 m (by omega)
   ·cases e with
    | zero => simp
    | succ e =>
     have hx' : ¬ s = x := fun e => hx e.symm
     rw [List.take_succ_cons, List.mem_cons, ← h3 e]
     simp [hx']
theorem hsRowB {c : Cx} {A : Around} {env : Env} {C : Addr} {ad : Ad} {lay : V} {rs pos : List (Str × V)} {occ : List Str} {pre post : List Row} {r : Row} {l' : List Str} {l : List (Str × V)} {sts : List Stmt} {k : FV → St → Prop} (h : WSs c A env ⟨l, mhp C ad lay rs pos occ (pre ++ { r with left := l' } :: post)⟩ sts k) : WSs c A env ⟨l, hset (mhp C ad lay rs pos occ (pre ++ r :: post)) r.b (.lst (l'.map .str))⟩ sts k :=
 WSs.nd fun hnd => by
  have hnd' : ((hset (mhp C ad lay rs pos occ (pre ++ r :: post)) r.b (.lst (l'.map .str))).map (·.1)).Nodup := hnd
  rw [hset_fst] at hnd'
  rw [hset_rowB hnd']; exact h
section
variable {c : Cx} (G : Core c) {n : Nat} {ad : Ad} {lay : Lay} {rs pos : List (Str × V)} {occ : List Str} {rows : List Row}
theorem spec_leave {R : Str → Rt} {s : Str} (hnd : (rows.map Row.nm).Nodup) (hR : RsOk R rs rows) (hov : ∀ r ∈ rows, (R r.nm).ov.length ≤ 100) (he0 : ∀ r ∈ rows, 0 ≤ r.e) (hin : ∀ r ∈ rows, ∀ l, r.left = s :: l → s ∈ (R r.nm).ov) (h2 : rows.length ≤ 100) :
  CallSpec c (n + 1) G.f_leave (mhp G.C ad lay.v rs pos occ rows) [.ref ad.x, .str s] fun X H' => X = .str (leaveF R lay.secs occ rows s).1 ∧ H' = mhp G.C ad lay.v rs pos (leaveF R lay.secs occ rows s).2.1 (leaveF R lay.secs occ rows s).2.2 := by
 refine def_H G.F_leave k_leave rfl fun A qual code L hR' => ?_
 conv in D_leave.body => whnf
 unfold leaveF
 refine sIfQN (K := fun q : Str × List Str × List Row => RetH (.str q.1) (mhp G.C ad lay.v rs pos q.2.1 q.2.2)) (tp_ni (ev_N rfl) (ev_T (ev_SA G.K G.n_lay tl_lay rfl mem_x mem_ns rfl) rfl)) (fun _ => ev_s) retH fun hs => ?_
 refine sIfQN (K := fun q : Str × List Str × List Row => RetH (.str q.1) (mhp G.C ad lay.v rs pos q.2.1 q.2.2)) (tp_niO (ev_N rfl) (ev_SA G.K G.n_occ tl_occ rfl mem_x mem_ns rfl) mem_od) (fun _ => ev_s) retH fun ho => ?_
 refine sMeth meth_discard (ev_SA G.K G.n_occ tl_occ rfl mem_x mem_ns rfl) (vt_oset mem_od) (evs (ev_N rfl) evs0) mem_od (u_discard mem_od) ?_
 refine WSs.hs (pre := [_, _, _, _, _]) ?_
 generalize hocc : occ.filter (fun y => decide (y ≠ s)) = occ'
 refine sFold (ls := rows) (f := fun r : Row => V.str r.nm) (η₀ := mhp G.C ad lay.v rs pos occ' rows) (ς := [("self", .ref ad.x), ("s", .str s)]) (S := fun dn td => mhp G.C ad lay.v rs pos occ' (dn.flatMap (leaveR R s) ++ td)) (ev_CallB G.b_list rfl (.type _) rfl (evs (ev_SA G.K G.n_held tl_held rfl mem_x mem_ns rfl) evs0) ((f_list_odct mem_hd (rowsK h2)).frz rfl)) seq_lst rowsN (St.le.refl _) (fun dn r td hrows k' hk => ?_) ?_
 ·refine E02 (names_post (hrows.symm ▸ hnd : ((dn ++ r :: td).map Row.nm).Nodup)) fun n1 n2 => ?_
  have n1' : ∀ q ∈ dn.flatMap (leaveR R s), q.nm ≠ r.nm := fun q hq e => E12 (flat_nm (fun _ _ => leaveR_nm) hq) fun r' hr' e' => n1 r' hr' (e'.trans e)
  have hd := dget_row (post := td) n1'
  have hr0 : r ∈ rows := by rw [← hrows]; exact List.mem_append_right _ (.head _)
  have hr : r ∈ dn.flatMap (leaveR R s) ++ r :: td := List.mem_append_right _ (.head _)
  have eq1 : ∀ l, leaveR R s r = l → (dn ++ [r]).flatMap (leaveR R s) ++ td = dn.flatMap (leaveR R s) ++ (l ++ td) := fun l h => flat_step h
  have hlf := hR.left r hr0
  refine (av_N (.inl rfl)).run _ ?_
  refine sSet (.inl rfl) (ev_Sub (ev_SA G.K G.n_held tl_held rfl mem_x mem_ns rfl) (ev_N rfl) (item_odct mem_hd hd)) ?_
  refine sSet (.inl rfl) (ev_T (ev_Sub (ev_SA G.K G.n_r tl_r rfl mem_x mem_ns rfl) (ev_N rfl) (item_odct mem_rd (hR.get r hr0))) rfl) ?_
  refine sIf (P := r.left ≠ [] ∧ r.left.head? = some s ∧ s ∈ (R r.nm).ov.take r.e.toNat) (tp_A3 (tp_own (ev_own (ev_N rfl) (mem_rows (mem_rowA hr)) rfl) (mem_rows (mem_rowB hr)) (sz100 hlf)) (fun z => ?_) (fun z1 z2 => ?_)) (fun hit => ?_) fun hit => ?_
  ·obtain ⟨x, l, hl⟩ := List.exists_cons_of_ne_nil z
   exact tp_iff (tp_eq (x := x) (ev_own (ev_own (ev_N rfl) (mem_rows (mem_rowA hr)) rfl) (mem_rows (mem_rowB hr)) (by rw [hl]; rfl)) (ev_N rfl)) (by rw [hl, List.head?_cons, Option.some.injEq])
  ·obtain ⟨x, l, hl⟩ := List.exists_cons_of_ne_nil z1
   rw [hl, List.head?_cons, Option.some.injEq] at z2
   subst z2
   refine E13 (first_idx (hin r hr0 l hl)) fun j j1 j2 j3 => ?_
   refine tp_iff (tp_lt (ev_Meth meth_index (ev_N rfl) vt_lst (evs (ev_N rfl) evs0) (b_index j1 j2 (sz100 (hov r hr0)))) (ev_own (ev_N rfl) (mem_rows (mem_rowA hr)) rfl)) ?_
   rw [← j3]
   exact Int.lt_toNat.symm
  ·obtain ⟨x, l, hl⟩ := List.exists_cons_of_ne_nil hit.1
   have hx := hit.2.1
   rw [hl, List.head?_cons, Option.some.injEq] at hx
   subst hx
   have hmb : (r.b, O.lst (V.str x :: l.map .str)) ∈ mhp G.C ad lay.v rs pos occ' (dn.flatMap (leaveR R x) ++ r :: td) := by
    have := mem_rows (C := G.C) (ad := ad) (lay := lay.v) (rs := rs) (pos := pos) (occ := occ') (mem_rowB hr)
    rw [hl] at this; exact this
   rw [hl] at hlf
   have hl1 : l.length ≤ 100 := Nat.le_of_succ_le hlf
   refine sMeth meth_pop (ev_own (ev_N rfl) (mem_rows (mem_rowA hr)) rfl) (vt_olst hmb) (evs ev_i evs0) hmb (u_pop0 hmb (by rw [List.length_map]; exact sz100 hlf)) ?_
   refine hsRowB (pre := dn.flatMap (leaveR R x)) (r := r) ?_
   have hr2 : ({ r with left := l } : Row) ∈ dn.flatMap (leaveR R x) ++ { r with left := l } :: td := List.mem_append_right _ (.head _)
   have hd2 : dget (rowsEs (dn.flatMap (leaveR R x) ++ { r with left := l } :: td)) r.nm = some (.ref r.a) := dget_row (r := { r with left := l }) n1'
   refine sIf (tp_not (tp_own (ev_own (ev_N rfl) (mem_rows (mem_rowA (r := { r with left := l }) hr2)) rfl) (mem_rows (mem_rowB (r := { r with left := l }) hr2)) (sz100 hl1))) (fun he => ?_) fun he => ?_
   ·refine sDel (ev_SA G.K G.n_held tl_held rfl mem_x mem_ns rfl) (ev_N rfl) mem_hd (del_odct mem_hd (by rw [hd2]; rfl) (rowsL (n := 100) ?_)) ?_
    ·rw [List.length_append]
     exact Nat.le_trans (Nat.add_le_add_right (flat_len (leaveR_len R x) dn) _) (by rw [← hrows, List.length_append] at h2; exact h2)
    refine WSs.hs (pre := []) ?_
    rw [show ddel (rowsEs (dn.flatMap (leaveR R x) ++ { r with left := l } :: td)) r.nm = rowsEs (dn.flatMap (leaveR R x) ++ td) from rowsEs_drop (r := { r with left := l }) n1' n2]
    refine wSs_nil (wSs_nil (wSs_nil (hk _ (le_ls (I03 rfl rfl trivial) ?_)).1))
    rw [eq1 [] (by unfold leaveR; rw [hl]; exact (if_pos ⟨rfl, hit.2.2⟩).trans (if_pos (Decidable.of_not_not he)))]
    exact .cons₂ _ (.cons₂ _ (.cons₂ _ (.cons₂ _ (.cons₂ _ (.cons₂ _ (rowsHp_sub ((List.Sublist.refl _).append (List.sublist_cons_self _ _))))))))
   ·refine wSs_nil (wSs_nil (wSs_nil (hk _ ?_).1))
    rw [eq1 [{ r with left := l }] (by unfold leaveR; rw [hl]; exact (if_pos ⟨rfl, hit.2.2⟩).trans (if_neg fun z => he fun q => q z))]
    exact le_loc (I03 rfl rfl trivial)
  ·refine wSs_nil (wSs_nil (hk _ ?_).1)
   rw [eq1 [r] ?_]
   ·exact le_loc (I03 rfl rfl trivial)
   unfold leaveR
   cases hl : r.left with
   | nil => rfl
   | cons x l => exact if_neg fun z => hit ⟨by rw [hl]; exact List.cons_ne_nil _ _, by rw [hl, z.1]; rfl, z.2⟩
 ·show WSs c A _ ⟨_, mhp G.C ad lay.v rs pos occ' (rows.flatMap (leaveR R s) ++ [])⟩ _ _
  rw [List.append_nil]
  exact sRetH ev_s
end
end Mine
end
noncomputable section
set_option maxRecDepth 100000
namespace Mine
open PySem PySem.SeqAt PyProof.Rows
theorem k_set : DefK D_set ["self", "n"] D_set.body where
 body := rfl
 fn := rfl
 co := rfl
 gen := rfl
 bind := by
  intro nm qual pm code doc vs h
  refine E21 (list2 h) fun x y z2 => ?_; subst z2; rfl
 nodup := by decide
 kinds := by decide
 noFree := by decide
noncomputable def setF (R : Str → Rt) (known : Bool) (hm : Str → Str) (pos : List (Str × Str)) (occ : List Str) (rows : List Row) (nm : Str) : Str × List (Str × Str) :=
 if known = false then ("unknown", pos)
 else if rows.any (fun r => decide (r.nm = nm)) then ("held", pos)
 else if (R nm).ov.any (fun s => decide (s ∈ occ)) then ("occupied", pos)
 else if rows.any (fun r => clashB (R nm) (R r.nm)) then ("conflict", pos)
 else if (R nm).nd.any (fun q => !decide (tget pos q.1 = some q.2) && lockB R occ (hm q.1) q.1 rows) then ("locked", pos)
 else ("done", tfold (R nm).nd pos)
theorem dget_any (rows : List Row) (n : Str) : (dget (rowsEs rows) n).isSome = rows.any fun r => decide (r.nm = n) := by
 induction rows with
 | nil => rfl
 | cons r rows ih =>
  show (dget ((r.nm, V.ref r.a) :: rowsEs rows) n).isSome = _
  rw [dget_cons, List.any_cons]
  by_cases h : r.nm = n
  ·simp [h]
  ·simp [h, ih]
theorem any_sof (xs : List Str) (f : Str → Bool) : (sof xs).any f = xs.any f := by
 rw [Bool.eq_iff_iff, List.any_eq_true, List.any_eq_true]
 exact ⟨fun ⟨x, hx, h⟩ => (I12 x ((mem_sof _ _).mp hx) h), fun ⟨x, hx, h⟩ => (I12 x ((mem_sof _ _).mpr hx) h)⟩
section
variable {c : Cx} (G : Core c) {n : Nat} {ad : Ad} {lay : Lay} {rs : List (Str × V)} {occ : List Str} {rows : List Row}
structure RtOk (r : Rt) : Prop where
 ov : r.ov.length ≤ 100
 nd : r.nd.length ≤ 100
noncomputable def SetK (C : Addr) (ad : Ad) (lay : V) (rs : List (Str × V)) (occ : List Str) (rows : List Row) (h : Held) (q : Str × List (Str × Str)) (f : FV) (σ : St) : Prop :=
 f = .ret (.str q.1) ∧ ∃ l rows', rows'.map Row.held = rows.map Row.held ++ (if q.1 = "done" then [h] else []) ∧ σ.le ⟨l, mhp C ad lay rs (tv q.2) occ rows'⟩
theorem setStay {C : Addr} {ad : Ad} {lay : V} {rs : List (Str × V)} {occ : List Str} {rows : List Row} {h : Held} {told : Str} {pos : List (Str × Str)} {σ : St} {l : List (Str × V)} (hl : σ.le ⟨l, mhp C ad lay rs (tv pos) occ rows⟩) (hne : told ≠ "done" := by decide) : SetK C ad lay rs occ rows h (told, pos) (.ret (.str told)) σ :=
 ⟨rfl, l, rows, by rw [if_neg hne, List.append_nil], hl⟩
theorem spec_set {R : Str → Rt} {known : Bool} {hm : Str → Str} {pos : List (Str × Str)} {nm : Str} (hk : dget rs nm = if known then some (R nm).v else none) (hR : RsOk R rs rows) (hok : ∀ r, RtOk (R r)) (h1 : lay.pts.length ≤ 100) (h2 : rows.length ≤ 90) (h3 : pos.length ≤ 100)
  (hpos : ∀ q ∈ (R nm).nd, (tget pos q.1).isSome = true ∧ tget (tfold lay.pts []) q.1 = some (hm q.1)) :
  CallSpec c (n + 2) G.f_set (mhp G.C ad lay.v rs (tv pos) occ rows) [.ref ad.x, .str nm] fun X H' => X = .str (setF R known hm pos occ rows nm).1 ∧
   ∃ rows', rows'.map Row.held = rows.map Row.held ++ (if (setF R known hm pos occ rows nm).1 = "done" then [⟨nm, (R nm).ov, 0, 0⟩] else []) ∧ H' = mhp G.C ad lay.v rs (tv (setF R known hm pos occ rows nm).2) occ rows' := by
 refine call_def G.F_set k_set rfl fun A qual code L hR' => ?_
 conv in D_set.body => whnf
 refine WP.imp (k := SetK G.C ad lay.v rs occ rows ⟨nm, (R nm).ov, 0, 0⟩ (setF R known hm pos occ rows nm)) ?_ fun f σ => R02 fun z q => E22 q fun l rows' h1 h2 => I13 _ h2 (congrArg retV z) ⟨rows', h1, rfl⟩
 unfold setF
 cases known with
 | false => exact sIfH (tp_niD (ev_N rfl) (ev_SA G.K G.n_r tl_r rfl mem_x mem_ns rfl) mem_rd) (by rw [hk]; exact fun z => nomatch z) ev_s (setStay (St.le.refl _))
 | true =>
 have hk' : dget rs nm = some (R nm).v := hk
 have ov1 := (hok nm).ov
 have nd1 := (hok nm).nd
 rw [if_neg (fun z => nomatch z)]
 refine sIfF (tp_niD (ev_N rfl) (ev_SA G.K G.n_r tl_r rfl mem_x mem_ns rfl) mem_rd) (by rw [hk']; exact fun z => z rfl) ?_
 refine sSet (.inl rfl) (ev_Sub (ev_SA G.K G.n_r tl_r rfl mem_x mem_ns rfl) (ev_N rfl) (item_odct mem_rd hk')) ?_
 refine sIfQ (K := SetK G.C ad lay.v rs occ rows ⟨nm, (R nm).ov, 0, 0⟩) (tp_iff (tp_inD (ev_N rfl) (ev_SA G.K G.n_held tl_held rfl mem_x mem_ns rfl) mem_hd) (by rw [dget_any])) (fun _ => ev_s) (setStay (St.le.refl _)) fun hheld => ?_
 refine sIfQ (K := SetK G.C ad lay.v rs occ rows ⟨nm, (R nm).ov, 0, 0⟩) (tp_iff (tp_bool (ev_Self G.K G.m_busy G.F_busy tl_busy rfl mem_x mem_ns rfl (evs (ev_CallB G.b_set rfl (.type _) rfl (evs (ev_at rfl rfl) evs0) ((f_set_lst (Nat.lt_of_le_of_lt (Nat.add_le_add_right ov1 1) (by decide))).frz rfl)) evs0) hR' (spec_busy G))) (by rw [any_sof])) (fun _ => ev_s) (setStay (St.le.refl _)) fun _ => ?_
 refine sForH (ls := rows) (η := mhp' G.C ad lay.v rs (tv pos) occ rows) (f := fun r : Row => V.str r.nm) (P := fun r => clashB (R nm) (R r.nm) = true) (R := .str "conflict") (ev_SA G.K G.n_held tl_held rfl mem_x mem_ns rfl) (seq_okeys mem_hd) (by unfold rowsEs; rw [List.map_map]; rfl) ?_ (fun q τ hτ => ?_) fun q => ?_
 ·exact fun r hr => tB (av_N (.inl rfl)) (tp_bool (ev_Pure G.g_clash G.F_clash rfl (evs (ev_N rfl) (evs (ev_Sub (ev_SA G.K G.n_r tl_r rfl mem_x' mem_ns' rfl) (ev_N rfl) (item_odct mem_rd' (hR.get r hr))) evs0)) hR' (spec_clash G.F_clash G.b_set G.b_len nd1 ov1 (hok r.nm).ov))) (fun _ => ev_s) (ll1 rfl)
 ·rw [if_pos (any_t q)]; exact setStay hτ
 rw [if_neg (Bool.eq_false_iff.mp (any_f q))]
 refine sForC (ls := (R nm).nd) (f := fun q : Str × Str => V.tup [.str q.1, .str q.2]) (P := fun q => (!decide (tget pos q.1 = some q.2) && lockB R occ (hm q.1) q.1 rows) = true) (R := .str "locked") (ev_at rfl rfl) seq_lst (fun ys h => ordL ys (h.trans (prs_map _))) (fun q hq => ?_) (fun q τ hτ => ?_) fun q => ?_
 ·obtain ⟨pv, hpv⟩ := Option.isSome_iff_exists.mp (hpos q hq).1
  refine tB (av2 (.inl rfl) (.inl rfl)) (tp_iff (tp_A2 (tp_ne (x := pv) (ev_Sub (ev_SA G.K G.n_pos tl_pos rfl mem_x mem_ns rfl) (ev_N rfl) (item_odct mem_pd (by rw [tv_get, hpv]; rfl))) (ev_N rfl)) fun _ => tp_bool (ev_Self G.K G.m_locked G.F_locked tl_locked rfl mem_x mem_ns rfl (evs (ev_N rfl) evs0) hR' (spec_locked G (hpos q hq).2 h1 hR))) ?_) (fun _ => ev_s) (ll2 rfl rfl)
  rw [Bool.and_eq_true, Bool.not_eq_true', decide_eq_false_iff_not, hpv, Option.some.injEq]
 ·rw [if_pos (any_t q)]; exact setStay hτ
 rw [if_neg (Bool.eq_false_iff.mp (any_f q))]
 refine sMeth meth_update (ev_SA G.K G.n_pos tl_pos rfl mem_x mem_ns rfl) (vt_odct mem_pd) (evs (ev_at rfl rfl) evs0) mem_pd (u_update (ps := tv (R nm).nd) mem_pd (by rw [tv, tv, List.length_map, List.length_map]; exact Nat.le_trans (Nat.add_le_add h3 nd1) (by decide))) ?_
 refine WSs.hs (pre := [_, _, _, _]) ?_
 rw [tv_fold]
 refine wSs_cons (wS_Assign (wE_ListO (wEs_cons (wE_CallF G.b_list rfl (.type _) rfl ((evs (ev_at rfl rfl) evs0).run _ (I12 _ (f_list_lst (by rw [List.length_map]; exact sz100 ov1)) (fun b hb' => ?_)))))))
 refine (evs ev_i (evs ev_i evs0)).run _ ⟨sz10 (Nat.le_of_ble_eq_true rfl), fun a ha => ?_⟩
 refine wA_Sub ((ev_SA G.K G.n_held tl_held rfl (.tail _ (.tail _ (.tail _ (.head _)))) (.tail _ (.tail _ (.tail _ (.tail _ (.head _))))) rfl).run _ ((ev_N rfl).run _ (I33 ad.hd (.dct (rowsEs rows)) _ (.tail _ (.tail _ (.head _))) (set_odct (.tail _ (.tail _ (.head _))) (rowsL h2)) ?_)))
 refine WSs.hs (pre := [_, _]) ?_
 have hnew : dget (rowsEs rows) nm = none := by
  rw [← dget_any] at hheld
  exact Option.not_isSome_iff_eq_none.mp hheld
 exact wSs_Ret (ev_s.run _ ⟨rfl, _, rows ++ [⟨nm, a, b, (R nm).ov, 0, 0⟩], by rw [List.map_append, if_pos rfl]; rfl, add_row (r := ⟨nm, a, b, (R nm).ov, 0, 0⟩) hnew⟩)
end
end Mine
end
noncomputable section
set_option maxRecDepth 100000
namespace Mine
open PySem PySem.SeqAt PyProof.Rows
noncomputable def D_begin : DefD := defD PP.main.body[3]?
noncomputable def D_act : DefD := defD PP.main.body[5]?
noncomputable def D_aspects : DefD := defD PP.main.body[6]?
theorem k_begin : DefK D_begin ["layout"] D_begin.body where
 body := rfl
 fn := rfl
 co := rfl
 gen := rfl
 bind := by
  intro nm qual pm code doc vs h
  obtain ⟨x, rfl⟩ := list1 h; rfl
 nodup := by decide
 kinds := by decide
 noFree := by decide
theorem k_act : DefK D_act ["layout", "state", "event"] D_act.body where
 body := rfl
 fn := rfl
 co := rfl
 gen := rfl
 bind := by
  intro nm qual pm code doc vs h
  refine E31 (list3 h) fun x y z z3 => ?_; subst z3; rfl
 nodup := by decide
 kinds := by decide
 noFree := by decide
theorem spec_begin {c : Cx} {a : Addr} {n : Nat} {lay : Lay} (F : IsFn c a D_begin) (h1 : lay.pts.length ≤ 100) : Pure c (n + 1) a [lay.v] (Sta.mk (lay.pts.map fun q => (q.1, "+")) [] []).v := by
 refine pure_def F k_begin rfl fun A qual code L hR => ?_
 conv in D_begin.body => whnf
 refine sRet (ev_Tup (evs (ev_CompP (ls := lay.pts) (fun q => (q.1, "+")) inj_pair (cok rfl (by decide) (by decide)) (ev_at rfl rfl) (prs_map lay.pts) (sz100 h1) ?_) (evs (ev_Lst evs0 n0) (evs (ev_Lst evs0 n0) evs0))) n3)
 exact fun C q hq H hH => tM (av2 (.inl rfl) (.inl rfl)) (ev_Tup (evs (ev_N rfl) (evs ev_s evs0)) n2) (ll2 rfl rfl)
inductive Ev where
 | set (n : Str)
 | cancel (n : Str)
 | tick
 | enter (s : Str)
 | leave (s : Str)
 | move (p x : Str)
noncomputable def Ev.v : Ev → V
 | .set n => .tup [.str "set", .str n]
 | .cancel n => .tup [.str "cancel", .str n]
 | .tick => .tup [.str "tick"]
 | .enter s => .tup [.str "enter", .str s]
 | .leave s => .tup [.str "leave", .str s]
 | .move p x => .tup [.str "move", .str p, .str x]
structure Kn where
 R : Str → Rt
 known : Str → Bool
 hm : Str → Str
 sg : Str → Str
noncomputable def Trans (K : Kn) (secs : List Str) (pos : List (Str × Str)) (occ : List Str) (rows : List Row) (told : Str) (pos' : List (Str × Str)) (occ' : List Str) (rows' : List Row) : Ev → Prop
 | .set nm => told = (setF K.R (K.known nm) K.hm pos occ rows nm).1 ∧ pos' = (setF K.R (K.known nm) K.hm pos occ rows nm).2 ∧ occ' = occ ∧ rows'.map Row.held = rows.map Row.held ++ (if (setF K.R (K.known nm) K.hm pos occ rows nm).1 = "done" then [⟨nm, (K.R nm).ov, 0, 0⟩] else [])
 | .cancel nm => told = (cancelF occ rows nm (K.sg (K.R nm).st)).1 ∧ pos' = pos ∧ occ' = occ ∧ rows' = (cancelF occ rows nm (K.sg (K.R nm).st)).2
 | .tick => told = "done" ∧ pos' = pos ∧ occ' = occ ∧ rows' = rows.flatMap tickR
 | .enter s => told = (enterF K.R secs occ rows s).1 ∧ pos' = pos ∧ occ' = (enterF K.R secs occ rows s).2.1 ∧ rows' = (enterF K.R secs occ rows s).2.2
 | .leave s => told = (leaveF K.R secs occ rows s).1 ∧ pos' = pos ∧ occ' = (leaveF K.R secs occ rows s).2.1 ∧ rows' = (leaveF K.R secs occ rows s).2.2
 | .move p x => told = (moveF K.R pos occ rows (K.hm p) p x).1 ∧ pos' = (moveF K.R pos occ rows (K.hm p) p x).2 ∧ occ' = occ ∧ rows' = rows
structure LayOk (lay : Lay) (K : Kn) : Prop where
 rts : lay.rts.length ≤ 100
 pts : lay.pts.length ≤ 100
 sigs : lay.sigs.length ≤ 100
 get : ∀ nm, dget (rsOf lay.rts []) nm = if K.known nm then some (K.R nm).v else none
 rt : ∀ nm, RtOk (K.R nm)
 hm : ∀ p, p ∈ lay.pts.map (·.1) → tget (tfold lay.pts []) p = some (K.hm p)
 sg : ∀ nm, K.known nm = true → tget (tfold lay.sigs []) (K.R nm).st = some (K.sg (K.R nm).st)
 nd : ∀ nm, ∀ q ∈ (K.R nm).nd, q.1 ∈ lay.pts.map (·.1)
structure StaOk (lay : Lay) (K : Kn) (st : Sta) : Prop where
 pos : ∀ p, (tget (tfold st.pos []) p).isSome = decide (p ∈ lay.pts.map (·.1))
 posl : st.pos.length ≤ 90
 occl : st.occ.length ≤ 50
 heldl : st.held.length ≤ 80
 names : (st.held.map Held.nm).Nodup
 known : ∀ h ∈ st.held, K.known h.nm = true
 left : ∀ h ∈ st.held, h.left.length ≤ 100
 e0 : ∀ h ∈ st.held, 0 ≤ h.e
 sub : ∀ h ∈ st.held, ∀ s ∈ h.left, s ∈ (K.R h.nm).ov
end Mine
end
noncomputable section
set_option maxRecDepth 100000
namespace Mine
open PySem PySem.SeqAt PyProof.Rows
theorem sof_len (xs : List Str) : (sof xs).length ≤ xs.length := by
 have := sfold_len xs []; simpa [sof] using this
theorem tset_len (l : List (Str × Str)) (k v : Str) : (tset l k v).length ≤ l.length + 1 := by
 unfold tset; split <;> simp
theorem tfold_len (ps l : List (Str × Str)) : (tfold ps l).length ≤ l.length + ps.length := by
 induction ps generalizing l with
 | nil => simp [tfold]
 | cons p ps ih =>
  have h1 := ih (tset l p.1 p.2)
  have h2 := tset_len l p.1 p.2
  show (tfold ps (tset l p.1 p.2)).length ≤ _
  simp only [List.length_cons]; omega
section
variable {c : Cx} {n : Nat} {lay : Lay} {K : Kn} {st : Sta}
theorem StaOk.row (S : StaOk lay K st) {rows : List Row} (hrows : rows.map Row.held = st.held) {r : Row} (hr : r ∈ rows) : r.held ∈ st.held := by rw [← hrows]; exact List.mem_map_of_mem hr
theorem StaOk.rs (LO : LayOk lay K) (S : StaOk lay K st) {rows : List Row} (hrows : rows.map Row.held = st.held) : RsOk K.R (rsOf lay.rts []) rows where
 get := fun r hr => by
  have : K.known r.nm = true := S.known _ (S.row hrows hr)
  rw [LO.get]
  rw [if_pos this]
 nd := fun r _ => (LO.rt r.nm).nd
 left := fun r hr => S.left _ (S.row hrows hr)
theorem StaOk.nd (S : StaOk lay K st) {rows : List Row} (hrows : rows.map Row.held = st.held) : (rows.map Row.nm).Nodup := by
 have := S.names
 rw [← hrows, List.map_map] at this
 exact this
theorem StaOk.len (S : StaOk lay K st) {rows : List Row} (hrows : rows.map Row.held = st.held) : rows.length ≤ 80 := by
 have := S.heldl
 rw [← hrows, List.length_map] at this
 exact this
noncomputable def ActPost (K : Kn) (lay : Lay) (st : Sta) (ev : Ev) (X : V) : Prop :=
 ∃ (rows : List Row) (told : Str) (pos' : List (Str × Str)) (occ' : List Str) (rows' : List Row) (ss : List Str), rows.map Row.held = st.held ∧ Trans K lay.secs (tfold st.pos []) (sof st.occ) rows told pos' occ' rows' ev ∧ ss.Perm occ' ∧ sortedS ss = true ∧
  X = .tup [(Sta.mk (lay.pts.map fun q => (q.1, (tget pos' q.1).getD "")) ss (rows'.map Row.held)).v, .str told]
theorem sNewM {A : Around} {env : Env} {ς : List (Str × V)} {x : Str} {p p₁ p₂ p₃ pos spos : Pos} {rest : List Stmt} {k : FV → St → Prop} (G : Core c) (LO : LayOk lay K) (SO : StaOk lay K st) (hR : Rm (n + 3) A) (hkx : env.kindOf x = some .local ∨ env.kindOf x = some .cell) (hkM : env.kindOf "_M" = some .globalImplicit) (h1 : ς.lookup ("layout" : Str) = some lay.v) (h2 : ς.lookup ("state" : Str) = some st.v)
  (hr : ∀ ad rows, rows.map Row.held = st.held → WSs c A env ⟨setL ς x (.ref ad.x), mhp G.C ad lay.v (rsOf lay.rts []) (tv (tfold st.pos [])) (sof st.occ) rows⟩ rest k)
  (he : starEach [.Name "layout" p₂, .Name "state" p₃] env = (false, eval (.Name "layout" p₂) env) :: starEach [.Name "state" p₃] env := by rfl) (he' : starEach [.Name "state" p₃] env = (false, eval (.Name "state" p₃) env) :: starEach [] env := by rfl) (hplain : (backTo pos (starEach [.Name "state" p₃] env)).any (·.1) = false := by rfl)
  (hs : swapsWith (.Call (.Name "_M" p₁) [.Name "layout" p₂, .Name "state" p₃] [] pos) (some (.Name x p)) spos.line env = pure false := by rfl) (hsw : swappedStores [.Name x p] (.Call (.Name "_M" p₁) [.Name "layout" p₂, .Name "state" p₃] [] pos) env = pure none := by rfl) (hte : (assignEach [.Name x p] env).map (·.2) = [assign (.Name x p) env] := by rfl) :
  WSs c A env ⟨ς, []⟩ (.Assign [.Name x p] (.Call (.Name "_M" p₁) [.Name "layout" p₂, .Name "state" p₃] [] pos) spos :: rest) k := E51 G.F_init fun _ _ _ _ _ MI => by
 refine wSs_Set hkx (wE_New G.K G.g_M G.m_init MI hkM ((evs (ev_N h1) (evs (ev_N h2) evs0 he') he).run _ (I22 (n + 2) _ hR (fun x d hx hd hdx => ⟨spec_init (n := n + 1) G (lay := lay) (st := st) SO.names LO.rts (Nat.le_trans SO.posl (by decide)) (Nat.le_trans SO.occl (by decide)) (Nat.le_trans SO.heldl (by decide)) SO.left, ?_⟩))) (by decide) he hplain) hs hsw hte
 refine fun Y H' => R02 fun z0 y0 => E24 y0 fun ad rows z3 z4 hrows z6 => ?_; subst z0; subst z3; subst z4; subst z6
 refine ⟨rfl, ?_⟩
 rw [List.append_nil]
 exact hr ad rows hrows
theorem setF_pos {R : Str → Rt} {known : Bool} {hm : Str → Str} {pos : List (Str × Str)} {occ : List Str} {rows : List Row} {nm q : Str} (h : (tget pos q).isSome = true) : (tget (setF R known hm pos occ rows nm).2 q).isSome = true := by
 unfold setF
 repeat' split
 all_goals first | exact h | skip
 show (tget (tfold (R nm).nd pos) q).isSome = true
 rw [tget_fold_some, h, Bool.or_true]
theorem cancelF_ok {occ : List Str} {rows : List Row} {nm sg : Str} (h : ∀ r ∈ rows, r.left.length ≤ 100) (hl : rows.length ≤ 100) : (cancelF occ rows nm sg).2.length ≤ 100 ∧ ∀ r ∈ (cancelF occ rows nm sg).2, r.left.length ≤ 100 := by
 unfold cancelF
 split
 ·exact ⟨hl, h⟩
 split
 ·exact ⟨hl, h⟩
 split
 ·exact ⟨hl, h⟩
 split
 ·refine ⟨by rw [List.length_map]; exact hl, fun r hr => ?_⟩
  refine E12 (List.mem_map.mp hr) fun q hq z2 => ?_; subst z2
  split <;> exact h q hq
 ·exact ⟨Nat.le_trans (List.length_filter_le _ _) hl, fun r hr => h r (List.mem_filter.mp hr).1⟩
theorem spec_act (G : Core c) {a : Addr} (F : IsFn c a D_act) {ev : Ev} (LO : LayOk lay K) (SO : StaOk lay K st) : CallSpec c (n + 4) a [] [lay.v, st.v, ev.v] fun X H' => H' = [] ∧ ActPost K lay st ev X := by
 refine call_def F k_act rfl fun A qual code L hR => ?_
 conv in D_act.body => whnf
 refine sNewM G LO SO hR (.inl rfl) rfl rfl rfl fun ad rows hrows => ?_
 have hRs := SO.rs LO hrows
 have hnd := SO.nd hrows
 have hlen := SO.len hrows
 have hl100 : rows.length ≤ 100 := Nat.le_trans hlen (by decide)
 have hpl : (tfold st.pos []).length ≤ 90 := Nat.le_trans (tfold_len st.pos []) (by rw [List.length_nil, Nat.zero_add]; exact SO.posl)
 have hol : (sof st.occ).length ≤ 50 := Nat.le_trans (sof_len st.occ) SO.occl
 have hpos := SO.pos
 generalize hP : tfold st.pos [] = pos at *
 generalize hO : sof st.occ = occ at *
 have hin : ∀ p, p ∈ lay.pts.map (·.1) → (tget pos p).isSome = true := fun p hp => by rw [hpos, decide_eq_true hp]
 have hst : ∀ q ∈ lay.pts, (tget pos q.1).isSome = true := fun q hq => hin q.1 (List.mem_map_of_mem hq)
 have ho64 : occ.length < 64 := Nat.lt_of_le_of_lt hol (by decide)
 have hleft : ∀ r ∈ rows, r.left.length ≤ 100 := hRs.left
 have out : ∀ {l : List (Str × V)} {told : Str} {pos' : List (Str × Str)} {occ' : List Str} {rows' : List Row}, l.lookup ("m" : Str) = some (.ref ad.x) → l.lookup ("told" : Str) = some (.str told) → Trans K lay.secs pos occ rows told pos' occ' rows' ev → (∀ q ∈ lay.pts, (tget pos' q.1).isSome = true) → occ'.length < 64 → rows'.length ≤ 100 → (∀ r ∈ rows', r.left.length ≤ 100) →
   WSs c A (envD D_act qual code L a) ⟨l, mhp G.C ad lay.v (rsOf lay.rts []) (tv pos') occ' rows'⟩ (D_act.body.drop 3) (fun f σ => ∃ τ, σ.le τ ∧ τ.hp = [] ∧ ActPost K lay st ev (retV f)) := by
  intro l told pos' occ' rows' l1 l2 t1 t2 t3 t4 t5
  conv in List.drop 3 _ => whnf
  refine wSs_Ret (wE_Tuple (wEs_cons (wE_Self0 G.K G.m_out G.F_out tl_out ((ev_N l1).run _ (I35 ad.x ad.dx _ rfl mem_x mem_ns rfl (CRest.all (n := n + 3) hR (spec_out (n := n + 2) (pg := fun p => (tget pos' p).getD "") G (fun q hq => ?_) LO.pts t4 t3 t5) ?_))))))
  ·obtain ⟨v, hv⟩ := Option.isSome_iff_exists.mp (t2 q hq)
   rw [hv]; rfl
  refine fun Y H' => R13 fun ss s1 s2 z3 => ?_; subst z3
  refine (evs (ev_N l2) evs0).run _ (I02 (sz10 (Nat.le_of_ble_eq_true rfl)) (I13 ⟨[], []⟩ le_nil rfl (I65 rows told pos' occ' rows' ss hrows ?_ s1 s2 rfl)))
  rw [hP, hO]; exact t1
 cases ev with
 | set nm =>
  refine sSet (.inl rfl) (ev_at rfl rfl) ?_
  refine sTh (tp_eq (ev_N rfl) ev_s) rfl ?_
  refine sSelf (.inl rfl) G.K G.m_set G.F_set tl_set rfl mem_x mem_ns rfl (evs (ev_at rfl rfl) evs0) hR (spec_set (n := n + 1) (R := K.R) (known := K.known nm) (hm := K.hm) G (LO.get nm) hRs LO.rt LO.pts (Nat.le_trans hlen (by decide)) (Nat.le_trans hpl (by decide)) fun q hq => ⟨hin _ (LO.nd nm q hq), LO.hm _ (LO.nd nm q hq)⟩) ?_
  refine fun Y H' => R02 fun z0 y0 => E12 y0 fun rows' hr' z3 => ?_; subst z0; subst z3
  refine wSs_nil (out rfl rfl (I04 rfl rfl rfl hr') (fun q hq => setF_pos (hst q hq)) ho64 ?_ fun r hr => ?_)
  ·have e := congrArg List.length hr'
   rw [List.length_map, List.length_append, List.length_map] at e
   rw [e]
   refine Nat.le_trans (Nat.add_le_add hlen (d := 1) ?_) (Nat.le_of_ble_eq_true rfl)
   split <;> exact Nat.le_of_ble_eq_true rfl
  ·have : r.held ∈ rows.map Row.held ++ (if (setF K.R (K.known nm) K.hm pos occ rows nm).1 = "done" then [(⟨nm, (K.R nm).ov, 0, 0⟩ : Held)] else []) := by rw [← hr']; exact List.mem_map_of_mem hr
   rcases List.mem_append.mp this with h | h
   ·refine E12 (List.mem_map.mp h) fun q hq e => ?_
    have e' : q.left = r.left := congrArg Held.left e
    rw [← e']; exact hleft q hq
   ·split at h
    ·have e' : r.left = (K.R nm).ov := congrArg Held.left (List.mem_singleton.mp h)
     rw [e']; exact (LO.rt nm).ov
    ·cases h
 | cancel nm =>
  refine sSet (.inl rfl) (ev_at rfl rfl) ?_
  refine sEl (tp_eq (ev_N rfl) ev_s) (by decide) ?_
  refine sTh (tp_eq (ev_N rfl) ev_s) rfl ?_
  refine sSelf (.inl rfl) G.K G.m_cancel G.F_cancel tl_cancel rfl mem_x mem_ns rfl (evs (ev_at rfl rfl) evs0) hR (spec_cancel (n := n + 2) (R := K.R) (sg := K.sg (K.R nm).st) G hnd hRs (fun q => E12 q fun r hr z2 => ?_) LO.sigs hl100) ?_
  ·exact LO.sg _ (z2 ▸ SO.known _ (SO.row hrows hr))
  refine fun Y H' => R02 fun z0 z1 => ?_; subst z0; subst z1
  have hc := cancelF_ok (occ := occ) (nm := nm) (sg := K.sg (K.R nm).st) hleft hl100
  exact wSs_nil (wSs_nil (out rfl rfl (I04 rfl rfl rfl rfl) hst ho64 hc.1 hc.2))
 | tick =>
  refine sSet (.inl rfl) (ev_at rfl rfl) ?_
  refine sEl (tp_eq (ev_N rfl) ev_s) (by decide) ?_
  refine sEl (tp_eq (ev_N rfl) ev_s) (by decide) ?_
  refine sTh (tp_eq (ev_N rfl) ev_s) rfl ?_
  refine sSelf0 (.inl rfl) G.K G.m_tick G.F_tick tl_tick rfl mem_x mem_ns rfl hR (spec_tick (n := n + 2) G hnd hl100) ?_
  refine fun Y H' => R02 fun z0 z1 => ?_; subst z0; subst z1
  refine wSs_nil (wSs_nil (wSs_nil (out rfl rfl (I04 rfl rfl rfl rfl) hst ho64 (Nat.le_trans (flat_len tickR_len rows) hl100) fun r hr => ?_)))
  refine E12 (List.mem_flatMap.mp hr) fun q hq hr => ?_
  unfold tickR at hr
  split at hr
  ·rw [List.mem_singleton.mp hr]; exact hleft q hq
  split at hr
  ·cases hr
  ·rw [List.mem_singleton.mp hr]; exact hleft q hq
 | enter s =>
  refine sSet (.inl rfl) (ev_at rfl rfl) ?_
  refine sEl (tp_eq (ev_N rfl) ev_s) (by decide) ?_
  refine sEl (tp_eq (ev_N rfl) ev_s) (by decide) ?_
  refine sEl (tp_eq (ev_N rfl) ev_s) (by decide) ?_
  refine sTh (tp_eq (ev_N rfl) ev_s) rfl ?_
  refine sSelf (.inl rfl) G.K G.m_enter G.F_enter tl_enter rfl mem_x mem_ns rfl (evs (ev_at rfl rfl) evs0) hR (spec_enter (n := n + 2) (R := K.R) G hRs (fun r _ => (LO.rt r.nm).ov) (fun r hr => SO.e0 _ (SO.row hrows hr)) (Nat.le_trans hol (by decide))) ?_
  refine fun Y H' => R02 fun z0 z1 => ?_; subst z0; subst z1
  have hc : (enterF K.R lay.secs occ rows s).2.1.length < 64 ∧ (enterF K.R lay.secs occ rows s).2.2.length ≤ 100 ∧ ∀ r ∈ (enterF K.R lay.secs occ rows s).2.2, r.left.length ≤ 100 := by
   unfold enterF
   split
   ·split
    ·exact (I03 ho64 hl100 hleft)
    ·refine (I03 (Nat.lt_of_le_of_lt (Nat.le_trans (sadd_len occ s) (Nat.add_le_add_right hol 1)) (by decide)) (by rw [List.length_map]; exact hl100) (fun r hr => ?_))
     refine E12 (List.mem_map.mp hr) fun q hq z2 => ?_; subst z2
     unfold entR
     split <;> exact hleft q hq
   ·exact (I03 ho64 hl100 hleft)
  exact wSs_nil (wSs_nil (wSs_nil (wSs_nil (out rfl rfl (I04 rfl rfl rfl rfl) hst hc.1 hc.2.1 hc.2.2))))
 | leave s =>
  refine sSet (.inl rfl) (ev_at rfl rfl) ?_
  refine sEl (tp_eq (ev_N rfl) ev_s) (by decide) ?_
  refine sEl (tp_eq (ev_N rfl) ev_s) (by decide) ?_
  refine sEl (tp_eq (ev_N rfl) ev_s) (by decide) ?_
  refine sEl (tp_eq (ev_N rfl) ev_s) (by decide) ?_
  refine sTh (tp_eq (ev_N rfl) ev_s) rfl ?_
  refine sSelf (.inl rfl) G.K G.m_leave G.F_leave tl_leave rfl mem_x mem_ns rfl (evs (ev_at rfl rfl) evs0) hR (spec_leave (n := n + 2) (R := K.R) G hnd hRs (fun r _ => (LO.rt r.nm).ov) (fun r hr => SO.e0 _ (SO.row hrows hr)) (fun r hr l e => SO.sub _ (SO.row hrows hr) s (by show s ∈ r.left; rw [e]; exact .head _)) hl100) ?_
  refine fun Y H' => R02 fun z0 z1 => ?_; subst z0; subst z1
  have hc : (leaveF K.R lay.secs occ rows s).2.1.length < 64 ∧ (leaveF K.R lay.secs occ rows s).2.2.length ≤ 100 ∧ ∀ r ∈ (leaveF K.R lay.secs occ rows s).2.2, r.left.length ≤ 100 := by
   unfold leaveF
   split
   ·split
    ·refine (I03 (Nat.lt_of_le_of_lt (List.length_filter_le _ _) ho64) (Nat.le_trans (flat_len (leaveR_len K.R s) rows) hl100) (fun r hr => ?_))
     refine E12 (List.mem_flatMap.mp hr) fun q hq hr => ?_
     unfold leaveR at hr
     have hq' := hleft q hq
     split at hr
     ·rw [List.mem_singleton.mp hr]; exact hq'
     ·rename_i x l hx
      split at hr
      ·split at hr
       ·cases hr
       ·rw [List.mem_singleton.mp hr]; rw [hx] at hq'; exact Nat.le_of_succ_le hq'
      ·rw [List.mem_singleton.mp hr]; exact hq'
    ·exact (I03 ho64 hl100 hleft)
   ·exact (I03 ho64 hl100 hleft)
  exact wSs_nil (wSs_nil (wSs_nil (wSs_nil (wSs_nil (out rfl rfl (I04 rfl rfl rfl rfl) hst hc.1 hc.2.1 hc.2.2)))))
 | move p x =>
  refine sSet (.inl rfl) (ev_at rfl rfl) ?_
  refine sEl (tp_eq (ev_N rfl) ev_s) (by decide) ?_
  refine sEl (tp_eq (ev_N rfl) ev_s) (by decide) ?_
  refine sEl (tp_eq (ev_N rfl) ev_s) (by decide) ?_
  refine sEl (tp_eq (ev_N rfl) ev_s) (by decide) ?_
  refine sEl (tp_eq (ev_N rfl) ev_s) (by decide) ?_
  refine sTh (tp_eq (ev_N rfl) ev_s) rfl ?_
  refine sSelf (.inl rfl) G.K G.m_move G.F_move tl_move rfl mem_x mem_ns rfl (evs (ev_at rfl rfl) (evs (ev_at rfl rfl) evs0)) hR (spec_move (n := n + 1) (R := K.R) (hm := K.hm p) G (fun h => LO.hm p (by rw [hpos] at h; exact of_decide_eq_true h)) LO.pts (Nat.le_trans hpl (by decide)) hRs) ?_
  refine fun Y H' => R02 fun z0 z1 => ?_; subst z0; subst z1
  refine wSs_nil (wSs_nil (wSs_nil (wSs_nil (wSs_nil (wSs_nil (out rfl rfl (I04 rfl rfl rfl rfl) (fun q hq => ?_) ho64 hl100 hleft))))))
  unfold moveF
  split
  ·split
   ·exact hst q hq
   ·show (tget (tset pos p x) q.1).isSome = true
    rw [tget_set]
    split
    ·rfl
    ·exact hst q hq
  ·exact hst q hq
end
end Mine
end
noncomputable section
set_option maxRecDepth 100000
namespace Mine
open PySem PySem.SeqAt PyProof.Rows
theorem k_aspects : DefK D_aspects ["layout", "state"] D_aspects.body where
 body := rfl
 fn := rfl
 co := rfl
 gen := rfl
 bind := by
  intro nm qual pm code doc vs h
  refine E21 (list2 h) fun x y z2 => ?_; subst z2; rfl
 nodup := by decide
 kinds := by decide
 noFree := by decide
section
variable {c : Cx} {A : Around} {env : Env} {σ : St}
theorem wS_ReturnF {e : Expr} {pos : Pos} {k : FV → St → Prop} (h : WE c A env σ e fun X σ₁ => ∃ a o Y, X = .ref a ∧ (a, o) ∈ σ₁.hp ∧ O.frz o = some Y ∧ k (.ret Y) ⟨[], []⟩) : WS c A env σ (.Return (some e) pos) k := by
 refine WP.mk fun hA Z P s R => ?_
 refine wpAny_Return_some (wpAny_mono (h.run hA Z P s R) ?_ fun _ _ x => x)
 refine fun v _ => R65 fun Z₁ h₁ tk₁ dr₁ X σ₁ z6 S₁ R₁ r₁ y0 => E34 y0 fun a o Y z13 ha hY k₁ => ?_; subst z6; subst z13
 cases r₁
 have hD := R₁.hp.obj a o ha
 have R2 : Rel c Z₁ P env ⟨[], []⟩ h₁ := R₁.le (I03 (fun x X e => by simp at e) (fun b ob hb => (by cases hb)) (fun _ => by simp))
 have R3 := R2.freeze (N := fun b => b = a) (by rintro b rfl; exact (I04 (hD.1.some) (hD.2.2) (R₁.hpOff _ o ha) (fun o ho => by cases ho)))
 exact (I65 _ h₁ tk₁ dr₁ _ _ rfl (S₁.trans (Step.freeze (P := P))) R3 (.ret (hD.1.frz hY)) k₁)
end
noncomputable def goStep (K : Kn) (pos : List (Str × Str)) (occ : List Str) (acc : List (Str × Rt)) (h : Held) : List (Str × Rt) :=
 if h.e ≠ 0 ∨ h.w ≠ 0 then acc else if (K.R h.nm).ov.any (fun s => decide (s ∈ occ)) then acc
 else if ((K.R h.nm).nd.all fun q => decide (tget pos q.1 = some q.2)) && !decide ((K.R h.nm).st ∈ acc.map (·.1)) then acc ++ [((K.R h.nm).st, K.R h.nm)] else acc
noncomputable def goV (acc : List (Str × Rt)) : List (Str × V) := acc.map fun g => (g.1, g.2.v)
noncomputable def goGet (acc : List (Str × Rt)) (k : Str) : Option Rt := (acc.find? fun g => decide (g.1 = k)).map (·.2)
noncomputable def aspOf (acc : List (Str × Rt)) (g : Str) : Str :=
 match goGet acc g with
 | none => "stop"
 | some r => if r.via ∈ acc.map (·.1) then "clear" else "caution"
theorem goV_get (acc : List (Str × Rt)) (k : Str) : dget (goV acc) k = (goGet acc k).map Rt.v := by
 unfold dget goGet goV
 rw [List.find?_map]
 simp only [Option.map_map]
 rfl
theorem goV_some (acc : List (Str × Rt)) (k : Str) : (dget (goV acc) k).isSome = decide (k ∈ acc.map (·.1)) := by
 rw [goV_get, Option.isSome_map]
 unfold goGet
 rw [Option.isSome_map]
 rw [Bool.eq_iff_iff, List.find?_isSome, decide_eq_true_eq, List.mem_map]
 constructor
 ·refine R12 fun g h1 h2 => ?_; exact (I12 g h1 (by simpa using h2))
 ·refine R12 fun g h1 h2 => ?_; exact (I12 g h1 (by simpa using h2))
section
variable {c : Cx} {n : Nat} {lay : Lay} {K : Kn} {st : Sta}
noncomputable def GoK (C : Addr) (ad : Ad) (lay : V) (rs pos : List (Str × V)) (occ : List Str) (rows : List Row) (gd : Addr) (acc : List (Str × Rt)) (f : FV) (σ : St) : Prop :=
 (f = .next ∨ f = .cont) ∧ σ.le ⟨[("layout", lay), ("m", .ref ad.x), ("go", .ref gd)], (gd, .dct (goV acc)) :: mhpF C ad lay rs pos occ rows⟩
theorem goStep_len {K : Kn} {pos : List (Str × Str)} {occ : List Str} : ∀ (l : List Held) (acc : List (Str × Rt)), (l.foldl (goStep K pos occ) acc).length ≤ acc.length + l.length
 | [], acc => Nat.le_refl _
 | h :: l, acc => by
  have h2 : (goStep K pos occ acc h).length ≤ acc.length + 1 := by
   unfold goStep
   split
   ·exact Nat.le_succ _
   split
   ·exact Nat.le_succ _
   split
   ·rw [List.length_append]; exact Nat.le_refl _
   ·exact Nat.le_succ _
  refine Nat.le_trans (goStep_len l (goStep K pos occ acc h)) ?_
  rw [List.length_cons]; omega
noncomputable def aspR (acc : List (Str × Rt)) : Option Rt → Str
 | none => ""
 | some r => if r.via ∈ acc.map (·.1) then "clear" else "caution"
theorem asp_eq {acc : List (Str × Rt)} {g : Str} : aspOf acc g = if g ∉ acc.map (·.1) then ("stop" : Str) else aspR acc (goGet acc g) := by
 unfold aspOf
 have := goV_some acc g
 rw [goV_get, Option.isSome_map] at this
 cases hg : goGet acc g with
 | none => rw [hg] at this; rw [if_pos (of_decide_eq_false this.symm)]
 | some r => rw [hg] at this; rw [if_neg (fun z => z (of_decide_eq_true this.symm))]; rfl
theorem spec_aspects (G : Core c) {a : Addr} (F : IsFn c a D_aspects) (LO : LayOk lay K) (SO : StaOk lay K st) :
  CallSpec c (n + 4) a [] [lay.v, st.v] fun X H' => H' = [] ∧ X = .lst (prs (lay.sigs.map fun q => (q.1, aspOf (st.held.foldl (goStep K (tfold st.pos []) (sof st.occ)) []) q.1))) := by
 refine call_def F k_aspects rfl fun A qual code L hR => ?_
 conv in D_aspects.body => whnf
 refine sNewM G LO SO hR (.inl rfl) rfl rfl rfl fun ad rows hrows => ?_
 have hRs := SO.rs LO hrows
 have hlen := SO.len hrows
 have hpos := SO.pos
 rw [← hrows]
 generalize hP : tfold st.pos [] = pos at *
 generalize hO : sof st.occ = occ at *
 refine freezeM ?_
 refine wSs_cons (wS_Assign (wE_Dict0 fun gd hgd => wA_Name (.inl rfl) ?_))
 have hm1 : ∀ {g : List (Str × V)}, (ad.x, O.inst G.C ad.dx) ∈ (gd, O.dct g) :: mhpF G.C ad lay.v (rsOf lay.rts []) (tv pos) occ rows := .tail _ (.head _)
 have hm2 : ∀ {g : List (Str × V)}, (ad.dx, O.ns (setL (nsM ad lay.v) "held" (.dct (rowsEs rows)))) ∈ (gd, O.dct g) :: mhpF G.C ad lay.v (rsOf lay.rts []) (tv pos) occ rows := .tail _ (.tail _ (.head _))
 have hm3 : ∀ {g : List (Str × V)}, (ad.rd, O.dct (rsOf lay.rts [])) ∈ (gd, O.dct g) :: mhpF G.C ad lay.v (rsOf lay.rts []) (tv pos) occ rows := .tail _ (.tail _ (.tail _ (.head _)))
 have hm4 : ∀ {g : List (Str × V)}, (ad.pd, O.dct (tv pos)) ∈ (gd, O.dct g) :: mhpF G.C ad lay.v (rsOf lay.rts []) (tv pos) occ rows := .tail _ (.tail _ (.tail _ (.tail _ (.head _))))
 have hm5 : ∀ {g : List (Str × V)}, (ad.od, O.set occ) ∈ (gd, O.dct g) :: mhpF G.C ad lay.v (rsOf lay.rts []) (tv pos) occ rows := .tail _ (.tail _ (.tail _ (.tail _ (.tail _ (.head _)))))
 have hm6 : ∀ {g : List (Str × V)} {e}, e ∈ rowsHp rows → e ∈ (gd, O.dct g) :: mhpF G.C ad lay.v (rsOf lay.rts []) (tv pos) occ rows := fun h => .tail _ (.tail _ (.tail _ (.tail _ (.tail _ (.tail _ h)))))
 refine sFold (ls := rows) (f := fun r : Row => V.tup [.str r.nm, .ref r.a]) (ς := [("layout", lay.v), ("m", .ref ad.x), ("go", .ref gd)]) (S := fun dn _ => (gd, .dct (goV ((dn.map Row.held).foldl (goStep K pos occ) []))) :: mhpF G.C ad lay.v (rsOf lay.rts []) (tv pos) occ rows) (ev_itemsF rfl (ev_SA G.K G.n_held tl_held rfl hm1 hm2 rfl)) seq_view (rowsV_eq rows) (le_loc (I04 rfl rfl rfl trivial)) (fun dn r td hdn k' hk => ?_) ?_
 ·have hr : r ∈ rows := by rw [← hdn]; exact List.mem_append_right _ (.head _)
  have hacl : ((dn.map Row.held).foldl (goStep K pos occ) []).length ≤ 80 := by
   refine Nat.le_trans (goStep_len _ _) ?_
   rw [List.length_nil, Nat.zero_add, List.length_map]
   exact Nat.le_trans (by rw [← hdn, List.length_append]; exact Nat.le_add_right _ _) hlen
  have fold1 : ((dn ++ [r]).map Row.held).foldl (goStep K pos occ) [] = goStep K pos occ ((dn.map Row.held).foldl (goStep K pos occ) []) r.held := by rw [List.map_append, List.foldl_append]; rfl
  rw [fold1] at hk
  generalize hacc : (dn.map Row.held).foldl (goStep K pos occ) [] = acc at *
  refine (av2 (.inl rfl) (.inl rfl)).run _ (WP.imp (k := GoK G.C ad lay.v (rsOf lay.rts []) (tv pos) occ rows gd (goStep K pos occ acc r.held)) ?_ fun f σ => R02 fun z h => z.elim (fun z => z ▸ (hk σ h).1) fun z => z ▸ (hk σ h).2)
  unfold goStep
  have hov := (LO.rt r.nm).ov
  refine sSet (.inl rfl) (ev_Sub (ev_SA G.K G.n_r tl_r rfl hm1 hm2 rfl) (ev_N rfl) (item_odct hm3 (hRs.get r hr))) ?_
  refine sIfB (K := GoK G.C ad lay.v (rsOf lay.rts []) (tv pos) occ rows gd) (tp_O2 (tp_int (ev_own (ev_N rfl) (hm6 (mem_rowA hr)) rfl)) fun _ => tp_int (ev_own (ev_N rfl) (hm6 (mem_rowA hr)) rfl)) (fun _ => wSs_cons (wS_Continue ⟨.inr rfl, le_loc (I04 rfl rfl rfl trivial)⟩)) fun _ => ?_
  refine sIfB (K := GoK G.C ad lay.v (rsOf lay.rts []) (tv pos) occ rows gd) (tp_iff (tp_bool (ev_Self G.K G.m_busy G.F_busy tl_busy rfl hm1 hm2 rfl (evs (ev_CallB G.b_set rfl (.type _) rfl (evs (ev_at rfl rfl) evs0) ((f_set_lst (Nat.lt_of_le_of_lt (Nat.add_le_add_right hov 1) (by decide))).frz rfl)) evs0) hR (spec_busyG (n := n + 2) G hm1 hm2 rfl hm5))) (by rw [any_sof]; exact Iff.rfl)) (fun _ => wSs_cons (wS_Continue ⟨.inr rfl, le_loc (I04 rfl rfl rfl trivial)⟩)) fun _ => ?_
  refine sSet (.inl rfl) ev_b ?_
  have hpv : ∀ q ∈ (K.R r.nm).nd, ∃ v, tget pos q.1 = some v := fun q hq => Option.isSome_iff_exists.mp (by rw [hpos, decide_eq_true_eq]; exact LO.nd r.nm q hq)
  refine sForBrk (ls := (K.R r.nm).nd) (f := fun q : Str × Str => V.tup [.str q.1, .str q.2]) (P := fun q => ¬ tget pos q.1 = some q.2) (ev_at rfl rfl) (prs_map _) (fun q hq => I03 (av2 (.inl rfl) (.inl rfl)) ?_ (ll2 rfl rfl)) (.inl rfl) (fun h q hq => ?_) fun h => ?_
  ·obtain ⟨v, hv⟩ := hpv q hq
   exact tp_iff (tp_ne (ev_Sub (ev_SA G.K G.n_pos tl_pos rfl hm1 hm2 rfl) (ev_N rfl) (item_odct hm4 (by rw [tv_get, hv]; rfl))) (ev_N rfl)) (by rw [hv, Option.some.injEq])
  ·have e : ((K.R r.held.nm).nd.all fun q => decide (tget pos q.1 = some q.2)) = false := List.all_eq_false.mpr (E12 h fun q h1 h2 => ⟨q, h1, fun z => h2 (of_decide_eq_true z)⟩)
   rw [e]
   exact sIfF (tp_A2 (Q := False) (tp_bool (ev_N rfl)) fun z => nomatch z) (fun z => z.2) (wSs_nil ⟨.inl rfl, le_loc (I04 rfl rfl rfl trivial)⟩)
  ·have e : ((K.R r.held.nm).nd.all fun q => decide (tget pos q.1 = some q.2)) = true := List.all_eq_true.mpr fun q hq => decide_eq_true (Decidable.of_not_not (h q hq))
   rw [e]
   refine sIfB (K := GoK G.C ad lay.v (rsOf lay.rts []) (tv pos) occ rows gd) (tp_iff (tp_A2 (tp_bool (ev_N rfl)) fun _ => tp_niD (ev_at rfl rfl) (ev_N rfl) (.head _)) ?_) (fun q => ?_) fun _ => wSs_nil ⟨.inl rfl, le_loc (I04 rfl rfl rfl trivial)⟩
   ·rw [goV_some, Bool.true_and, Bool.not_eq_true', decide_eq_true_eq, decide_eq_false_iff_not]
    exact ⟨fun z => z.2, fun z => ⟨rfl, z⟩⟩
   ·refine sSub (ev_N rfl) (ev_N rfl) (ev_at rfl rfl) (.head _) (set_odct (.head _) (by rw [goV, List.length_map]; exact sz100 (Nat.le_trans hacl (by decide)))) ?_
    refine WSs.hs (pre := []) ?_
    have hn : dget (goV acc) (K.R r.nm).st = none := by
     have := goV_some acc (K.R r.nm).st
     rw [Bool.true_and, Bool.not_eq_true'] at q
     exact Option.not_isSome_iff_eq_none.mp (by rw [this]; exact Bool.eq_false_iff.mp q)
    rw [dset_new hn]
    have e3 : goV acc ++ [((K.R r.nm).st, (K.R r.nm).v)] = goV (acc ++ [((K.R r.nm).st, K.R r.nm)]) := by rw [goV, goV, List.map_append]; rfl
    rw [e3]
    exact wSs_nil (wSs_nil ⟨.inl rfl, le_loc (I04 rfl rfl rfl trivial)⟩)
 ·generalize (rows.map Row.held).foldl (goStep K pos occ) [] = acc at *
  refine wSs_cons (wS_Assign (wE_ListO (wEs_nil ⟨Nat.zero_le _, fun oa hoa => wA_Name (.inl rfl) ?_⟩)))
  refine sFold (ls := lay.sigs) (f := fun q : Str × Str => V.tup [.str q.1, .str q.2]) (ς := [("go", .ref gd), ("out", .ref oa)]) (S := fun dn _ => (oa, .lst (prs (dn.map fun q => (q.1, aspOf acc q.1)))) :: (gd, .dct (goV acc)) :: mhpF G.C ad lay.v (rsOf lay.rts []) (tv pos) occ rows) (ev_at rfl rfl) seq_lst (prs_map _) (le_loc (I03 rfl rfl trivial)) (fun dn g td hdn k' hk => ?_) ?_
  ·have hdl : (prs (dn.map fun q => (q.1, aspOf acc q.1))).length ≤ sizeLine := by
    rw [prs_len, List.length_map]
    exact sz100 (Nat.le_trans (by rw [← hdn, List.length_append]; exact Nat.le_add_right _ _) LO.sigs)
   have e1 : prs ((dn ++ [g]).map fun q => (q.1, aspOf acc q.1)) = prs (dn.map fun q => (q.1, aspOf acc q.1)) ++ [.tup [.str g.1, .str (aspOf acc g.1)]] := by
    rw [prs_map, prs_map, List.map_append, List.map_append]; rfl
   rw [e1] at hk
   refine (av2 (.inl rfl) (.inl rfl)).run _ ?_
   rw [asp_eq] at hk
   by_cases hg : g.1 ∈ acc.map (·.1)
   ·rw [if_neg (fun z => z hg)] at hk
    have hs := goV_some acc g.1
    rw [decide_eq_true hg] at hs
    refine sEl (tp_niD (ev_N rfl) (ev_N rfl) (.tail _ (.head _))) (fun z => z hs) ?_
    rw [goV_get, Option.isSome_map] at hs
    obtain ⟨rt, hrt⟩ := Option.isSome_iff_exists.mp hs
    rw [hrt] at hk
    refine sIf (tp_iff (tp_inD (ev_T (ev_Sub (Z := rt.v) (ev_N rfl) (ev_N rfl) (item_odct (.tail _ (.head _)) (by rw [goV_get, hrt]; rfl))) rfl) (ev_N rfl) (.tail _ (.head _))) (by rw [goV_some, decide_eq_true_eq])) (fun z => ?_) fun z => ?_
    ·rw [show aspR acc (some rt) = "clear" from if_pos z] at hk
     refine sMeth meth_append (ev_N rfl) (vt_olst (.head _)) (evs (ev_NS rfl) evs0) (.head _) (u_append (.head _) hdl) (WSs.hs (pre := []) ?_)
     exact wSs_nil (wSs_nil (wSs_nil (hk _ (le_loc (I03 rfl rfl trivial))).1))
    ·rw [show aspR acc (some rt) = "caution" from if_neg z] at hk
     refine sMeth meth_append (ev_N rfl) (vt_olst (.head _)) (evs (ev_NS rfl) evs0) (.head _) (u_append (.head _) hdl) (WSs.hs (pre := []) ?_)
     exact wSs_nil (wSs_nil (wSs_nil (hk _ (le_loc (I03 rfl rfl trivial))).1))
   ·rw [if_pos hg] at hk
    have hs := goV_some acc g.1
    rw [decide_eq_false hg] at hs
    refine sTh (tp_niD (ev_N rfl) (ev_N rfl) (.tail _ (.head _))) (by rw [hs]; exact fun z => nomatch z) ?_
    refine sMeth meth_append (ev_N rfl) (vt_olst (.head _)) (evs (ev_NS rfl) evs0) (.head _) (u_append (.head _) hdl) (WSs.hs (pre := []) ?_)
    exact wSs_nil (wSs_nil (hk _ (le_loc (I03 rfl rfl trivial))).1)
  ·exact wSs_cons (wS_ReturnF ((ev_N rfl).run _ (I34 oa _ _ rfl (.head _) rfl (I13 ⟨[], []⟩ le_nil rfl rfl))))
end
end Mine
end
noncomputable section
set_option maxRecDepth 100000
namespace Mine
open PySem PySem.SeqAt PyProof.Rows
noncomputable def D_conf : DefD := defD PP.main.body[2]?
theorem k_conf : DefK D_conf ["layout"] D_conf.body where
 body := rfl
 fn := rfl
 co := rfl
 gen := rfl
 bind := by
  intro nm qual pm code doc vs h
  obtain ⟨x, rfl⟩ := list1 h; rfl
 nodup := by decide
 kinds := by decide
 noFree := by decide
noncomputable def confL : List Rt → List (Str × Str)
 | [] => []
 | r :: rs => (rs.filter (clashB r)).map (fun q => (r.nm, q.nm)) ++ confL rs
theorem confL_len : ∀ rs : List Rt, (confL rs).length ≤ rs.length * rs.length
 | [] => Nat.le_refl _
 | r :: rs => by
  have h1 := List.length_filter_le (clashB r) rs
  have h2 := confL_len rs
  show ((rs.filter (clashB r)).map (fun q => (r.nm, q.nm)) ++ confL rs).length ≤ (rs.length + 1) * (rs.length + 1)
  rw [List.length_append, List.length_map, Nat.add_mul, Nat.mul_add]
  omega
theorem prs_snoc (o : List (Str × Str)) (q : Str × Str) : prs o ++ [V.tup [.str q.1, .str q.2]] = prs (o ++ [q]) := by rw [prs_map, prs_map, List.map_append]; rfl
section
variable {c : Cx} {n : Nat}
noncomputable def locC (rs : List Rt) (d : Addr) (i : Nat) : List (Str × V) := [("rs", .lst (rs.map Rt.v)), ("out", .ref d), ("i", .int i)]
noncomputable def locC' (rs : List Rt) (d : Addr) (i j : Nat) : List (Str × V) := [("rs", .lst (rs.map Rt.v)), ("out", .ref d), ("i", .int i), ("j", .int j)]
theorem spec_conflicts (G : Core c) {a : Addr} (F : IsFn c a D_conf) {lay : Lay} (h1 : lay.rts.length ≤ 20) (h2 : ∀ r ∈ lay.rts, RtOk r) : Pure c (n + 2) a [lay.v] (.lst (prs (confL lay.rts))) := by
 refine call_def F k_conf rfl fun A qual code L hR => ?_
 conv in D_conf.body => whnf
 generalize hrs : lay.rts = rs at *
 have hsz : (rs.map Rt.v).length ≤ sizeLine := by rw [List.length_map]; exact sz100 (Nat.le_trans h1 (by decide))
 refine sSet (X := .lst (rs.map Rt.v)) (.inl rfl) (ev_CallB G.b_list rfl (.type _) rfl (evs (ev_at rfl (by rw [← hrs]; rfl)) evs0) ((f_list_lst hsz).frz rfl)) ?_
 refine sLst0 (.inl rfl) fun d => ?_
 refine sSet (.inl rfl) ev_i ?_
 have hget : ∀ {i : Nat}, i < rs.length → ∃ r ∈ rs, (rs.map Rt.v)[((i : Nat) : Int).toNat]? = some r.v ∧ rs.drop i = r :: rs.drop (i + 1) := fun {i} hi =>
  ⟨rs[i], List.getElem_mem hi, by rw [Int.toNat_natCast, List.getElem?_map, List.getElem?_eq_getElem hi]; rfl, List.drop_eq_getElem_cons hi⟩
 have hb : ∀ {i : Nat}, i < rs.length → ((i : Nat) : Int) < 2 ^ 62 := fun hi => Int.lt_of_lt_of_le (Int.ofNat_lt.mpr (Nat.lt_of_lt_of_le hi h1)) (by decide)
 have ho : ∀ {o t : List (Str × Str)}, o ++ t = confL rs → (prs o).length ≤ sizeLine := fun {o t} e => by
  rw [prs_len]
  have h := confL_len rs
  rw [← e, List.length_append] at h
  exact sz900 (Nat.le_trans (Nat.le_trans (Nat.le_add_right _ _) h) (Nat.le_trans (Nat.mul_le_mul h1 h1) (by decide)))
 refine sWhile (fun m τ => ∃ (i : Nat) (o : List (Str × Str)), m = rs.length - i ∧ i ≤ rs.length ∧ τ = ⟨locC rs d i, [(d, .lst (prs o))]⟩ ∧ o ++ confL (rs.drop i) = confL rs) (m := rs.length) (σ₀ := ⟨locC rs d 0, [(d, .lst (prs []))]⟩) (le_loc (I04 rfl rfl rfl trivial)) ⟨0, [], rfl, Nat.zero_le _, rfl, rfl⟩ ?_
 refine fun m τ => R24 fun i o z1 hi z3 he => ?_
 subst z1; subst z3
 refine (tp_lt (ev_N rfl) (ev_CallB G.b_len rfl (.blt _) rfl (evs (ev_N rfl) evs0) (b_len_lst hsz))).run _ fun b hbb => ?_
 rw [List.length_map, Int.ofNat_lt] at hbb
 cases b with
 | false =>
  have : i = rs.length := Nat.le_antisymm hi (Nat.le_of_not_lt fun z => Bool.noConfusion (hbb.mpr z))
  subst this
  rw [List.drop_length] at he
  have he' : o = confL rs := (List.append_nil o).symm.trans he
  subst he'
  exact wSs_cons (wS_ReturnF ((ev_N rfl).run _ (I34 d _ _ rfl (.head _) rfl (I13 ⟨[], []⟩ le_nil rfl rfl))))
 | true =>
  have hlt := hbb.mp rfl
  refine E13 (hget hlt) fun r hr hg hdr => ?_
  rw [hdr] at he
  refine sSet (X := .int ((i + 1 : Nat) : Int)) (.inl rfl) (ev_eq (ev_Bin (ev_N rfl) ev_i bin_add_int) rfl) ?_
  refine sWhile (fun m τ => ∃ (j : Nat) (o : List (Str × Str)), m = rs.length - j ∧ j ≤ rs.length ∧ τ = ⟨locC' rs d i j, [(d, .lst (prs o))]⟩ ∧ o ++ (((rs.drop j).filter (clashB r)).map (fun q => (r.nm, q.nm)) ++ confL (rs.drop (i + 1))) = confL rs) (m := rs.length - (i + 1)) (St.le.refl _) ⟨i + 1, o, rfl, hlt, rfl, he⟩ ?_
  refine fun m τ => R24 fun j o z1 hj z3 he => ?_
  subst z1; subst z3
  refine (tp_lt (ev_N rfl) (ev_CallB G.b_len rfl (.blt _) rfl (evs (ev_N rfl) evs0) (b_len_lst hsz))).run _ fun b hbb => ?_
  rw [List.length_map, Int.ofNat_lt] at hbb
  cases b with
  | false =>
   have : j = rs.length := Nat.le_antisymm hj (Nat.le_of_not_lt fun z => Bool.noConfusion (hbb.mpr z))
   subst this
   rw [List.drop_length] at he
   refine sAugN rfl ev_i inp_add (.inl rfl) (wSs_nil (I12 ⟨locC rs d (i + 1), [(d, .lst (prs o))]⟩ (le_loc (I04 rfl rfl rfl trivial)) ⟨rs.length - (i + 1), Nat.sub_lt_sub_left hlt (Nat.lt_succ_self i), i + 1, o, rfl, hlt, rfl, he⟩))
  | true =>
   have hlt' := hbb.mp rfl
   refine E13 (hget hlt') fun q hq hg' hdq => ?_
   rw [hdq, List.filter_cons] at he
   have fin : ∀ {o' : List (Str × Str)} {ς : List (Str × V)}, o' ++ (((rs.drop (j + 1)).filter (clashB r)).map (fun q => (r.nm, q.nm)) ++ confL (rs.drop (i + 1))) = confL rs → Sub (locC' rs d i (j + 1)) ς → ∃ τ : St, St.le ⟨ς, [(d, .lst (prs o'))]⟩ τ ∧ ∃ m', m' < rs.length - j ∧ ∃ (j : Nat) (o : List (Str × Str)), m' = rs.length - j ∧ j ≤ rs.length ∧ τ = ⟨locC' rs d i j, [(d, .lst (prs o))]⟩ ∧ o ++ (((rs.drop j).filter (clashB r)).map (fun q => (r.nm, q.nm)) ++ confL (rs.drop (i + 1))) = confL rs := fun {o' ς} e hs =>
    I12 ⟨locC' rs d i (j + 1), [(d, .lst (prs o'))]⟩ (le_loc hs) ⟨rs.length - (j + 1), Nat.sub_lt_sub_left hlt' (Nat.lt_succ_self j), j + 1, o', rfl, hlt', rfl, e⟩
   have ei : ∀ {η : List (Addr × O)} {p p' p'' : Pos}, EV c A (envD D_conf qual code L a) ⟨locC' rs d i j, η⟩ (.Subscript (.Name "rs" p) (.Name "i" p') p'') r.v := ev_Sub (ev_N rfl) (ev_N rfl) (item_lst (Int.natCast_nonneg i) (hb hlt) hg)
   have ej : ∀ {η : List (Addr × O)} {p p' p'' : Pos}, EV c A (envD D_conf qual code L a) ⟨locC' rs d i j, η⟩ (.Subscript (.Name "rs" p) (.Name "j" p') p'') q.v := ev_Sub (ev_N rfl) (ev_N rfl) (item_lst (Int.natCast_nonneg j) (hb hlt') hg')
   refine sIf (tp_bool (ev_Pure G.g_clash G.F_clash rfl (evs ei (evs ej evs0)) hR (spec_clash G.F_clash G.b_set G.b_len (h2 r hr).nd (h2 r hr).ov (h2 q hq).ov))) (fun hc => ?_) fun hc => ?_
   ·rw [if_pos hc, List.map_cons] at he
    refine sApp (X := .tup [.str r.nm, .str q.nm]) rfl (ev_Tup (evs (ev_T ei rfl) (evs (ev_T ej rfl) evs0)) n2) (ho he) ?_
    rw [prs_snoc o (r.nm, q.nm)]
    exact wSs_nil (sAugN rfl ev_i inp_add (.inl rfl) (wSs_nil (fin (by rw [List.append_assoc]; exact he) (I05 rfl rfl rfl rfl trivial))))
   ·rw [if_neg hc] at he
    exact wSs_nil (sAugN rfl ev_i inp_add (.inl rfl) (wSs_nil (fin he (I05 rfl rfl rfl rfl trivial))))
end
end Mine
end
noncomputable section
set_option maxRecDepth 100000
set_option maxHeartbeats 2000000
namespace Mine
open PySem PySem.SeqAt PyProof.Rows
noncomputable def D_layout : DefD := defD PP.main.body[13]?
noncomputable def D_lclash : DefD := defD PP.main.body[14]?
noncomputable def D_ldue : DefD := defD PP.main.body[15]?
theorem k_layout : DefK D_layout ["p", "q", "s", "t", "picks"] D_layout.body where
 body := rfl
 fn := rfl
 co := rfl
 gen := rfl
 bind := by
  intro nm qual pm code doc vs h
  refine E51 (list5 h) fun _ _ _ _ _ z5 => ?_; subst z5; rfl
 nodup := by decide
 kinds := by decide
 noFree := by decide
theorem k_lclash : DefK D_lclash ["a", "b"] D_lclash.body where
 body := rfl
 fn := rfl
 co := rfl
 gen := rfl
 bind := by
  intro nm qual pm code doc vs h
  refine E21 (list2 h) fun x y z2 => ?_; subst z2; rfl
 nodup := by decide
 kinds := by decide
 noFree := by decide
theorem k_ldue : DefK D_ldue ["r", "spots", "u", "points", "rivals"] D_ldue.body where
 body := rfl
 fn := rfl
 co := rfl
 gen := rfl
 bind := by
  intro nm qual pm code doc vs h
  refine E51 (list5 h) fun _ _ _ _ _ z5 => ?_; subst z5; rfl
 nodup := by decide
 kinds := by decide
 noFree := by decide
noncomputable def secsL : List Str := ["a", "b", "c", "d", "e"]
noncomputable def signsL : List Str := ["S", "T", "U", ""]
noncomputable def spotsL : List Str := ["e", "a", "d", "e", "c"]
noncomputable def oversL : List (List Str) := [["a"], ["b"], ["a", "b"], ["b", "c"], ["c"], ["d", "c"], ["c", "b", "a"], []]
noncomputable def needsL : List (List (Str × Str)) := [[], [("p", "+")], [("p", "-")], [("q", "+")], [("q", "-")], [("p", "+"), ("q", "-")], [("q", "+"), ("p", "-")], [("p", "+"), ("p", "-")]]
noncomputable def secsV : V := .tup (secsL.map .str)
noncomputable def signsV : V := .tup (signsL.map .str)
noncomputable def spotsV : V := .tup (spotsL.map .str)
noncomputable def oversV : V := .tup (oversL.map fun l => .tup (l.map .str))
noncomputable def needsV : V := .tup (needsL.map fun l => .tup (prs l))
structure Pick where
 nm : Str
 g : Int
 o : Int
 n : Int
 e : Int
noncomputable def Pick.v (k : Pick) : V := .tup [.str k.nm, .int k.g, .int k.o, .int k.n, .int k.e]
noncomputable def Pick.rt (k : Pick) : Rt := ⟨k.nm, pick ["S", "T", "U"] "" k.g, pick oversL [] k.o, pick needsL [] k.n, pick signsL "" k.e⟩
noncomputable def layout1 (p q s t : Int) (picks : List Pick) : Lay :=
 ⟨secsL, [("p", pick secsL "" p), ("q", pick secsL "" q)], [("S", pick secsL "" s), ("T", pick secsL "" t), ("U", "e")], picks.map Pick.rt⟩
section
variable {c : Cx} {A : Around} {env : Env} {ς : List (Str × V)} {η : List (Addr × O)} {p p₁ p₂ p₃ p₄ p₅ pos : Pos} {n : Nat} {X Y Z W U : V} {l r : Expr}
theorem ev_pickP {α : Type} {ls : List α} {f : α → V} {i m : Int} (d : α) (l2 : List α) (h1 : EV c A env ⟨ς, η⟩ l (.tup ((ls ++ l2).map f))) (h2 : EV c A env ⟨ς, η⟩ r (.int i)) (hm : m = ls.length) (h0 : 0 < ls.length) (hs : ls.length < 1000) (hm0 : m ≠ 0 := by decide) :
  EV c A env ⟨ς, η⟩ (.Subscript l (.BinOp r .Mod (.Constant (.int m) n p₁) p₂) p₃) (f (pick ls d i)) := by
 have hpos : (0 : Int) < m := by rw [hm]; exact Int.ofNat_lt.mpr h0
 have hlt := Int.fmod_lt_of_pos i hpos
 have hnn := Int.fmod_nonneg_of_pos i hpos
 refine ev_Sub h1 (ev_Bin h2 ev_i (bin_mod_int hm0)) (item_tup hnn (Int.lt_of_lt_of_le hlt (by rw [hm]; exact Int.le_trans (Int.ofNat_le.mpr (Nat.le_of_lt hs)) (by decide))) ?_)
 have hl : (i.fmod m).toNat < ls.length := by
  have : (((i.fmod m).toNat : Nat) : Int) < ls.length := by rw [Int.toNat_of_nonneg hnn, ← hm]; exact hlt
  exact Int.ofNat_lt.mp this
 rw [List.map_append, List.getElem?_append_left (by rw [List.length_map]; exact hl), List.getElem?_map, List.getElem?_eq_getElem hl]
 unfold pick
 rw [← hm, List.getD_eq_getElem?_getD, List.getElem?_eq_getElem hl]
 rfl
theorem av5 {x y z w u : Str} {m : Nat} (hx : env.kindOf x = some .local ∨ env.kindOf x = some .cell) (hy : env.kindOf y = some .local ∨ env.kindOf y = some .cell) (hz : env.kindOf z = some .local ∨ env.kindOf z = some .cell) (hw : env.kindOf w = some .local ∨ env.kindOf w = some .cell) (hu : env.kindOf u = some .local ∨ env.kindOf u = some .cell) :
  AV c A env ⟨ς, η⟩ (.Tuple [.Name x p₁, .Name y p₂, .Name z p₃, .Name w p₄, .Name u p₅] m pos) (.tup [X, Y, Z, W, U]) ⟨setL (setL (setL (setL (setL ς x X) y Y) z Z) w W) u U, η⟩ := av_T (avs hx (avs hy (avs hz (avs hw (avs hu avs0)))))
end
theorem over_len {k : Int} : (pick oversL [] k).length ≤ 20 := by
 have h : ∀ l ∈ oversL, l.length ≤ 20 := by decide
 exact h _ (pick_mem (by decide))
theorem need_len {k : Int} : (pick needsL [] k).length ≤ 20 := by
 have h : ∀ l ∈ needsL, l.length ≤ 20 := by decide
 exact h _ (pick_mem (by decide))
theorem spec_layout {c : Cx} {a : Addr} {n : Nat} {p q s t : Int} {picks : List Pick} (F : IsFn c a D_layout) (bl : c.mg "list" = none) (g1 : GV c "_law_SECS" secsV) (g2 : GV c "_law_SIGNS" signsV) (g3 : GV c "_law_OVERS" oversV) (g4 : GV c "_law_NEEDS" needsV) (hpl : picks.length ≤ 20) :
  Pure c (n + 1) a [.int p, .int q, .int s, .int t, .tup (picks.map Pick.v)] (layout1 p q s t picks).v := by
 refine pure_def F k_layout rfl fun A qual code L hR => ?_
 conv in D_layout.body => whnf
 refine sLst0 (.inl rfl) fun d => ?_
 refine sFold (ls := picks) (f := Pick.v) (ς := [("p", .int p), ("q", .int q), ("s", .int s), ("t", .int t), ("routes", .ref d)]) (S := fun dn _ => [(d, .lst ((dn.map Pick.rt).map Rt.v))]) (ev_N rfl) seq_tup rfl (le_loc (I06 rfl rfl rfl rfl rfl trivial)) (fun dn k td hdn k' hk => ?_) ?_
 ·rw [List.map_append, List.map_append] at hk
  refine (av5 (.inl rfl) (.inl rfl) (.inl rfl) (.inl rfl) (.inl rfl)).run _ (sApp (X := k.rt.v) rfl (ev_Tup (evs (ev_N rfl) (evs (ev_pickP (ls := (["S", "T", "U"] : List Str)) (f := V.str) "" [""] (ev_GV g2 rfl) (ev_N rfl) rfl (by decide) (by decide))
   (evs (ev_CallB bl rfl (.type _) rfl (evs (ev_pick (ls := oversL) (f := fun l => .tup (l.map .str)) [] (ev_GV g3 rfl) (ev_N rfl) rfl (by decide) (by decide)) evs0) ((f_list_tup (by rw [List.length_map]; exact sz100 (Nat.le_trans over_len (by decide)))).frz rfl))
   (evs (ev_CallB bl rfl (.type _) rfl (evs (ev_pick (ls := needsL) (f := fun l => .tup (prs l)) [] (ev_GV g4 rfl) (ev_N rfl) rfl (by decide) (by decide)) evs0) ((f_list_tup (by rw [prs_len]; exact sz100 (Nat.le_trans need_len (by decide)))).frz rfl))
   (evs (ev_pick (ls := signsL) (f := V.str) "" (ev_GV g2 rfl) (ev_N rfl) rfl (by decide) (by decide)) evs0))))) n5) ?_ (wSs_nil (hk _ (le_loc (I06 rfl rfl rfl rfl rfl trivial))).1))
  rw [List.length_map, List.length_map]
  exact sz100 (Nat.le_trans (by rw [← hdn, List.length_append]; exact Nat.le_add_right _ _) (Nat.le_trans hpl (by decide)))
 refine sFrz (pre := []) (x := "routes") (d := d) rfl rfl ?_
 refine sSet (.inl rfl) (ev_Lst (evs (ev_Tup (evs ev_s (evs (ev_pick (ls := secsL) (f := V.str) "" (ev_GV g1 rfl) (ev_N rfl) rfl (by decide) (by decide)) evs0)) n2) (evs (ev_Tup (evs ev_s (evs (ev_pick (ls := secsL) (f := V.str) "" (ev_GV g1 rfl) (ev_N rfl) rfl (by decide) (by decide)) evs0)) n2) evs0)) n2) ?_
 refine sSet (.inl rfl) (ev_Lst (evs (ev_Tup (evs ev_s (evs (ev_pick (ls := secsL) (f := V.str) "" (ev_GV g1 rfl) (ev_N rfl) rfl (by decide) (by decide)) evs0)) n2) (evs (ev_Tup (evs ev_s (evs (ev_pick (ls := secsL) (f := V.str) "" (ev_GV g1 rfl) (ev_N rfl) rfl (by decide) (by decide)) evs0)) n2) (evs (ev_Tup (evs ev_s (evs ev_s evs0)) n2) evs0))) n3) ?_
 exact sRet (ev_Tup (evs (ev_CallB bl rfl (.type _) rfl (evs (ev_GV g1 rfl) evs0) ((f_list_tup (by decide)).frz rfl)) (evs (ev_N rfl) (evs (ev_N rfl) (evs (ev_N rfl) evs0)))) n4)
noncomputable def apart (a b : List (Str × Str)) : List (Str × Str) := a.flatMap fun x => sel b (fun y => x.1 = y.1 ∧ x.2 ≠ y.2) fun _ => x
noncomputable def lawClash (a b : Rt) : Bool := if a.st = b.st then true else decide ((((a.ov.filter fun s => decide (s ∈ b.ov)).length : Int) + (apart a.nd b.nd).length) > 0)
theorem spec_lclash {c : Cx} {a : Addr} {n : Nat} {ra rb : Rt} (F : IsFn c a D_lclash) (bl : c.mg "len" = none) (h1 : ra.ov.length ≤ 20) (h3 : ra.nd.length ≤ 20) (h4 : rb.nd.length ≤ 20) : Pure c (n + 1) a [ra.v, rb.v] (.bool (lawClash ra rb)) := by
 refine pure_def F k_lclash rfl fun A qual code L hR => ?_
 conv in D_lclash.body => whnf
 have l1 : (ra.ov.filter fun s => decide (s ∈ rb.ov)).length ≤ 20 := Nat.le_trans (List.length_filter_le _ _) h1
 have l2 : (apart ra.nd rb.nd).length ≤ 400 := Nat.le_trans (sel2_len (m := fun _ : Str × Str => rb.nd) (P := fun x y => x.1 = y.1 ∧ x.2 ≠ y.2) (y := fun x _ => x) (k := 20) ra.nd fun _ _ => h4) (Nat.mul_le_mul_right 20 h3)
 refine sCompF (ls := ra.ov) (fun s => s ∈ rb.ov) inj_str (cok rfl (by decide) (by decide)) (.inl rfl) (ev_at rfl rfl) rfl (sz100 (Nat.le_trans h1 (by decide))) ?_ ?_
 ·exact fun C s hs H hH => tI (av_N (.inl rfl)) (tp_in (ev_N rfl) (ev_at rfl rfl)) (fun _ => ev_N rfl) (ll1 rfl)
 refine sComp2 (ls := ra.nd) (fun _ : Str × Str => rb.nd) (fun x y => x.1 = y.1 ∧ x.2 ≠ y.2) (fun p : Str × Str => V.tup [.str p.1, .str p.2]) (fun x _ => x) inj_pair (cok rfl (by decide) (by decide)) rfl (.inl rfl) (ev_at rfl rfl) (prs_map ra.nd) (sz900 (Nat.le_trans l2 (by decide))) ?_ ?_
 ·exact fun C x hx => t2 (P := fun y : Str × Str => x.1 = y.1 ∧ x.2 ≠ y.2) (y := fun _ => x) inj_pair (fun H hH => av_N (.inl rfl)) (fun H hH => ev_at rfl rfl) (prs_map rb.nd) (ll1 rfl) fun y hy H hH =>
   tI (av_N (.inl rfl)) (tp_A2 (tp_eq (ev_at rfl rfl) (ev_at rfl rfl)) fun _ => tp_ne (ev_at rfl rfl) (ev_at rfl rfl)) (fun _ => ev_N rfl) (ll1 rfl)
 unfold lawClash
 refine sIfI (res := V.bool) (tp_eq (ev_at rfl rfl) (ev_at rfl rfl)) (fun _ => ev_b) fun _ => ?_
 exact sRet (ev_Cmp (ev_Bin (ev_eq (ev_CallB bl rfl (.blt _) rfl (evs (ev_N rfl) evs0) (b_len_lst (by rw [List.length_map]; exact sz100 (Nat.le_trans l1 (by decide))))) (by rw [List.length_map])) (ev_eq (ev_CallB bl rfl (.blt _) rfl (evs (ev_N rfl) evs0) (b_len_lst (by rw [List.length_map]; exact sz900 (Nat.le_trans l2 (by decide))))) (by rw [List.length_map]; rfl)) bin_add_int) ev_i cmp_gt_int)
noncomputable def stuck1 (r : Rt) (spots points : List (Str × Str)) (u : Str) : List (Str × Str) := r.nd.filter fun x => !decide (x ∈ spots) && decide ((x.1, u) ∈ points)
noncomputable def lawDue1 (r : Rt) (spots points : List (Str × Str)) (u : Str) (rivals : List Rt) : Str :=
 if u ∈ r.ov then "occupied" else if rivals ≠ [] then "conflict" else if stuck1 r spots points u ≠ [] then "locked" else "done"
theorem ht_pair (p x : Str) : HT (.tup [.str, .str]) (.tup [.str p, .str x]) := .tup (.cons (.str _) (.cons (.str _) .nil))
theorem ht_prs (l : List (Str × Str)) : ∀ y ∈ prs l, HT (.tup [.str, .str]) y := by
 intro y hy
 rw [prs_map] at hy
 refine E12 (List.mem_map.mp hy) fun q _ z2 => ?_; subst z2
 exact ht_pair _ _
theorem mem_prs {p x : Str} {l : List (Str × Str)} : V.tup [.str p, .str x] ∈ prs l ↔ (p, x) ∈ l := by
 rw [prs_map, List.mem_map]
 constructor
 ·refine R12 fun q hq e => ?_
  have := inj_pair (a := q) (b := (p, x)) e
  exact this ▸ hq
 ·intro h; exact (I12 _ h rfl)
section
variable {c : Cx} {A : Around} {hp : List (Addr × O)}
theorem cmp_notin_prs {p x : Str} {l : List (Str × Str)} : CmpV c A hp .NotIn (.tup [.str p, .str x]) (.lst (prs l)) (!decide ((p, x) ∈ l)) := cmp_notin_lst (T := .tup [.str, .str]) (ht_pair _ _) (ht_prs l) (by rw [decide_eq_true_eq, mem_prs])
theorem cmp_in_prs {p x : Str} {l : List (Str × Str)} : CmpV c A hp .In (.tup [.str p, .str x]) (.lst (prs l)) (decide ((p, x) ∈ l)) := cmp_in_lst (T := .tup [.str, .str]) (ht_pair _ _) (ht_prs l) (by rw [decide_eq_true_eq, mem_prs])
end
theorem nand_dec {p q : Prop} [Decidable p] [Decidable q] : ¬ p ∧ q ↔ (!decide p && decide q) = true := by rw [Bool.and_eq_true, Bool.not_eq_true', decide_eq_false_iff_not, decide_eq_true_eq]
theorem le100 {n : Nat} (h : n ≤ 20) : n ≤ 100 := Nat.le_trans h (by decide)
theorem spec_ldue {c : Cx} {a : Addr} {n : Nat} {r : Rt} {spots points : List (Str × Str)} {u : Str} {rivals : List Rt} (F : IsFn c a D_ldue) (h1 : r.nd.length ≤ 20) (h2 : rivals.length ≤ 20) : Pure c (n + 1) a [r.v, .lst (prs spots), .str u, .lst (prs points), .lst (rivals.map Rt.v)] (.str (lawDue1 r spots points u rivals)) := by
 refine pure_def F k_ldue rfl fun A qual code L hR => ?_
 conv in D_ldue.body => whnf
 refine sCompB (ls := r.nd) (f := fun p : Str × Str => V.tup [.str p.1, .str p.2]) (fun x => !decide (x ∈ spots) && decide ((x.1, u) ∈ points)) inj_pair (cok rfl (by decide) (by decide)) (.inl rfl) (ev_at rfl rfl) (prs_map r.nd) (sz100 (le100 h1)) ?_ ?_
 ·exact fun C x hx H hH => tI (av_N (.inl rfl)) (tp_iff (tp_A2 (tp_Cmp (ev_N rfl) (ev_N rfl) (cmp_notin_prs (p := x.1) (x := x.2)) ndec_iff) fun _ => tp_Cmp (ev_Tup (evs (ev_at rfl rfl) (evs (ev_N rfl) evs0)) n2) (ev_N rfl) (cmp_in_prs (p := x.1) (x := u)) dec_iff) nand_dec) (fun _ => ev_N rfl) (ll1 rfl)
 unfold lawDue1
 refine sIfI (res := V.str) (tp_in (ev_N rfl) (ev_at rfl rfl)) (fun _ => ev_s) fun _ => ?_
 refine sIfI (res := V.str) (tp_lst (ev_N rfl) (sz100 (le100 h2))) (fun _ => ev_s) fun _ => ?_
 refine sIfI (res := V.str) (tp_lst (ev_N rfl) (Nat.le_trans (List.length_filter_le _ _) (sz100 (le100 h1)))) (fun _ => ev_s) fun _ => ?_
 exact sRet ev_s
end Mine
end
noncomputable section
namespace Mine
open PySem PySem.Spec PyProof.Rows
noncomputable abbrev leS (x y : Str) : Prop := ¬ (y.cps.toList < x.cps.toList)
theorem leS_trans {x y z : Str} (h1 : leS x y) (h2 : leS y z) : leS x z := by
 unfold leS at *
 rw [List.not_lt] at *
 exact List.le_trans h1 h2
theorem leS_antisymm {x y : Str} (h1 : leS x y) (h2 : leS y x) : x = y := by
 unfold leS at *
 rw [List.not_lt] at *
 have := List.le_antisymm h1 h2
 cases x; cases y
 simp only [Str.mk.injEq]
 exact Array.toList_inj.mp this
theorem risingS_iff : ∀ (l : List Str) (x : Str), risingS x l = true ↔ (x :: l).Pairwise leS
 | [], x => by simp [risingS]
 | y :: l, x => by
  rw [List.pairwise_cons]
  unfold risingS
  rw [Bool.and_eq_true, risingS_iff l y, ltCps_eq, Bool.not_eq_true', decide_eq_false_iff_not]
  constructor
  ·rintro ⟨h1, h2⟩
   refine ⟨fun z hz => ?_, h2⟩
   rcases List.mem_cons.mp hz with rfl | hz
   ·exact h1
   ·exact leS_trans h1 ((List.pairwise_cons.mp h2).1 z hz)
  ·rintro ⟨h1, h2⟩
   exact ⟨h1 y (.head _), h2⟩
theorem sortedS_iff (l : List Str) : sortedS l = true ↔ l.Pairwise leS := by
 cases l with
 | nil => simp [sortedS]
 | cons x l => exact risingS_iff l x
theorem srt_unique {l m : List Str} (hp : l.Perm m) (h1 : sortedS l = true) (h2 : sortedS m = true) : l = m :=
 hp.eq_of_pairwise (fun _ _ _ _ => leS_antisymm) ((sortedS_iff l).mp h1) ((sortedS_iff m).mp h2)
theorem srt_filter {l : List Str} (p : Str → Bool) (h : sortedS l = true) : sortedS (l.filter p) = true := (sortedS_iff _).mpr (((sortedS_iff l).mp h).filter p)
noncomputable def sortL (l : List Str) : List Str := l.mergeSort fun x y => decide (leS x y)
theorem sortL_perm (l : List Str) : (sortL l).Perm l := List.mergeSort_perm _ _
theorem sortL_sorted (l : List Str) : sortedS (sortL l) = true := by
 rw [sortedS_iff]
 have h := List.pairwise_mergeSort (le := fun x y => decide (leS x y)) (fun a b c h1 h2 => decide_eq_true (leS_trans (of_decide_eq_true h1) (of_decide_eq_true h2))) (fun a b => by
  by_cases h1 : leS a b
  ·rw [Bool.or_eq_true]; exact .inl (decide_eq_true h1)
  ·have : leS b a := by
    unfold leS at *
    intro h2
    apply h1
    intro h3
    exact List.lt_irrefl _ (List.lt_trans h2 h3)
   rw [Bool.or_eq_true]; exact .inr (decide_eq_true this)) l
 exact h.imp fun h => of_decide_eq_true h
theorem sortL_eq {l ss : List Str} (hp : ss.Perm l) (h : sortedS ss = true) : ss = sortL l := srt_unique (hp.trans (sortL_perm l).symm) h (sortL_sorted l)
theorem tget_cons (q : Str × Str) (r : List (Str × Str)) (j : Str) : tget (q :: r) j = if q.1 = j then some q.2 else tget r j := by
 unfold tget; rw [List.find?_cons]; by_cases hq : q.1 = j <;> simp [hq]
theorem tget_mem {l : List (Str × Str)} (hnd : (l.map (·.1)).Nodup) {k v : Str} : tget l k = some v ↔ (k, v) ∈ l := by
 induction l with
 | nil => simp [tget]
 | cons q l ih =>
  rw [List.map_cons, List.nodup_cons] at hnd
  rw [tget_cons]
  by_cases h : q.1 = k
  ·rw [if_pos h]
   constructor
   ·intro e; cases e; subst h; exact .head _
   ·intro e
    rcases List.mem_cons.mp e with e | e
    ·rw [← e]
    ·exact absurd (h ▸ List.mem_map_of_mem (f := (·.1)) e) hnd.1
  ·rw [if_neg h, ih hnd.2, List.mem_cons]
   constructor
   ·exact .inr
   ·rintro (e | e)
    ·exact absurd (by rw [← e]) h
    ·exact e
theorem tget_isSome (l : List (Str × Str)) (k : Str) : (tget l k).isSome = decide (k ∈ l.map (·.1)) := by
 induction l with
 | nil => rfl
 | cons q l ih =>
  rw [tget_cons]
  by_cases h : q.1 = k
  ·simp [h]
  ·have h' : ¬ k = q.1 := fun e => h e.symm
   rw [if_neg h, ih]
   simp only [List.map_cons, List.mem_cons, h', false_or]
theorem tget_some {l : List (Str × Str)} {k : Str} (h : k ∈ l.map (·.1)) : ∃ v, tget l k = some v := by
 have := tget_isSome l k
 rw [decide_eq_true h] at this
 exact Option.isSome_iff_exists.mp this
theorem tset_new {l : List (Str × Str)} {k v : Str} (h : k ∉ l.map (·.1)) : tset l k v = l ++ [(k, v)] := by
 unfold tset
 rw [if_neg]
 intro h1
 refine E12 (List.any_eq_true.mp h1) fun e he h2 => ?_
 exact h ((of_decide_eq_true h2) ▸ List.mem_map_of_mem (f := (·.1)) he)
theorem tset_names {l : List (Str × Str)} {k v : Str} (h : k ∈ l.map (·.1)) : (tset l k v).map (·.1) = l.map (·.1) := by
 unfold tset
 refine E12 (List.mem_map.mp h) fun e he h2 => ?_
 rw [if_pos (List.any_eq_true.mpr (I12 e he (decide_eq_true h2))), List.map_map]
 refine List.map_congr_left fun p _ => ?_
 simp only [Function.comp]
 split <;> rfl
theorem tfold_new (l : List (Str × Str)) : ∀ acc : List (Str × Str), ((acc ++ l).map (·.1)).Nodup → tfold l acc = acc ++ l := by
 induction l with
 | nil => intro acc _; simp [tfold]
 | cons q l ih =>
  intro acc h
  show tfold l (tset acc q.1 q.2) = _
  have h1 : q.1 ∉ acc.map (·.1) := by
   rw [List.map_append, List.nodup_append] at h
   intro h2
   exact h.2.2 _ h2 q.1 (by simp) rfl
  rw [tset_new h1, ih]
  ·simp
  ·simpa using h
theorem tfold_self {l : List (Str × Str)} (h : (l.map (·.1)).Nodup) : tfold l [] = l := tfold_new l [] h
theorem tfold_names (ps : List (Str × Str)) : ∀ {l : List (Str × Str)}, (∀ q ∈ ps, q.1 ∈ l.map (·.1)) → (tfold ps l).map (·.1) = l.map (·.1) := by
 induction ps with
 | nil => intro l _; rfl
 | cons p ps ih =>
  intro l h
  show (tfold ps (tset l p.1 p.2)).map (·.1) = _
  have e := tset_names (v := p.2) (h p (.head _))
  rw [ih, e]
  intro q hq
  rw [e]; exact h q (.tail _ hq)
theorem pos_out {pts pos : List (Str × Str)} (hn : pos.map (·.1) = pts.map (·.1)) (hnd : (pts.map (·.1)).Nodup) : (pts.map fun q => (q.1, (tget pos q.1).getD "")) = pos := by
 have e : (pts.map fun q => (q.1, (tget pos q.1).getD "")) = (pts.map (·.1)).map fun k => (k, (tget pos k).getD "") := by rw [List.map_map]; rfl
 rw [e, ← hn, List.map_map]
 have h : ∀ q ∈ pos, ((fun k => (k, (tget pos k).getD "")) ∘ fun x : Str × Str => x.1) q = q := by
  intro q hq
  have := (tget_mem (hn ▸ hnd : (pos.map (·.1)).Nodup)).mpr hq
  simp only [Function.comp, this, Option.getD_some]
 rw [List.map_congr_left h, List.map_id']
theorem sof_new (l : List Str) : ∀ acc : List Str, (acc ++ l).Nodup → l.foldl sadd acc = acc ++ l := by
 induction l with
 | nil => intro acc _; simp
 | cons q l ih =>
  intro acc h
  rw [List.foldl_cons]
  have h1 : q ∉ acc := by
   rw [List.nodup_append] at h
   intro h2
   exact h.2.2 _ h2 q (by simp) rfl
  have : sadd acc q = acc ++ [q] := by unfold sadd; rw [if_neg h1]
  rw [this, ih]
  ·simp
  ·simpa using h
theorem sof_self {l : List Str} (h : l.Nodup) : sof l = l := sof_new l [] h
end Mine
end
noncomputable section
set_option maxRecDepth 100000
set_option maxHeartbeats 2000000
namespace Mine
open PySem PySem.SeqAt PyProof.Rows
noncomputable def D_trip : DefD := defD PP.main.body[16]?
theorem k_trip : DefK D_trip ["held", "waits", "mode", "spots", "u"] D_trip.body where
 body := rfl
 fn := rfl
 co := rfl
 gen := rfl
 bind := by
  intro nm qual pm code doc vs h
  refine E51 (list5 h) fun _ _ _ _ _ z5 => ?_; subst z5; rfl
 nodup := by decide
 kinds := by decide
 noFree := by decide
structure Stp where
 ev : Ev
 ans : Str
 st : Sta
noncomputable def Stp.v (s : Stp) : V := .tup [s.ev.v, .str s.ans, s.st.v]
noncomputable def heldOf (r : Rt) : Held := ⟨r.nm, r.ov, 0, 0⟩
structure TS where
 taken : List Str
 done : Nat
 left : List Str
 w : Int
noncomputable def mvEv (m : Bool × Str) : Ev := if m.1 then .enter m.2 else .leave m.2
noncomputable def mvV (m : Bool × Str) : V := .tup [.str (if m.1 then "enter" else "leave"), .str m.2]
noncomputable def mstep (ov : List Str) (t : TS) (m : Bool × Str) : TS :=
 if m.1 = true then (if (ov.drop t.done).take 1 = [m.2] then ⟨sortL (t.taken ++ [m.2]), t.done + 1, t.left, 0⟩ else ⟨sortL (t.taken ++ [m.2]), t.done, t.left, t.w⟩)
 else ⟨t.taken.filter fun x => decide (x ≠ m.2), t.done, if t.left.take 1 = [m.2] ∧ m.2 ∈ ov.take t.done then t.left.drop 1 else t.left, t.w⟩
noncomputable def mnow (nm : Str) (rest : List Held) (t : TS) : List Held := if t.left ≠ [] then ⟨nm, t.left, t.done, t.w⟩ :: rest else rest
noncomputable def mrun (nm : Str) (ov : List Str) (spots : List (Str × Str)) (rest : List Held) : TS → List (Bool × Str) → List Stp
 | _, [] => []
 | t, m :: ms => ⟨mvEv m, "done", ⟨spots, (mstep ov t m).taken, mnow nm rest (mstep ov t m)⟩⟩ :: mrun nm ov spots rest (mstep ov t m) ms
theorem mrun_snoc (nm : Str) (ov : List Str) (spots : List (Str × Str)) (rest : List Held) (m : Bool × Str) : ∀ (t : TS) (ms : List (Bool × Str)), mrun nm ov spots rest t (ms ++ [m]) = mrun nm ov spots rest t ms ++ [⟨mvEv m, "done", ⟨spots, (mstep ov (ms.foldl (mstep ov) t) m).taken, mnow nm rest (mstep ov (ms.foldl (mstep ov) t) m)⟩⟩]
 | t, [] => rfl
 | t, m' :: ms => by
  show _ :: mrun nm ov spots rest _ (ms ++ [m]) = _
  rw [mrun_snoc nm ov spots rest m _ ms]; rfl
noncomputable def movesOf (ov : List Str) (mode : Int) : List (Bool × Str) :=
 (if mode = 1 then [] else if mode = 2 then (ov.map fun s => (true, s)).reverse ++ ov.map fun s => (false, s) else if mode = 3 then (ov.map fun s => (true, s)) ++ (ov.map fun s => (false, s)).reverse else (ov.map fun s => (true, s)) ++ ov.map fun s => (false, s)) ++ ov.flatMap fun s => [(true, s), (false, s)]
noncomputable def preOf (r : Rt) (rest : List Held) (waits : Bool) (spots : List (Str × Str)) (u : Str) : List Stp :=
 if waits = true then [⟨.cancel r.nm, "waits", ⟨spots, [u], ⟨r.nm, r.ov, 0, 3⟩ :: rest⟩⟩, ⟨.tick, "done", ⟨spots, [u], ⟨r.nm, r.ov, 0, 2⟩ :: rest⟩⟩] else []
noncomputable def trip (r : Rt) (rest : List Held) (waits : Bool) (mode : Int) (spots : List (Str × Str)) (u : Str) : List Stp :=
 if mode = 0 ∨ ¬ r.ov ≠ [] then
  (if waits = true then preOf r rest waits spots u ++ [⟨.tick, "done", ⟨spots, [u], ⟨r.nm, r.ov, 0, 1⟩ :: rest⟩⟩, ⟨.tick, "done", ⟨spots, [u], rest⟩⟩] else [⟨.cancel r.nm, "done", ⟨spots, [u], rest⟩⟩])
 else preOf r rest waits spots u ++ mrun r.nm r.ov spots rest ⟨[u], 0, r.ov, if waits = true then 2 else 0⟩ (movesOf r.ov mode)
theorem map_str_eq {l : List Str} {s : Str} : l.map V.str = [V.str s] ↔ l = [s] := by
 constructor
 ·intro h
  match l, h with
  | [x], h => simp at h; rw [h]
 ·rintro rfl; rfl
theorem wIf {c : Cx} {A : Around} {env : Env} {ς : List (Str × V)} {η : List (Addr × O)} {t : Expr} {P : Prop} {pos : Pos} {k : FV → St → Prop} {b o : List Stmt} (h : TP c A env ⟨ς, η⟩ t P) (h1 : P → WSs c A env ⟨ς, η⟩ b k) (h2 : ¬ P → WSs c A env ⟨ς, η⟩ o k) : WS c A env ⟨ς, η⟩ (.If t b o pos) k :=
 wS_If (h.run _ fun x hx => by
  cases x with
  | true => exact h1 (hx.mp rfl)
  | false => exact h2 (fun q => Bool.noConfusion (hx.mpr q)))
theorem ev_sorted {c : Cx} {A : Around} {env : Env} {ς : List (Str × V)} {η : List (Addr × O)} {fpos pos : Pos} {e : Expr} {xs : List Str} (hm : c.mg "sorted" = none) (hk : env.kindOf "sorted" = some .globalImplicit) (h : EV c A env ⟨ς, η⟩ e (.lst (xs.map .str))) (hl : xs.length < 64)
  (he : starEach [e] env = [(false, eval e env)] := by rfl) : EV c A env ⟨ς, η⟩ (.Call (.Name "sorted" fpos) [e] [] pos) (.lst ((sortL xs).map .str)) :=
 ⟨fun _ hk' => wE_SortedLst hm hk (h.run _ ⟨xs, rfl, hl, fun ss h1 h2 => by rw [sortL_eq h1 h2]; exact hk'⟩) he⟩
theorem mstep_taken {ov : List Str} {t : TS} {m : Bool × Str} : (mstep ov t m).taken.length ≤ t.taken.length + 1 := by
 unfold mstep
 split
 ·split
  ·rw [(sortL_perm _).length_eq, List.length_append]; exact Nat.le_refl _
  ·rw [(sortL_perm _).length_eq, List.length_append]; exact Nat.le_refl _
 ·exact Nat.le_succ_of_le (List.length_filter_le _ _)
theorem msteps_taken {ov : List Str} : ∀ (ms : List (Bool × Str)) (t : TS), (ms.foldl (mstep ov) t).taken.length ≤ t.taken.length + ms.length
 | [], _ => Nat.le_refl _
 | m :: ms, t => by
  refine Nat.le_trans (msteps_taken ms (mstep ov t m)) ?_
  rw [List.length_cons]
  exact Nat.le_trans (Nat.add_le_add_right (mstep_taken (ov := ov) (t := t) (m := m)) ms.length) (Nat.le_of_eq (Nat.succ_add_eq_add_succ _ _))
theorem mstep_left {ov : List Str} {t : TS} {m : Bool × Str} : (mstep ov t m).left.length ≤ t.left.length := by
 unfold mstep
 split
 ·split <;> exact Nat.le_refl _
 ·show (if _ then _ else _ : List Str).length ≤ _
  split
  ·rw [List.length_drop]; exact Nat.sub_le _ _
  ·exact Nat.le_refl _
theorem msteps_left {ov : List Str} : ∀ (ms : List (Bool × Str)) (t : TS), (ms.foldl (mstep ov) t).left.length ≤ t.left.length
 | [], _ => Nat.le_refl _
 | m :: ms, t => Nat.le_trans (msteps_left ms (mstep ov t m)) mstep_left
theorem mrun_len (nm : Str) (ov : List Str) (spots : List (Str × Str)) (rest : List Held) : ∀ (ms : List (Bool × Str)) (t : TS), (mrun nm ov spots rest t ms).length = ms.length
 | [], _ => rfl
 | m :: ms, t => congrArg (· + 1) (mrun_len nm ov spots rest ms _)
theorem fl2 : ∀ l : List Str, (l.flatMap fun s => [(true, s), (false, s)]).length = 2 * l.length
 | [] => rfl
 | x :: l => (List.length_append (as := [(true, x), (false, x)])).trans ((congrArg (2 + ·) (fl2 l)).trans (Nat.add_comm 2 (2 * l.length)))
theorem m0_len {α : Type} {es fs : List α} {mode : Int} (he : es.length ≤ 3) (hf : fs.length ≤ 3) : (if mode = 1 then [] else if mode = 2 then es.reverse ++ fs else if mode = 3 then es ++ fs.reverse else es ++ fs : List α).length ≤ 6 := by
 split
 ·exact Nat.zero_le _
 split
 ·rw [List.length_append, List.length_reverse]; exact Nat.add_le_add he hf
 split
 ·rw [List.length_append, List.length_reverse]; exact Nat.add_le_add he hf
 ·rw [List.length_append]; exact Nat.add_le_add he hf
theorem moves_len {ov : List Str} {mode : Int} (h : ov.length ≤ 3) : (movesOf ov mode).length ≤ 12 := by
 unfold movesOf
 rw [List.length_append, fl2]
 exact Nat.add_le_add (m0_len (by rw [List.length_map]; exact h) (by rw [List.length_map]; exact h)) (Nat.mul_le_mul_left 2 h)
theorem om14 {m : Int} (h : 0 ≤ m) (h' : m ≤ 4) (h0 : m ≠ 0) : m = 1 ∨ m = 2 ∨ m = 3 ∨ m = 4 := by omega
theorem omx {m : Int} (h : m ≤ 4) : m - 1 < 2 ^ 62 := by omega
theorem omy {m : Int} (h : 0 ≤ m) (h0 : m ≠ 0) : 0 ≤ m - 1 := by omega
noncomputable def locT (r : Rt) (rest : List Held) (waits : Bool) (mode : Int) (spots : List (Str × Str)) (u : Str) (d : Addr) (w : Int) : List (Str × V) :=
 [("waits", .bool waits), ("mode", .int mode), ("spots", .lst (prs spots)), ("u", .str u), ("name", .str r.nm), ("over", .lst (r.ov.map .str)), ("rest", .lst (rest.map Held.v)), ("steps", .ref d), ("w", .int w)]
noncomputable def locM (r : Rt) (rest : List Held) (spots : List (Str × Str)) (u : Str) (d : Addr) (w : Int) (ms : List (Bool × Str)) : List (Str × V) :=
 [("spots", .lst (prs spots)), ("u", .str u), ("name", .str r.nm), ("over", .lst (r.ov.map .str)), ("rest", .lst (rest.map Held.v)), ("steps", .ref d), ("w", .int w), ("moves", .lst (ms.map mvV))]
noncomputable def locW (r : Rt) (rest : List Held) (spots : List (Str × Str)) (d : Addr) (t : TS) : List (Str × V) :=
 [("spots", .lst (prs spots)), ("name", .str r.nm), ("over", .lst (r.ov.map .str)), ("rest", .lst (rest.map Held.v)), ("steps", .ref d), ("w", .int t.w), ("taken", .lst (t.taken.map .str)), ("done", .int t.done), ("left", .lst (t.left.map .str))]
noncomputable def locX (r : Rt) (rest : List Held) (spots : List (Str × Str)) (d : Addr) (t : TS) (m : Bool × Str) : List (Str × V) :=
 [("spots", .lst (prs spots)), ("name", .str r.nm), ("over", .lst (r.ov.map .str)), ("rest", .lst (rest.map Held.v)), ("steps", .ref d), ("w", .int t.w), ("taken", .lst (t.taken.map .str)), ("done", .int t.done), ("left", .lst (t.left.map .str)), ("kind", .str (if m.1 then "enter" else "leave")), ("s", .str m.2)]
theorem spec_trip {c : Cx} {a : Addr} {n : Nat} {r : Rt} {hs : List Rt} {waits : Bool} {mode : Int} {spots : List (Str × Str)} {u : Str} (F : IsFn c a D_trip) (bs : c.mg "sorted" = none) (hl : hs.length ≤ 20) (hov : r.ov.length ≤ 3) (hm0 : 0 ≤ mode) (hm4 : mode ≤ 4) :
  Pure c (n + 1) a [.lst ((r :: hs).map Rt.v), .bool waits, .int mode, .lst (prs spots), .str u] (.lst ((trip r (hs.map heldOf) waits mode spots u).map Stp.v)) := by
 refine call_def F k_trip rfl fun A qual code L hR => ?_
 conv in D_trip.body => whnf
 refine sSwap2 (X := .str r.nm) (Y := .lst (r.ov.map .str)) rfl rfl (ev_Tup (evs (ev_T (ev_atL rfl rfl) rfl) (evs (ev_T (ev_atL rfl rfl) rfl) evs0)) n2) ?_
 refine sCompY (ls := hs) (f := Rt.v) Held.v heldOf inj_rt (cok rfl (by decide) (by decide)) (.inl rfl) (ev_slFrom (ys := r :: hs) (f := Rt.v) (i := 1) (ev_N rfl) (sz100 (Nat.le_trans (Nat.succ_le_succ hl) (by decide))) ev_i (by decide)) rfl (sz100 (le100 hl)) ?_ ?_
 ·exact fun C h hh H hH => tM (av_N (.inl rfl)) (ev_Tup (evs (ev_at rfl rfl) (evs (ev_at rfl rfl) (evs ev_i (evs ev_i evs0)))) n4) (ll1 rfl)
 have hrl : (hs.map heldOf).length ≤ 20 := by rw [List.length_map]; exact hl
 generalize hs.map heldOf = rest at hrl ⊢
 have hadd : ∀ {x : Held}, [x].length + rest.length ≤ sizeLine := sz100 (Nat.le_trans (Nat.add_le_add_left hrl 1) (by decide))
 refine wSs_cons (wS_Swap (names := ["steps", "w"]) (wE_Tuple (wEs_cons (wE_ListO (wEs_nil ⟨Nat.zero_le _, fun d _ => ?_⟩)))))
 refine (evs ev_i evs0).run _ ⟨sz10 n2, [.ref d, .int 0], rfl, rfl, wNs_cons (.inl rfl) (wNs_cons (.inl rfl) (wNs_nil ?_))⟩
 have main : ∀ (w : Int), w = (if waits = true then 2 else 0) → WSs c A (envD D_trip qual code L a) ⟨locT r rest waits mode spots u d w, [(d, .lst ((preOf r rest waits spots u).map Stp.v))]⟩ (D_trip.body.drop 4) (fun f σ => ∃ τ, σ.le τ ∧ retV f = .lst ((trip r rest waits mode spots u).map Stp.v) ∧ τ.hp = []) := by
  intro w hw
  conv in List.drop 4 _ => whnf
  have hpl : (preOf r rest waits spots u).length ≤ 2 := by unfold preOf; split <;> exact Nat.le_of_ble_eq_true rfl
  unfold trip
  refine sIf (P := mode = 0 ∨ ¬ r.ov ≠ []) (tp_O2 (tp_eqi (ev_N rfl) ev_i) fun _ => tp_not (tp_lst (ev_N rfl) (sz100 (Nat.le_trans hov (by decide))))) (fun q => ?_) fun q => ?_
  ·rw [if_pos q]
   refine sIf (tp_bool (ev_N rfl)) (fun hwt => ?_) fun hwt => wSs_nil ?_
   ·rw [if_pos hwt]
    refine wSs_cons (wS_ReturnF (wE_AddO ((ev_N rfl).run _ ⟨d, _, rfl, (ev_Lst (evs (ev_Tup (evs (ev_Tup (evs ev_s evs0) n1) (evs ev_s (evs (ev_Tup (evs (ev_N rfl) (evs (ev_one (f := V.str) (ev_N rfl)) (evs (ev_addM (f := Held.v) (xs := [⟨r.nm, r.ov, 0, 1⟩]) (ys := rest) (ev_one (ev_Tup (evs (ev_N rfl) (evs (ev_N rfl) (evs ev_i (evs ev_i evs0)))) n4)) (ev_N rfl) hadd) evs0))) n3) evs0))) n3)
     (evs (ev_Tup (evs (ev_Tup (evs ev_s evs0) n1) (evs ev_s (evs (ev_Tup (evs (ev_N rfl) (evs (ev_one (f := V.str) (ev_N rfl)) (evs (ev_N rfl) evs0))) n3) evs0))) n3) evs0)) n2).run _ ⟨_, rfl, .head _, ?_, fun a' _ => I34 a' _ _ rfl (.head _) rfl (I13 ⟨[], []⟩ le_nil ?_ rfl)⟩⟩)))
    ·rw [List.length_map]; exact sz100 (Nat.le_trans (Nat.add_le_add_right hpl 2) (by decide))
    ·exact congrArg V.lst (List.map_append (f := Stp.v) (l₁ := preOf r rest waits spots u) (l₂ := [⟨.tick, "done", ⟨spots, [u], ⟨r.nm, r.ov, 0, 1⟩ :: rest⟩⟩, ⟨.tick, "done", ⟨spots, [u], rest⟩⟩])).symm
   ·rw [if_neg hwt]
    refine wSs_Ret ((ev_Lst (evs (ev_Tup (evs (ev_Tup (evs ev_s (evs (ev_N rfl) evs0)) n2) (evs ev_s (evs (ev_Tup (evs (ev_N rfl) (evs (ev_one (f := V.str) (ev_N rfl)) (evs (ev_N rfl) evs0))) n3) evs0))) n3) evs0) n1).run _ (I13 ⟨[], []⟩ le_nil rfl rfl))
  ·rw [if_neg q]
   refine wSs_nil ?_
   have hov' : r.ov.length ≤ sizeLine := sz100 (Nat.le_trans hov (by decide))
   refine sSwap2 (X := .lst ((r.ov.map fun s => (true, s)).map mvV)) (Y := .lst ((r.ov.map fun s => (false, s)).map mvV)) rfl rfl (ev_Tup (evs (ev_CompY (ls := r.ov) mvV (fun s => (true, s)) inj_str (cok rfl (by decide) (by decide)) (ev_N rfl) rfl hov' ?_) (evs (ev_CompY (ls := r.ov) mvV (fun s => (false, s)) inj_str (cok rfl (by decide) (by decide)) (ev_N rfl) rfl hov' ?_) evs0)) n2) ?_
   ·exact fun C h hh H hH => tM (av_N (.inl rfl)) (ev_Tup (evs ev_s (evs (ev_N rfl) evs0)) n2) (ll1 rfl)
   ·exact fun C h hh H hH => tM (av_N (.inl rfl)) (ev_Tup (evs ev_s (evs (ev_N rfl) evs0)) n2) (ll1 rfl)
   have hlm : ∀ b : Bool, (r.ov.map fun s => (b, s)).length = r.ov.length := fun b => List.length_map _
   generalize hE : (r.ov.map fun s => (true, s)) = es at *
   generalize hF : (r.ov.map fun s => (false, s)) = fs at *
   have hel : es.length ≤ 3 := by rw [← hE, List.length_map]; exact hov
   have hfl : fs.length ≤ 3 := by rw [← hF, List.length_map]; exact hov
   have sz6 : ∀ {x y : Nat}, x ≤ 3 → y ≤ 3 → x + y ≤ sizeLine := fun h1 h2 => sz100 (Nat.le_trans (Nat.add_le_add h1 h2) (by decide))
   have hm0' : mode ≠ 0 := fun z => q (.inl z)
   have hmv : movesOf r.ov mode = (if mode = 1 then [] else if mode = 2 then es.reverse ++ fs else if mode = 3 then es ++ fs.reverse else es ++ fs) ++ r.ov.flatMap fun s => [(true, s), (false, s)] := by
    unfold movesOf; rw [hE, hF]
   refine sSet (X := .lst ((if mode = 1 then [] else if mode = 2 then es.reverse ++ fs else if mode = 3 then es ++ fs.reverse else es ++ fs : List (Bool × Str)).map mvV)) (.inl rfl) (ev_Sub (ev_Tup (evs (ev_Lst evs0 n0) (evs (ev_addM (f := mvV) (xs := es.reverse) (ev_eq (ev_rev rfl (by rw [List.length_map]; exact sz100 (Nat.le_trans hel (by decide)))) (by rw [List.map_reverse])) (ev_N rfl) (by rw [List.length_reverse]; exact sz6 hel hfl)) (evs (ev_addM (f := mvV) (ys := fs.reverse) (ev_N rfl) (ev_eq (ev_rev rfl (by rw [List.length_map]; exact sz100 (Nat.le_trans hfl (by decide)))) (by rw [List.map_reverse])) (by rw [List.length_reverse]; exact sz6 hel hfl)) (evs (ev_addM (f := mvV) (ev_N rfl) (ev_N rfl) (sz6 hel hfl)) evs0)))) n4) (ev_Bin (ev_N rfl) ev_i bin_sub_int) (item_tup (omy hm0 hm0') (omx hm4) ?_)) ?_
   ·rcases om14 hm0 hm4 hm0' with z | z | z | z <;> subst z <;> rfl
   have hm0l := m0_len (mode := mode) hel hfl
   generalize (if mode = 1 then [] else if mode = 2 then es.reverse ++ fs else if mode = 3 then es ++ fs.reverse else es ++ fs : List (Bool × Str)) = m0 at *
   refine sFoldG (ls := r.ov) (f := V.str) (I := fun dn _ τ => τ = ⟨locM r rest spots u d w (m0 ++ dn.flatMap fun s => [(true, s), (false, s)]), [(d, .lst ((preOf r rest waits spots u).map Stp.v))]⟩) (ev_N rfl) seq_lst rfl (τ₀ := ⟨locM r rest spots u d w m0, [(d, .lst ((preOf r rest waits spots u).map Stp.v))]⟩) (le_loc ⟨rfl, rfl, rfl, rfl, rfl, rfl, rfl, rfl, trivial⟩) (by rw [List.flatMap_nil, List.append_nil]) ?_ ?_
   ·intro dn s td τ hdn hI k' hk
    subst hI
    have hdl : dn.length ≤ 3 := Nat.le_trans (by rw [← hdn, List.length_append]; exact Nat.le_add_right _ _) hov
    refine (av_N (.inr rfl)).run _ (sSet (X := .lst ((m0 ++ (dn ++ [s]).flatMap fun s => [(true, s), (false, s)]).map mvV)) (.inl rfl) (ev_eq (ev_addM (f := mvV) (ys := [(true, s), (false, s)]) (ev_N rfl) (ev_Lst (evs (ev_Tup (evs ev_s (evs (ev_N rfl) evs0)) n2) (evs (ev_Tup (evs ev_s (evs (ev_N rfl) evs0)) n2) evs0)) n2) ?_) ?_) (wSs_nil (hk _ _ rfl (le_loc ⟨rfl, rfl, rfl, rfl, rfl, rfl, rfl, rfl, trivial⟩)).1))
    ·rw [List.length_append, fl2]
     exact sz100 (Nat.le_trans (Nat.add_le_add_right (Nat.add_le_add hm0l (Nat.mul_le_mul_left 2 hdl)) 2) (by decide))
    ·rw [List.flatMap_append, List.append_assoc]; rfl
   intro τ hI
   subst hI
   rw [← hmv]
   have hml := moves_len (mode := mode) hov
   generalize movesOf r.ov mode = ms at *
   refine sSwap3 (X := .int 0) (Y := .lst (r.ov.map .str)) (Z := .lst ([u].map .str)) rfl rfl rfl (ev_Tup (evs ev_i (evs (ev_N rfl) (evs (ev_one (f := V.str) (ev_N rfl)) evs0))) n3) ?_
   refine sFoldG (ls := ms) (f := mvV) (I := fun dn _ τ => τ = ⟨locW r rest spots d (dn.foldl (mstep r.ov) ⟨[u], 0, r.ov, w⟩), [(d, .lst ((preOf r rest waits spots u ++ mrun r.nm r.ov spots rest ⟨[u], 0, r.ov, w⟩ dn).map Stp.v))]⟩) (ev_N rfl) seq_lst rfl (τ₀ := ⟨locW r rest spots d ⟨[u], 0, r.ov, w⟩, [(d, .lst ((preOf r rest waits spots u).map Stp.v))]⟩) (le_loc ⟨rfl, rfl, rfl, rfl, rfl, rfl, rfl, rfl, rfl, trivial⟩) (by show _ = St.mk _ [(d, O.lst ((preOf r rest waits spots u ++ []).map Stp.v))]; rw [List.append_nil]; rfl) ?_ ?_
   ·intro dn m td τ hdn hI k' hk
    subst hI
    have hdl : dn.length ≤ 12 := Nat.le_trans (by rw [← hdn, List.length_append]; exact Nat.le_add_right _ _) hml
    have htk : (dn.foldl (mstep r.ov) ⟨[u], 0, r.ov, w⟩).taken.length ≤ 13 := Nat.le_trans (msteps_taken dn _) (Nat.le_trans (Nat.add_le_add_left hdl 1) (by decide))
    have hlf : (dn.foldl (mstep r.ov) ⟨[u], 0, r.ov, w⟩).left.length ≤ 3 := Nat.le_trans (msteps_left dn _) hov
    have hsl : ((preOf r rest waits spots u ++ mrun r.nm r.ov spots rest ⟨[u], 0, r.ov, w⟩ dn).map Stp.v).length ≤ sizeLine := by
     rw [List.length_map, List.length_append, mrun_len]
     exact sz100 (Nat.le_trans (Nat.add_le_add hpl hdl) (by decide))
    have hk2 : ∀ τ', St.le τ' ⟨locW r rest spots d (mstep r.ov (dn.foldl (mstep r.ov) ⟨[u], 0, r.ov, w⟩) m), [(d, .lst ((preOf r rest waits spots u ++ mrun r.nm r.ov spots rest ⟨[u], 0, r.ov, w⟩ dn ++ [(⟨mvEv m, "done", ⟨spots, (mstep r.ov (dn.foldl (mstep r.ov) ⟨[u], 0, r.ov, w⟩) m).taken, mnow r.nm rest (mstep r.ov (dn.foldl (mstep r.ov) ⟨[u], 0, r.ov, w⟩) m)⟩⟩ : Stp)]).map Stp.v))]⟩ → k' .next τ' := fun τ' hle => (hk τ' _ (by rw [List.foldl_append, mrun_snoc, List.append_assoc]; rfl) hle).1
    generalize preOf r rest waits spots u ++ mrun r.nm r.ov spots rest (⟨[u], 0, r.ov, w⟩ : TS) dn = sts at *
    generalize dn.foldl (mstep r.ov) (⟨[u], 0, r.ov, w⟩ : TS) = t at *
    refine (av2 (.inl rfl) (.inr rfl)).run _ ?_
    refine wSs_cut (Γ := Unit) (fun _ => ⟨locX r rest spots d (mstep r.ov t m) m, [(d, .lst (sts.map Stp.v))]⟩) (fun _ => True) ?_ (fun _ _ => ?_)
    ·refine wIf (P := m.1 = true) (tp_iff (tp_eq (ev_N rfl) ev_s) (by cases m.1 <;> decide)) (fun hm => ?_) fun hm => ?_
     ·refine sSet (.inl rfl) (ev_sorted bs rfl (ev_addM (f := V.str) (ys := [m.2]) (ev_N rfl) (ev_one (ev_N rfl)) (sz100 (Nat.le_trans (Nat.add_le_add_right htk 1) (by decide)))) (by rw [List.length_append]; exact Nat.lt_of_le_of_lt (Nat.add_le_add_right htk 1) (by decide))) ?_
      refine sIf (P := (r.ov.drop t.done).take 1 = [m.2]) (tp_Cmp (ev_eq (Y := .lst (((r.ov.drop t.done).take 1).map V.str)) (ev_sl (ys := r.ov) (i := t.done) (j := t.done + 1) (ev_N rfl) hov' (ev_N rfl) (ev_Bin (ev_N rfl) ev_i bin_add_int) (Int.natCast_nonneg _) (Int.le_add_one (Int.natCast_nonneg _))) ?_) (ev_one (f := V.str) (ev_N rfl)) (cmp_eq (T := .lst .str) (b := decide ((r.ov.drop t.done).take 1 = [m.2])) (.lst (ht_strs _)) (.lst (ht_strs [m.2])) (by rw [decide_eq_true_eq, V.lst.injEq]; exact map_str_eq.symm)) dec_iff) (fun z => ?_) fun z => ?_
      ·rw [Int.toNat_add (Int.natCast_nonneg _) (by decide), Int.toNat_natCast, Nat.add_sub_cancel_left]; rfl
      ·refine sSwap2 (X := .int ((t.done + 1 : Nat) : Int)) (Y := .int 0) rfl rfl (ev_Tup (evs (ev_Bin (ev_N rfl) ev_i bin_add_int) (evs ev_i evs0)) n2) (wSs_nil (wSs_nil ⟨rfl, (), ?_, trivial⟩))
       have e : mstep r.ov t m = ⟨sortL (t.taken ++ [m.2]), t.done + 1, t.left, 0⟩ := by unfold mstep; rw [if_pos hm, if_pos z]
       rw [e]
       exact le_loc ⟨rfl, rfl, rfl, rfl, rfl, rfl, rfl, rfl, rfl, rfl, rfl, trivial⟩
      ·refine wSs_nil (wSs_nil ⟨rfl, (), ?_, trivial⟩)
       have e : mstep r.ov t m = ⟨sortL (t.taken ++ [m.2]), t.done, t.left, t.w⟩ := by unfold mstep; rw [if_pos hm, if_neg z]
       rw [e]
       exact le_loc ⟨rfl, rfl, rfl, rfl, rfl, rfl, rfl, rfl, rfl, rfl, rfl, trivial⟩
     ·refine sCompF (ls := t.taken) (fun x => x ≠ m.2) inj_str (cok rfl (by decide) (by decide)) (.inl rfl) (ev_N rfl) rfl (sz100 (Nat.le_trans htk (by decide))) ?_ ?_
      ·exact fun C h hh H hH => tI (av_N (.inl rfl)) (tp_ne (ev_N rfl) (ev_N rfl)) (fun _ => ev_N rfl) (ll1 rfl)
      refine sIf (P := t.left.take 1 = [m.2] ∧ m.2 ∈ r.ov.take t.done) (tp_A2 (tp_Cmp (ev_slTo (ys := t.left) (f := V.str) (j := 1) (ev_N rfl) (sz100 (Nat.le_trans hlf (by decide))) ev_i (by decide)) (ev_one (f := V.str) (ev_N rfl)) (cmp_eq (T := .lst .str) (b := decide (t.left.take 1 = [m.2])) (.lst (ht_strs _)) (.lst (ht_strs [m.2])) (by rw [decide_eq_true_eq, V.lst.injEq]; exact map_str_eq.symm)) dec_iff) fun _ => tp_in (ev_N rfl) (ev_eq (ev_slTo (ys := r.ov) (f := V.str) (j := t.done) (ev_N rfl) hov' (ev_N rfl) (Int.natCast_nonneg _)) (by rw [Int.toNat_natCast]))) (fun z => ?_) fun z => ?_
      ·refine sSet (.inl rfl) (ev_slFrom (ys := t.left) (f := V.str) (i := 1) (ev_N rfl) (sz100 (Nat.le_trans hlf (by decide))) ev_i (by decide)) (wSs_nil (wSs_nil ⟨rfl, (), ?_, trivial⟩))
       have e : mstep r.ov t m = ⟨t.taken.filter fun x => decide (x ≠ m.2), t.done, t.left.drop 1, t.w⟩ := by unfold mstep; rw [if_neg hm, if_pos z]
       rw [e]
       exact le_loc ⟨rfl, rfl, rfl, rfl, rfl, rfl, rfl, rfl, rfl, rfl, rfl, trivial⟩
      ·refine wSs_nil (wSs_nil ⟨rfl, (), ?_, trivial⟩)
       have e : mstep r.ov t m = ⟨t.taken.filter fun x => decide (x ≠ m.2), t.done, t.left, t.w⟩ := by unfold mstep; rw [if_neg hm, if_neg z]
       rw [e]
       exact le_loc ⟨rfl, rfl, rfl, rfl, rfl, rfl, rfl, rfl, rfl, rfl, rfl, trivial⟩
    ·have hlf' : (mstep r.ov t m).left.length ≤ sizeLine := sz100 (Nat.le_trans (Nat.le_trans mstep_left hlf) (by decide))
     generalize mstep r.ov t m = t' at *
     have hev : V.tup [.str (if m.1 then "enter" else "leave"), .str m.2] = (mvEv m).v := by unfold mvEv; cases m.1 <;> rfl
     refine sSet (.inl rfl) (ev_N rfl) ?_
     refine sIf (tp_lst (ev_N rfl) hlf') (fun z => ?_) fun z => wSs_nil ?_
     ·refine sSet (X := .lst ((mnow r.nm rest t').map Held.v)) (.inl rfl) (ev_eq (ev_addM (f := Held.v) (xs := [⟨r.nm, t'.left, t'.done, t'.w⟩]) (ys := rest) (ev_one (ev_Tup (evs (ev_N rfl) (evs (ev_N rfl) (evs (ev_N rfl) (evs (ev_N rfl) evs0)))) n4)) (ev_N rfl) hadd) (by unfold mnow; rw [if_pos z]; rfl)) (wSs_nil ?_)
      refine sApp (X := Stp.v ⟨mvEv m, "done", ⟨spots, t'.taken, mnow r.nm rest t'⟩⟩) rfl (ev_Tup (evs (ev_eq (ev_NN rfl rfl) hev) (evs ev_s (evs (ev_Tup (evs (ev_N rfl) (evs (ev_N rfl) (evs (ev_N rfl) evs0))) n3) evs0))) n3) hsl (wSs_nil (hk2 _ ?_))
      rw [List.map_append]
      exact le_loc (l' := locW r rest spots d t') (hp := [(d, .lst (sts.map Stp.v ++ [Stp.v ⟨mvEv m, "done", ⟨spots, t'.taken, mnow r.nm rest t'⟩⟩]))]) ⟨rfl, rfl, rfl, rfl, rfl, rfl, rfl, rfl, rfl, trivial⟩
     ·have e : mnow r.nm rest t' = rest := by unfold mnow; rw [if_neg z]
      refine sApp (X := Stp.v ⟨mvEv m, "done", ⟨spots, t'.taken, mnow r.nm rest t'⟩⟩) rfl (ev_Tup (evs (ev_eq (ev_NN rfl rfl) hev) (evs ev_s (evs (ev_Tup (evs (ev_N rfl) (evs (ev_N rfl) (evs (ev_eq (ev_N rfl) (by rw [e])) evs0))) n3) evs0))) n3) hsl (wSs_nil (hk2 _ ?_))
      rw [List.map_append]
      exact le_loc (l' := locW r rest spots d t') (hp := [(d, .lst (sts.map Stp.v ++ [Stp.v ⟨mvEv m, "done", ⟨spots, t'.taken, mnow r.nm rest t'⟩⟩]))]) ⟨rfl, rfl, rfl, rfl, rfl, rfl, rfl, rfl, rfl, trivial⟩
   ·intro τ hI
    subst hI
    exact wSs_cons (wS_ReturnF ((ev_N rfl).run _ (I34 d _ _ rfl (.head _) rfl (I13 ⟨[], []⟩ le_nil (by rw [hw]; rfl) rfl))))
 refine sIf (tp_bool (ev_N rfl)) (fun hw => ?_) fun hw => ?_
 ·refine sApp (X := Stp.v ⟨.cancel r.nm, "waits", ⟨spots, [u], ⟨r.nm, r.ov, 0, 3⟩ :: rest⟩⟩) rfl (ev_Tup (evs (ev_Tup (evs ev_s (evs (ev_N rfl) evs0)) n2) (evs ev_s (evs (ev_Tup (evs (ev_N rfl) (evs (ev_one (f := V.str) (ev_N rfl)) (evs (ev_addM (f := Held.v) (xs := [⟨r.nm, r.ov, 0, 3⟩]) (ys := rest) (ev_one (ev_Tup (evs (ev_N rfl) (evs (ev_N rfl) (evs ev_i (evs ev_i evs0)))) n4)) (ev_N rfl) hadd) evs0))) n3) evs0))) n3) (Nat.zero_le _) ?_
  refine sApp (X := Stp.v ⟨.tick, "done", ⟨spots, [u], ⟨r.nm, r.ov, 0, 2⟩ :: rest⟩⟩) rfl (ev_Tup (evs (ev_Tup (evs ev_s evs0) n1) (evs ev_s (evs (ev_Tup (evs (ev_N rfl) (evs (ev_one (f := V.str) (ev_N rfl)) (evs (ev_addM (f := Held.v) (xs := [⟨r.nm, r.ov, 0, 2⟩]) (ys := rest) (ev_one (ev_Tup (evs (ev_N rfl) (evs (ev_N rfl) (evs ev_i (evs ev_i evs0)))) n4)) (ev_N rfl) hadd) evs0))) n3) evs0))) n3) (sz10 n1) ?_
  refine sSet (.inl rfl) ev_i (wSs_nil ?_)
  have h := main 2 (by rw [if_pos hw])
  rw [show preOf r rest waits spots u = _ from if_pos hw] at h
  exact h.weak (le_loc ⟨rfl, rfl, rfl, rfl, rfl, rfl, rfl, rfl, rfl, trivial⟩)
 ·refine wSs_nil ?_
  have h := main 0 (by rw [if_neg hw])
  rw [show preOf r rest waits spots u = _ from if_neg hw] at h
  exact h.weak (le_loc ⟨rfl, rfl, rfl, rfl, rfl, rfl, rfl, rfl, rfl, trivial⟩)
end Mine
end
noncomputable section
set_option maxRecDepth 100000
set_option maxHeartbeats 2000000
namespace Mine
open PySem PySem.SeqAt PyProof.Rows
noncomputable def D_lamps : DefD := defD PP.main.body[17]?
theorem k_lamps : DefK D_lamps ["lay", "want"] D_lamps.body where
 body := rfl
 fn := rfl
 co := rfl
 gen := rfl
 bind := by
  intro nm qual pm code doc vs h
  refine E21 (list2 h) fun x y z2 => ?_; subst z2; rfl
 nodup := by decide
 kinds := by decide
 noFree := by decide
theorem compOkIn {scope scope' : Scope} {D : DefD} {qual : Str} {code : Value} {L a C : Addr} (h1 : scope'.kind = .function) (h2 : (scope'.names.map (·.1)).Nodup)
  (h3 : ∀ p ∈ scope'.names, p.2 = .free → scope.names.lookup p.1 = some .free ∧ D.scope.names.lookup p.1 = some .cell) (hfn : D.scope.kind = .function) : CompOk scope' (cenvOf scope (envD D qual code L a) C) :=
 ⟨h1, h2, fun p hp hf => by
  have h4 : (envD D qual code L a).kindOf p.1 = some .cell := (h3 p hp hf).2
  rw [kindOf_cenv hfn, (h3 p hp hf).1]
  simp [h4]⟩
noncomputable def ready1 (lay : Lay) (st : Sta) : List Rt := st.held.flatMap fun h => sel lay.rts (fun r => r.nm = h.nm ∧ h.e + h.w = 0) id
noncomputable def ready2 (lay : Lay) (st : Sta) : List Rt := (ready1 lay st).filter fun r => decide ((r.ov.filter fun s => decide (s ∈ st.occ)) = [])
noncomputable def endsL (lay : Lay) (st : Sta) : List (Str × Str) := tfold (((ready2 lay st).filter fun r => decide ((r.nd.filter fun q => !decide (q ∈ st.pos)) = [])).map fun r => (r.st, r.via)) []
noncomputable def lampOf (E : List (Str × Str)) (g : Str) : Str := if (tget E g).getD "" ∈ E.map (·.1) then "clear" else if g ∈ E.map (·.1) then "caution" else "stop"
noncomputable def lampsL (lay : Lay) (st : Sta) : List (Str × Str) := lay.sigs.map fun q => (q.1, lampOf (endsL lay st) q.1)
theorem tv_in {E : List (Str × Str)} {g : Str} : (dget (tv E) g).isSome = true ↔ g ∈ E.map (·.1) := by rw [tv_get, Option.isSome_map, tget_isSome, decide_eq_true_eq]
theorem nfil1 {α : Type} {l : List α} [Decidable (l = [])] : ¬ l ≠ [] ↔ decide (l = []) = true := by rw [decide_eq_true_eq]; exact Decidable.not_not
theorem spec_lamps {c : Cx} {a : Addr} {n : Nat} {lay : Lay} {st : Sta} (F : IsFn c a D_lamps) (bd : c.mg "dict" = none) (h1 : lay.rts.length ≤ 20) (h2 : st.held.length ≤ 20) (h3 : lay.sigs.length ≤ 20) (h4 : ∀ r ∈ lay.rts, r.ov.length ≤ 20 ∧ r.nd.length ≤ 20) :
  Pure c (n + 1) a [lay.v, st.v] (.lst (prs (lampsL lay st))) := by
 refine call_def F k_lamps rfl fun A qual code L hR => ?_
 conv in D_lamps.body => whnf
 have hm := sel2_len (m := fun _ : Held => lay.rts) (P := fun h r => r.nm = h.nm ∧ h.e + h.w = 0) (y := fun _ r => r) (k := 20) st.held fun _ _ => h1
 have hl1 : (ready1 lay st).length ≤ 400 := Nat.le_trans hm (Nat.mul_le_mul_right 20 h2)
 have hmem : ∀ r ∈ ready1 lay st, r ∈ lay.rts := fun r hr => E12 (List.mem_flatMap.mp hr) fun h _ hr => by
  have e : sel lay.rts (fun r => r.nm = h.nm ∧ h.e + h.w = 0) id = lay.rts.filter _ := sel_filter lay.rts
  have hr' : r ∈ sel lay.rts (fun r => r.nm = h.nm ∧ h.e + h.w = 0) id := hr
  rw [e] at hr'
  exact (List.mem_filter.mp hr').1
 have hl2 : (ready2 lay st).length ≤ 400 := Nat.le_trans (List.length_filter_le _ _) hl1
 have hmem2 : ∀ r ∈ ready2 lay st, r ∈ lay.rts := fun r hr => hmem r (List.mem_filter.mp hr).1
 refine sComp2 (ls := st.held) (fun _ : Held => lay.rts) (fun h r => r.nm = h.nm ∧ h.e + h.w = 0) Rt.v (fun _ r => r) inj_held (cok rfl (by decide) (by decide)) rfl (.inl rfl) (ev_at rfl rfl) rfl (sz900 (Nat.le_trans hl1 (by decide))) ?_ ?_
 ·exact fun C h hh => t2 (P := fun r : Rt => r.nm = h.nm ∧ h.e + h.w = 0) (y := fun r => r) inj_rt (fun H hH => av_N (.inl rfl)) (fun H hH => ev_at rfl rfl) rfl (ll1 rfl) fun r hr H hH =>
   tI (av_N (.inl rfl)) (tp_A2 (tp_eq (ev_at rfl rfl) (ev_at rfl rfl)) fun _ => tp_eqi (ev_Bin (ev_at rfl rfl) (ev_at rfl rfl) bin_add_int) ev_i) (fun _ => ev_N rfl) (ll1 rfl)
 show WSs c A _ ⟨setL _ _ (.lst ((ready1 lay st).map Rt.v)), _⟩ _ _
 refine sCompB (ls := ready1 lay st) (fun r => decide ((r.ov.filter fun s => decide (s ∈ st.occ)) = [])) inj_rt (cok rfl (by decide) (by decide)) (.inl rfl) (ev_N rfl) rfl (sz900 (Nat.le_trans hl1 (by decide))) ?_ ?_
 ·refine fun C r hr H hH => tI (av_N (.inl rfl)) (tp_iff (tp_not (tp_lst (ev_CompF (ls := r.ov) (fun s => s ∈ st.occ) inj_str (compOkIn rfl (by decide) (by decide) rfl) (ev_at rfl rfl) rfl (sz100 (le100 (h4 r (hmem r hr)).1)) ?_) (Nat.le_trans (List.length_filter_le _ _) (sz100 (le100 (h4 r (hmem r hr)).1))))) nfil1) (fun _ => ev_N rfl) (ll1 rfl)
  exact fun C s hs H hH => tI (av_N (.inl rfl)) (tp_in (ev_N rfl) (ev_at rfl rfl)) (fun _ => ev_N rfl) (ll1 rfl)
 show WSs c A _ ⟨setL _ _ (.lst ((ready2 lay st).map Rt.v)), _⟩ _ _
 refine sSet (X := .dct (tv (endsL lay st))) (.inl rfl) (ev_eq (ev_CallB bd rfl (.type _) rfl (evs (ev_eq (Y := .lst (prs (((ready2 lay st).filter fun r => decide ((r.nd.filter fun q => !decide (q ∈ st.pos)) = [])).map fun r => (r.st, r.via)))) (ev_CompB (ls := ready2 lay st) (fun r => decide ((r.nd.filter fun q => !decide (q ∈ st.pos)) = [])) (fun p : Str × Str => V.tup [.str p.1, .str p.2]) (fun r => (r.st, r.via)) inj_rt (cok rfl (by decide) (by decide)) (ev_N rfl) rfl (sz900 (Nat.le_trans hl2 (by decide))) ?_) (by rw [prs_map])) evs0) ((f_dict_pairs (ps := tv (((ready2 lay st).filter fun r => decide ((r.nd.filter fun q => !decide (q ∈ st.pos)) = [])).map fun r => (r.st, r.via))) ?_).frz rfl)) (congrArg V.dct (tv_fold _ []))) ?_
 ·refine fun C r hr H hH => tI (av_N (.inl rfl)) (tp_iff (tp_not (tp_lst (ev_CompB (ls := r.nd) (fun q => !decide (q ∈ st.pos)) (fun p : Str × Str => V.tup [.str p.1, .str p.2]) id inj_pair (compOkIn rfl (by decide) (by decide) rfl) (ev_at rfl rfl) (prs_map r.nd) (sz100 (le100 (h4 r (hmem2 r hr)).2)) ?_) (by rw [List.length_map]; exact Nat.le_trans (List.length_filter_le _ _) (sz100 (le100 (h4 r (hmem2 r hr)).2))))) (by rw [List.map_id]; exact nfil1)) (fun _ => ev_Tup (evs (ev_at rfl rfl) (evs (ev_at rfl rfl) evs0)) n2) (ll1 rfl)
  exact fun C q hq H hH => tI (av_N (.inl rfl)) (tp_Cmp (ev_N rfl) (ev_at rfl rfl) (cmp_notin_prs (p := q.1) (x := q.2)) Iff.rfl) (fun _ => ev_N rfl) (ll1 rfl)
 ·rw [tv, List.length_map, List.length_map]; exact sz900 (Nat.le_trans (Nat.le_trans (List.length_filter_le _ _) hl2) (by decide))
 unfold lampsL
 generalize endsL lay st = E
 refine sLst0 (.inl rfl) fun d => ?_
 refine sFold (ls := lay.sigs) (f := fun p : Str × Str => V.tup [.str p.1, .str p.2]) (ς := [("ends", .dct (tv E)), ("out", .ref d)]) (S := fun dn _ => [(d, .lst (prs (dn.map fun q => (q.1, lampOf E q.1))))]) (ev_at rfl rfl) seq_lst (prs_map _) (le_loc (I03 rfl rfl trivial)) (fun dn q td hdn k' hk => ?_) ?_
 ·have hdl : (prs (dn.map fun q => (q.1, lampOf E q.1))).length ≤ sizeLine := by
   rw [prs_len, List.length_map]
   exact sz100 (le100 (Nat.le_trans (by rw [← hdn, List.length_append]; exact Nat.le_add_right _ _) h3))
  have e : (dn ++ [q]).map (fun q => (q.1, lampOf E q.1)) = dn.map (fun q => (q.1, lampOf E q.1)) ++ [(q.1, lampOf E q.1)] := List.map_append
  rw [e, ← prs_snoc] at hk
  generalize prs (dn.map fun q => (q.1, lampOf E q.1)) = o at *
  have eg : ∀ {ς : List (Str × V)} {η : List (Addr × O)} {p₁ p₂ p₃ p₄ p₅ : Pos} {n₁ : Nat}, ς.lookup ("ends" : Str) = some (.dct (tv E)) → ς.lookup ("g" : Str) = some (.str q.1) → (p₂.endLine == p₅.line) = true → EV c A (envD D_lamps qual code L a) ⟨ς, η⟩ (.Call (.Attribute (.Name "ends" p₁) "get" p₂) [.Name "g" p₃, .Constant (.str "") n₁ p₄] [] p₅) (.str ((tget E q.1).getD "")) := fun h1 h2 h3 =>
   ev_eq (ev_get rfl (ev_N h1) (evs (ev_N h2) (evs ev_s evs0)) rfl h3) (by rw [tv_get]; cases tget E q.1 <;> rfl)
  unfold lampOf at hk
  refine (av2 (.inl rfl) (.inl rfl)).run _ (sSet (.inl rfl) ev_s ?_)
  refine sIf (tp_Cmp (ev_N rfl) (ev_N rfl) cmp_in_dct tv_in) (fun z => ?_) fun z => wSs_nil ?_
  ·refine sSet (.inl rfl) ev_s (wSs_nil ?_)
   refine sIf (tp_Cmp (eg rfl rfl rfl) (ev_N rfl) cmp_in_dct tv_in) (fun w => ?_) fun w => wSs_nil ?_
   ·rw [if_pos w] at hk
    exact sSet (.inl rfl) ev_s (wSs_nil (sApp rfl (ev_NN rfl rfl) hdl (wSs_nil (hk _ (le_loc (I03 rfl rfl trivial))).1)))
   ·rw [if_neg w, if_pos z] at hk
    exact sApp rfl (ev_NN rfl rfl) hdl (wSs_nil (hk _ (le_loc (I03 rfl rfl trivial))).1)
  ·refine sIf (tp_Cmp (eg rfl rfl rfl) (ev_N rfl) cmp_in_dct tv_in) (fun w => ?_) fun w => wSs_nil ?_
   ·rw [if_pos w] at hk
    exact sSet (.inl rfl) ev_s (wSs_nil (sApp rfl (ev_NN rfl rfl) hdl (wSs_nil (hk _ (le_loc (I03 rfl rfl trivial))).1)))
   ·rw [if_neg w, if_neg z] at hk
    exact sApp rfl (ev_NN rfl rfl) hdl (wSs_nil (hk _ (le_loc (I03 rfl rfl trivial))).1)
 ·exact wSs_cons (wS_ReturnF ((ev_N rfl).run _ (I34 d _ _ rfl (.head _) rfl (I13 ⟨[], []⟩ le_nil rfl rfl))))
end Mine
end
noncomputable section
set_option maxRecDepth 100000
set_option maxHeartbeats 2000000
namespace Mine
open PySem PySem.SeqAt PyProof.Rows
noncomputable def D_probe : DefD := defD PP.main.body[18]?
theorem k_probe : DefK D_probe ["lay", "want", "k"] D_probe.body where
 body := rfl
 fn := rfl
 co := rfl
 gen := rfl
 bind := by
  intro nm qual pm code doc vs h
  refine E31 (list3 h) fun x y z z3 => ?_; subst z3; rfl
 nodup := by decide
 kinds := by decide
 noFree := by decide
structure Prb where
 ev : Ev
 told : Str
noncomputable def Prb.v (p : Prb) : V := .tup [p.ev.v, .str p.told]
noncomputable def prbB : List Prb := [⟨.set "X", "unknown"⟩, ⟨.cancel "X", "unknown"⟩, ⟨.enter "p", "unknown"⟩, ⟨.leave "S", "unknown"⟩, ⟨.move "a" "-", "unknown"⟩]
noncomputable def mineOf (held : List Held) (r : Rt) : List Held := held.filter fun h => decide (h.nm = r.nm)
noncomputable def prbH (h : Held) : List Prb := [⟨.set h.nm, "held"⟩] ++ (if h.e ≠ 0 then [⟨.cancel h.nm, "entered"⟩] else []) ++ (if h.w ≠ 0 then [⟨.cancel h.nm, "waiting"⟩] else [])
noncomputable def prbR (held : List Held) (r : Rt) : List Prb := (if ¬ mineOf held r ≠ [] then [⟨.cancel r.nm, "unknown"⟩] else []) ++ (mineOf held r).flatMap prbH
noncomputable def needH (r : Rt) (h : Held) : List Str := if h.left ≠ [] then r.nd.map (·.1) else []
noncomputable def needR (held : List Held) (r : Rt) : List Str := (mineOf held r).flatMap (needH r)
noncomputable def prbP (pos : List (Str × Str)) (taken needed : List Str) (q : Str × Str) : Prb := if q.1 ∈ needed ∨ q.2 ∈ taken then ⟨.move q.1 "-", "locked"⟩ else ⟨.move q.1 ((tget (tfold pos []) q.1).getD ""), "done"⟩
noncomputable def probes (lay : Lay) (st : Sta) : List Prb :=
 prbB ++ lay.rts.flatMap (prbR st.held) ++ lay.pts.map (prbP st.pos st.occ (lay.rts.flatMap (needR st.held))) ++ st.occ.map (fun s => ⟨.enter s, "occupied"⟩) ++ (lay.secs.filter fun s => !decide (s ∈ st.occ)).map (fun s => ⟨.leave s, "free"⟩)
noncomputable def probe (lay : Lay) (st : Sta) (k : Int) : Prb := pick (probes lay st) ⟨.tick, ""⟩ k
theorem prbH_map (h : Held) : (prbH h).map Prb.v = [Prb.v ⟨.set h.nm, "held"⟩] ++ (if h.e ≠ 0 then [Prb.v ⟨.cancel h.nm, "entered"⟩] else []) ++ (if h.w ≠ 0 then [Prb.v ⟨.cancel h.nm, "waiting"⟩] else []) := by
 unfold prbH
 rw [List.map_append, List.map_append]
 congr 1
 ·congr 1; split <;> rfl
 ·split <;> rfl
theorem flat_le {α β : Type} {g : α → List β} {k : Nat} : ∀ (l : List α), (∀ a ∈ l, (g a).length ≤ k) → (l.flatMap g).length ≤ k * l.length
 | [], _ => Nat.le_refl _
 | a :: l, h => by
  rw [List.flatMap_cons, List.length_append, List.length_cons, Nat.mul_succ, Nat.add_comm]
  exact Nat.add_le_add (flat_le l fun b hb => h b (.tail _ hb)) (h a (.head _))
theorem prbH_len (h : Held) : (prbH h).length ≤ 3 := by
 unfold prbH
 rw [List.length_append, List.length_append]
 have h1 : (if h.e ≠ 0 then [(⟨.cancel h.nm, "entered"⟩ : Prb)] else []).length ≤ 1 := by split <;> exact Nat.le_of_ble_eq_true rfl
 have h2 : (if h.w ≠ 0 then [(⟨.cancel h.nm, "waiting"⟩ : Prb)] else []).length ≤ 1 := by split <;> exact Nat.le_of_ble_eq_true rfl
 exact Nat.add_le_add (Nat.add_le_add (Nat.le_refl 1) h1) h2
theorem mine_len {held : List Held} {r : Rt} (h : held.length ≤ 4) : (mineOf held r).length ≤ 4 := Nat.le_trans (List.length_filter_le _ _) h
theorem prbR_len {held : List Held} (h : held.length ≤ 4) (r : Rt) : (prbR held r).length ≤ 13 := by
 unfold prbR
 rw [List.length_append]
 have h1 : (if ¬ mineOf held r ≠ [] then [(⟨.cancel r.nm, "unknown"⟩ : Prb)] else []).length ≤ 1 := by split <;> exact Nat.le_of_ble_eq_true rfl
 have h2 := flat_le (g := prbH) (k := 3) (mineOf held r) fun a _ => prbH_len a
 exact Nat.le_trans (Nat.add_le_add h1 (Nat.le_trans h2 (Nat.mul_le_mul_left 3 (mine_len (r := r) h)))) (by decide)
theorem needR_len {held : List Held} (h : held.length ≤ 4) (r : Rt) (hr : r.nd.length ≤ 20) : (needR held r).length ≤ 80 := by
 unfold needR
 have h2 := flat_le (g := needH r) (k := 20) (mineOf held r) fun a _ => by
  unfold needH
  split
  ·rw [List.length_map]; exact hr
  ·exact Nat.zero_le _
 exact Nat.le_trans h2 (Nat.mul_le_mul_left 20 (mine_len (r := r) h))
section
variable {c : Cx} {A : Around} {env : Env} {ς : List (Str × V)} {η : List (Addr × O)} {p p₁ p₂ p₃ pos spos ipos : Pos} {n : Nat} {X : V} {Xs : List V} {e t : Expr} {es : List Expr} {P : Prop} {x : Str} {rest : List Stmt}
theorem sLstO {k : FV → St → Prop} (hk : env.kindOf x = some .local ∨ env.kindOf x = some .cell) (hes : EVs c A env ⟨ς, η⟩ p es Xs) (hl : Xs.length ≤ 10) (hr : ∀ d, WSs c A env ⟨setL ς x (.ref d), (d, .lst Xs) :: η⟩ rest k)
  (hs : swapsWith (.List es p) (some (.Name x p₁)) pos.line env = pure false := by rfl) (hsw : swappedStores [.Name x p₁] (.List es p) env = pure none := by rfl) (hte : (assignEach [.Name x p₁] env).map (·.2) = [assign (.Name x p₁) env] := by rfl) : WSs c A env ⟨ς, η⟩ (.Assign [.Name x p₁] (.List es p) pos :: rest) k :=
 wSs_cons (wS_Assign (wE_ListO (hes.run _ ⟨sz10 hl, fun d _ => wA_Name hk (hr d)⟩)) hs hsw hte)
theorem sIfApp {k : FV → St → Prop} {d : Addr} {xs : List V} {q : Pos} [Decidable P] (h : TP c A env ⟨ς, (d, .lst xs) :: η⟩ t P) (hx : ς.lookup x = some (.ref d)) (he : EV c A env ⟨ς, (d, .lst xs) :: η⟩ e X) (hl : xs.length ≤ sizeLine) (hr : WSs c A env ⟨ς, (d, .lst (xs ++ if P then [X] else [])) :: η⟩ rest k)
  (hd : (x == ("__debug__" : Str)) = false := by decide) (hn' : (x == ("__classdict__" : Str)) = false := by decide) (hbase : attributeBase (.Name x p) "append" env (eval (.Name x p) env) = eval (.Name x p) env := by rfl) (hline : (q.endLine == pos.line) = true := by rfl)
  (hfew : ((backTo pos (starEach [e] env)).all (fun x => !x.1) && (backToKw pos (keywordEach [] env)).all (fun x => x.1.isSome) && decide ([e].length + ([] : List Keyword).length + (if ([] : List Keyword).isEmpty then 0 else 1) < 30)) = true := by rfl)
  (hes : starEach [e] env = (false, eval e env) :: starEach [] env := by rfl) (hplain : (backTo pos (starEach [e] env)).any (·.1) = false := by rfl) (hs : swapsWith (.Call (.Attribute (.Name x p) "append" q) [e] [] pos) none spos.line env = pure false := by rfl) :
  WSs c A env ⟨ς, (d, .lst xs) :: η⟩ (.If t [.Expr (.Call (.Attribute (.Name x p) "append" q) [e] [] pos) spos] [] ipos :: rest) k :=
 sIf h (fun z => sApp hx he hl (wSs_nil (by rw [if_pos z] at hr; exact hr)) hd hn' hbase hline hfew hes hplain hs) fun z => wSs_nil (by rw [if_neg z, List.append_nil] at hr; exact hr)
end
noncomputable def locP (lay : Lay) (st : Sta) (k : Int) (d : Addr) (nd : List Str) : List (Str × V) :=
 [("lay", lay.v), ("k", .int k), ("spots", .lst (prs st.pos)), ("taken", .lst (st.occ.map .str)), ("held", .lst (st.held.map Held.v)), ("out", .ref d), ("needed", .lst (nd.map .str))]
noncomputable def locQ (lay : Lay) (st : Sta) (k : Int) (d : Addr) (nd : List Str) (r : Rt) (mine : List Held) : List (Str × V) :=
 [("lay", lay.v), ("k", .int k), ("spots", .lst (prs st.pos)), ("taken", .lst (st.occ.map .str)), ("held", .lst (st.held.map Held.v)), ("out", .ref d), ("needed", .lst (nd.map .str)), ("r", r.v), ("mine", .lst (mine.map Held.v))]
theorem spec_probe {c : Cx} {a : Addr} {n : Nat} {lay : Lay} {st : Sta} {k : Int} (F : IsFn c a D_probe) (bd : c.mg "dict" = none) (bl : c.mg "len" = none) (h1 : lay.rts.length ≤ 3) (h2 : st.held.length ≤ 4) (h3 : lay.pts.length ≤ 4) (h4 : ∀ r ∈ lay.rts, r.nd.length ≤ 20) (h5 : st.pos.length ≤ 20) (h6 : st.occ.length ≤ 20) (h7 : lay.secs.length ≤ 20)
  (h8 : ∀ q ∈ lay.pts, (tget (tfold st.pos []) q.1).isSome = true) (h9 : ∀ h ∈ st.held, h.left.length ≤ 20) : Pure c (n + 1) a [lay.v, st.v, .int k] (probe lay st k).v := by
 refine pure_def F k_probe rfl fun A qual code L hR => ?_
 conv in D_probe.body => whnf
 refine sUnp (X := .tup [.lst (prs st.pos), .lst (st.occ.map .str), .lst (st.held.map Held.v)]) (ev_N rfl) (av3 (.inl rfl) (.inr rfl) (.inl rfl)) ?_
 refine sLstO (.inl rfl) (evs (ev_Tup (evs (ev_Tup (evs ev_s (evs ev_s evs0)) n2) (evs ev_s evs0)) n2) (evs (ev_Tup (evs (ev_Tup (evs ev_s (evs ev_s evs0)) n2) (evs ev_s evs0)) n2) (evs (ev_Tup (evs (ev_Tup (evs ev_s (evs ev_s evs0)) n2) (evs ev_s evs0)) n2) (evs (ev_Tup (evs (ev_Tup (evs ev_s (evs ev_s evs0)) n2) (evs ev_s evs0)) n2) (evs (ev_Tup (evs (ev_Tup (evs ev_s (evs ev_s (evs ev_s evs0))) n3) (evs ev_s evs0)) n2) evs0))))) n5 fun d => ?_
 refine sSet (X := .lst (([] : List Str).map .str)) (.inl rfl) (ev_Lst evs0 n0) ?_
 refine sFoldG (ls := lay.rts) (f := Rt.v) (I := fun dn _ τ => τ = ⟨locP lay st k d (dn.flatMap (needR st.held)), [(d, .lst ((prbB ++ dn.flatMap (prbR st.held)).map Prb.v))]⟩) (ev_at rfl rfl) seq_lst rfl (τ₀ := ⟨locP lay st k d [], [(d, .lst (prbB.map Prb.v))]⟩) (le_loc ⟨rfl, rfl, rfl, rfl, rfl, rfl, rfl, trivial⟩) (by rw [List.flatMap_nil, List.flatMap_nil, List.append_nil]) ?_ ?_
 ·intro dn r td τ hdn hI k' hk
  subst hI
  have hdl : dn.length < 3 := Nat.lt_of_lt_of_le (by rw [← hdn, List.length_append, List.length_cons]; exact Nat.lt_add_of_pos_right (Nat.succ_pos _)) h1
  have hr : r ∈ lay.rts := hdn ▸ List.mem_append_right _ (.head _)
  have ho : (prbB ++ dn.flatMap (prbR st.held)).length ≤ 31 := by
   rw [List.length_append]
   exact Nat.le_trans (Nat.add_le_add_left (Nat.le_trans (flat_le (g := prbR st.held) (k := 13) dn fun a _ => prbR_len h2 a) (Nat.mul_le_mul_left 13 (Nat.le_of_lt_succ hdl))) prbB.length) (Nat.le_of_ble_eq_true rfl)
  have hn : (dn.flatMap (needR st.held)).length ≤ 160 := by
   exact Nat.le_trans (flat_le (g := needR st.held) (k := 80) dn fun a ha => needR_len h2 a (h4 a (hdn ▸ List.mem_append_left _ ha))) (Nat.mul_le_mul_left 80 (Nat.le_of_lt_succ hdl))
  have hk2 : ∀ τ', St.le τ' ⟨locP lay st k d (dn.flatMap (needR st.held) ++ needR st.held r), [(d, .lst ((prbB ++ dn.flatMap (prbR st.held) ++ prbR st.held r).map Prb.v))]⟩ → k' .next τ' := fun τ' hle => (hk τ' _ (by rw [List.flatMap_append, List.flatMap_append, List.flatMap_cons, List.flatMap_cons, List.flatMap_nil, List.flatMap_nil, List.append_nil, List.append_nil, List.append_assoc]) hle).1
  clear hk
  generalize prbB ++ dn.flatMap (prbR st.held) = o at *
  generalize dn.flatMap (needR st.held) = nd at *
  have hml := mine_len (r := r) h2
  have hsz : st.held.length ≤ sizeLine := sz100 (Nat.le_trans h2 (by decide))
  refine (av_N (.inr rfl)).run _ ?_
  refine sCompF (ls := st.held) (f := Held.v) (fun h => h.nm = r.nm) inj_held (cok rfl (by decide) (by decide)) (.inl rfl) (ev_N rfl) rfl hsz ?_ ?_
  ·exact fun C h hh H hH => tI (av_N (.inl rfl)) (tp_eq (ev_at rfl rfl) (ev_at rfl rfl)) (fun _ => ev_N rfl) (ll1 rfl)
  show WSs c A _ ⟨setL _ _ (.lst ((mineOf st.held r).map Held.v)), _⟩ _ _
  have hmz : (mineOf st.held r).length ≤ sizeLine := sz100 (Nat.le_trans hml (by decide))
  have hmm : ∀ h ∈ mineOf st.held r, h.left.length ≤ 20 := fun h hh => h9 h (List.mem_filter.mp hh).1
  unfold prbR needR at hk2
  generalize mineOf st.held r = mine at *
  refine sIfApp (P := ¬ mine ≠ []) (X := Prb.v ⟨.cancel r.nm, "unknown"⟩) (tp_not (tp_lst (ev_N rfl) hmz)) rfl (ev_Tup (evs (ev_Tup (evs ev_s (evs (ev_at rfl rfl) evs0)) n2) (evs ev_s evs0)) n2) (by rw [List.length_map]; exact sz100 (Nat.le_trans ho (by decide))) ?_
  have he : o.map Prb.v ++ (if ¬ mine ≠ [] then [Prb.v ⟨.cancel r.nm, "unknown"⟩] else []) = (o ++ if ¬ mine ≠ [] then [(⟨.cancel r.nm, "unknown"⟩ : Prb)] else []).map Prb.v := by
   rw [List.map_append]; congr 1; split <;> rfl
  rw [he]
  have ho1 : (o ++ if ¬ mine ≠ [] then [(⟨.cancel r.nm, "unknown"⟩ : Prb)] else []).length ≤ 32 := by
   rw [List.length_append]
   refine Nat.add_le_add (d := 1) ho ?_
   split <;> exact Nat.le_of_ble_eq_true rfl
  rw [← List.append_assoc] at hk2
  generalize (o ++ if ¬ mine ≠ [] then [(⟨.cancel r.nm, "unknown"⟩ : Prb)] else []) = o1 at *
  clear he ho
  refine sFoldG (ls := mine) (f := Held.v) (I := fun dn _ τ => τ = ⟨locQ lay st k d (nd ++ dn.flatMap (needH r)) r mine, [(d, .lst ((o1 ++ dn.flatMap prbH).map Prb.v))]⟩) (ev_N rfl) seq_lst rfl (τ₀ := ⟨locQ lay st k d nd r mine, [(d, .lst (o1.map Prb.v))]⟩) (le_loc ⟨rfl, rfl, rfl, rfl, rfl, rfl, rfl, rfl, rfl, trivial⟩) (by rw [List.flatMap_nil, List.append_nil, List.flatMap_nil, List.append_nil]) ?_ ?_
  ·intro dn h td τ hdn hI k' hk
   subst hI
   have hdl : dn.length < 4 := Nat.lt_of_lt_of_le (by rw [← hdn, List.length_append, List.length_cons]; exact Nat.lt_add_of_pos_right (Nat.succ_pos _)) hml
   have ho : (o1 ++ dn.flatMap prbH).length ≤ 50 := by
    rw [List.length_append]
    exact Nat.le_trans (Nat.add_le_add ho1 (Nat.le_trans (flat_le (g := prbH) (k := 3) dn fun a _ => prbH_len a) (Nat.mul_le_mul_left 3 (Nat.le_of_lt_succ hdl)))) (by decide)
   have hnd : (nd ++ dn.flatMap (needH r)).length ≤ 300 := by
    rw [List.length_append]
    have h4r := h4 r hr
    have h5 := flat_le (g := needH r) (k := 20) dn fun a _ => by
     unfold needH
     split
     ·rw [List.length_map]; exact h4r
     ·exact Nat.zero_le _
    exact Nat.le_trans (Nat.add_le_add hn (Nat.le_trans h5 (Nat.mul_le_mul_left 20 (Nat.le_of_lt_succ hdl)))) (by decide)
   have hk3 : ∀ τ', St.le τ' ⟨locQ lay st k d (nd ++ dn.flatMap (needH r) ++ needH r h) r mine, [(d, .lst ((o1 ++ dn.flatMap prbH).map Prb.v ++ [Prb.v ⟨.set h.nm, "held"⟩] ++ (if h.e ≠ 0 then [Prb.v ⟨.cancel h.nm, "entered"⟩] else []) ++ (if h.w ≠ 0 then [Prb.v ⟨.cancel h.nm, "waiting"⟩] else [])))]⟩ → k' .next τ' := fun τ' hle => (hk τ' _ (by
    rw [List.flatMap_append, List.flatMap_append, List.flatMap_cons, List.flatMap_cons, List.flatMap_nil, List.flatMap_nil, List.append_nil, List.append_nil, ← List.append_assoc, ← List.append_assoc, List.map_append (l₂ := prbH h), prbH_map, ← List.append_assoc, ← List.append_assoc]) hle).1
   clear hk
   have hoz : ((o1 ++ dn.flatMap prbH).map Prb.v).length ≤ 50 := by rw [List.length_map]; exact ho
   generalize (o1 ++ dn.flatMap prbH).map Prb.v = o2 at *
   generalize nd ++ dn.flatMap (needH r) = nd2 at *
   have hif : ∀ {P : Prop} [Decidable P] {X : V}, (if P then [X] else []).length ≤ 1 := by
    intro P _ X; split <;> exact Nat.le_of_ble_eq_true rfl
   refine (av4 (.inl rfl) (.inl rfl) (.inl rfl) (.inl rfl)).run _ ?_
   refine sApp (X := Prb.v ⟨.set h.nm, "held"⟩) rfl (ev_Tup (evs (ev_Tup (evs ev_s (evs (ev_N rfl) evs0)) n2) (evs ev_s evs0)) n2) (sz100 (Nat.le_trans hoz (by decide))) ?_
   refine sIfApp (P := h.e ≠ 0) (X := Prb.v ⟨.cancel h.nm, "entered"⟩) (tp_int (ev_N rfl)) rfl (ev_Tup (evs (ev_Tup (evs ev_s (evs (ev_N rfl) evs0)) n2) (evs ev_s evs0)) n2) (by rw [List.length_append]; exact sz100 (Nat.le_trans (Nat.add_le_add_right hoz 1) (by decide))) ?_
   refine sIfApp (P := h.w ≠ 0) (X := Prb.v ⟨.cancel h.nm, "waiting"⟩) (tp_int (ev_N rfl)) rfl (ev_Tup (evs (ev_Tup (evs ev_s (evs (ev_N rfl) evs0)) n2) (evs ev_s evs0)) n2) (by rw [List.length_append, List.length_append]; exact sz100 (Nat.le_trans (Nat.add_le_add (Nat.add_le_add_right hoz 1) hif) (by decide))) ?_
   generalize o2 ++ [Prb.v ⟨.set h.nm, "held"⟩] ++ (if h.e ≠ 0 then [Prb.v ⟨.cancel h.nm, "entered"⟩] else []) ++ (if h.w ≠ 0 then [Prb.v ⟨.cancel h.nm, "waiting"⟩] else []) = o3 at *
   unfold needH at hk3
   have hlf : h.left.length ≤ sizeLine := sz100 (le100 (hmm h (hdn ▸ List.mem_append_right _ (.head _))))
   refine sIf (tp_lst (f := V.str) (xs := h.left) (ev_N rfl) hlf) (fun z => ?_) fun z => ?_
   ·rw [if_pos z] at hk3
    refine sSet (X := .lst ((nd2 ++ r.nd.map (·.1)).map V.str)) (.inl rfl) (ev_addM (f := V.str) (xs := nd2) (ys := r.nd.map (·.1)) (ev_N rfl) (ev_CompY (ls := r.nd) (f := fun p : Str × Str => V.tup [.str p.1, .str p.2]) V.str (·.1) inj_pair (cok rfl (by decide) (by decide)) (ev_at rfl rfl) (prs_map r.nd) (sz100 (le100 (h4 r hr))) ?_) (by rw [List.length_map]; exact sz900 (Nat.le_trans (Nat.add_le_add hnd (h4 r hr)) (by decide)))) ?_
    ·exact fun C x hx H hH => tM (av_N (.inl rfl)) (ev_at rfl rfl) (ll1 rfl)
    exact wSs_nil (wSs_nil (hk3 _ (le_loc ⟨rfl, rfl, rfl, rfl, rfl, rfl, rfl, rfl, rfl, trivial⟩)))
   ·rw [if_neg z, List.append_nil] at hk3
    exact wSs_nil (wSs_nil (hk3 _ (le_loc ⟨rfl, rfl, rfl, rfl, rfl, rfl, rfl, rfl, rfl, trivial⟩)))
  intro τ hI
  subst hI
  exact wSs_nil (hk2 _ (le_loc ⟨rfl, rfl, rfl, rfl, rfl, rfl, rfl, trivial⟩))
 intro τ hI
 subst hI
 have ho : (prbB ++ lay.rts.flatMap (prbR st.held)).length ≤ 44 := by
  rw [List.length_append]
  exact Nat.le_trans (Nat.add_le_add_left (Nat.le_trans (flat_le (g := prbR st.held) (k := 13) lay.rts fun a _ => prbR_len h2 a) (Nat.mul_le_mul_left 13 h1)) prbB.length) (Nat.le_of_ble_eq_true rfl)
 have hpos : 0 < (prbB ++ lay.rts.flatMap (prbR st.held)).length := Nat.zero_lt_succ _
 unfold probe probes
 generalize prbB ++ lay.rts.flatMap (prbR st.held) = o at *
 generalize lay.rts.flatMap (needR st.held) = nd at *
 refine sFoldG (ls := lay.pts) (f := fun p : Str × Str => V.tup [.str p.1, .str p.2]) (I := fun dn _ τ => τ = ⟨locP lay st k d nd, [(d, .lst ((o ++ dn.map (prbP st.pos st.occ nd)).map Prb.v))]⟩) (ev_at rfl rfl) seq_lst (prs_map _) (τ₀ := ⟨locP lay st k d nd, [(d, .lst (o.map Prb.v))]⟩) (St.le.refl _) (by rw [List.map_nil, List.append_nil]) ?_ ?_
 ·intro dn q td τ hdn hI k' hk
  subst hI
  have hq : q ∈ lay.pts := hdn ▸ List.mem_append_right _ (.head _)
  have hdl : dn.length ≤ 4 := Nat.le_trans (by rw [← hdn, List.length_append]; exact Nat.le_add_right _ _) h3
  have hoz : ((o ++ dn.map (prbP st.pos st.occ nd)).map Prb.v).length ≤ sizeLine := by
   rw [List.length_map, List.length_append, List.length_map]; exact sz100 (Nat.le_trans (Nat.add_le_add ho hdl) (by decide))
  have hk2 : ∀ τ', St.le τ' ⟨locP lay st k d nd, [(d, .lst ((o ++ dn.map (prbP st.pos st.occ nd)).map Prb.v ++ [Prb.v (prbP st.pos st.occ nd q)]))]⟩ → k' .next τ' := fun τ' hle => (hk τ' _ (by rw [List.map_append (l₂ := [q]), ← List.append_assoc, List.map_append (l₂ := List.map _ [q])]; rfl) hle).1
  clear hk
  generalize (o ++ dn.map (prbP st.pos st.occ nd)).map Prb.v = o2 at *
  unfold prbP at hk2
  refine (av2 (.inl rfl) (.inl rfl)).run _ (sIf (P := q.1 ∈ nd ∨ q.2 ∈ st.occ) (tp_O2 (tp_in (ev_N rfl) (ev_N rfl)) fun _ => tp_in (ev_N rfl) (ev_N rfl)) (fun z => ?_) fun z => ?_)
  ·rw [if_pos z] at hk2
   exact sApp rfl (ev_Tup (evs (ev_Tup (evs ev_s (evs (ev_N rfl) (evs ev_s evs0))) n3) (evs ev_s evs0)) n2) hoz (wSs_nil (wSs_nil (hk2 _ (le_loc ⟨rfl, rfl, rfl, rfl, rfl, rfl, rfl, trivial⟩))))
  ·rw [if_neg z] at hk2
   obtain ⟨v, hv⟩ := Option.isSome_iff_exists.mp (h8 q hq)
   rw [hv] at hk2
   exact sApp rfl (ev_Tup (evs (ev_Tup (evs ev_s (evs (ev_N rfl) (evs (ev_Sub (ev_CallB bd rfl (.type _) rfl (evs (ev_N rfl) evs0) ((f_dict_pairs (ps := tv st.pos) (by rw [tv, List.length_map]; exact sz100 (le100 h5))).frz rfl)) (ev_N rfl) (item_dct (dgetS hv))) evs0))) n3) (evs ev_s evs0)) n2) hoz (wSs_nil (wSs_nil (hk2 _ (le_loc ⟨rfl, rfl, rfl, rfl, rfl, rfl, rfl, trivial⟩))))
 intro τ hI
 subst hI
 have ho2 : (o ++ lay.pts.map (prbP st.pos st.occ nd)).length ≤ 48 := by
  rw [List.length_append, List.length_map]; exact Nat.add_le_add ho h3
 replace hpos : 0 < (o ++ lay.pts.map (prbP st.pos st.occ nd)).length := by rw [List.length_append]; exact Nat.lt_of_lt_of_le hpos (Nat.le_add_right _ _)
 generalize o ++ lay.pts.map (prbP st.pos st.occ nd) = o2 at *
 refine sFrz (pre := []) (x := "out") (d := d) rfl rfl ?_
 refine sSet (.inl rfl) (ev_addM (f := Prb.v) (xs := o2) (ev_N rfl) (ev_CompY (ls := st.occ) Prb.v (fun s => ⟨.enter s, "occupied"⟩) inj_str (cok rfl (by decide) (by decide)) (ev_N rfl) rfl (sz100 (le100 h6)) ?_) (by rw [List.length_map]; exact sz100 (Nat.le_trans (Nat.add_le_add ho2 h6) (by decide)))) ?_
 ·exact fun C s hs H hH => tM (av_N (.inl rfl)) (ev_Tup (evs (ev_Tup (evs ev_s (evs (ev_N rfl) evs0)) n2) (evs ev_s evs0)) n2) (ll1 rfl)
 have ho3 : (o2 ++ st.occ.map fun s => (⟨.enter s, "occupied"⟩ : Prb)).length ≤ 68 := by rw [List.length_append, List.length_map]; exact Nat.add_le_add ho2 h6
 replace hpos : 0 < (o2 ++ st.occ.map fun s => (⟨.enter s, "occupied"⟩ : Prb)).length := by rw [List.length_append]; exact Nat.lt_of_lt_of_le hpos (Nat.le_add_right _ _)
 generalize (o2 ++ st.occ.map fun s => (⟨.enter s, "occupied"⟩ : Prb)) = o3 at *
 have hsl : (lay.secs.filter fun s => !decide (s ∈ st.occ)).length ≤ 20 := Nat.le_trans (List.length_filter_le _ _) h7
 refine sSet (.inl rfl) (ev_addM (f := Prb.v) (xs := o3) (ev_N rfl) (ev_CompB (ls := lay.secs) (fun s => !decide (s ∈ st.occ)) Prb.v (fun s => ⟨.leave s, "free"⟩) inj_str (cok rfl (by decide) (by decide)) (ev_at rfl rfl) rfl (sz100 (le100 h7)) ?_) (by rw [List.length_map]; exact sz100 (Nat.le_trans (Nat.add_le_add ho3 hsl) (by decide)))) ?_
 ·exact fun C s hs H hH => tI (av_N (.inl rfl)) (tp_iff (tp_ni (ev_N rfl) (ev_N rfl)) ndec_iff.symm) (fun _ => ev_Tup (evs (ev_Tup (evs ev_s (evs (ev_N rfl) evs0)) n2) (evs ev_s evs0)) n2) (ll1 rfl)
 have ho4 : (o3 ++ (lay.secs.filter fun s => !decide (s ∈ st.occ)).map fun s => (⟨.leave s, "free"⟩ : Prb)).length ≤ 88 := by rw [List.length_append, List.length_map]; exact Nat.add_le_add ho3 hsl
 have ho5 : 0 < (o3 ++ (lay.secs.filter fun s => !decide (s ∈ st.occ)).map fun s => (⟨.leave s, "free"⟩ : Prb)).length := by
  rw [List.length_append]; exact Nat.lt_of_lt_of_le hpos (Nat.le_add_right _ _)
 generalize (o3 ++ (lay.secs.filter fun s => !decide (s ∈ st.occ)).map fun s => (⟨.leave s, "free"⟩ : Prb)) = o4 at *
 exact sRet (ev_Sub (ev_N rfl) (ev_Bin (ev_N rfl) (ev_CallB bl rfl (.blt _) rfl (evs (ev_N rfl) evs0) (b_len_lst (by rw [List.length_map]; exact sz100 (Nat.le_trans ho4 (by decide))))) (bin_mod_int (by rw [List.length_map]; exact Int.ofNat_ne_zero.mpr (Nat.ne_of_gt ho5)))) (item_pickL o4 ⟨.tick, ""⟩ Prb.v (by rw [List.length_map]) ho5 (Nat.lt_of_le_of_lt ho4 (by decide))))
end Mine
end
noncomputable section
namespace Mine
open PySem PySem.Spec PyProof.Rows
noncomputable def findR (lay : Lay) (nm : Str) : Rt := (lay.rts.find? fun r => decide (r.nm = nm)).getD ⟨"", "", [], [], ""⟩
noncomputable def knOf (lay : Lay) : Kn := ⟨findR lay, fun nm => decide (nm ∈ lay.rts.map Rt.nm), fun p => (tget lay.pts p).getD "", fun g => (tget lay.sigs g).getD ""⟩
structure LH (lay : Lay) : Prop where
 rnd : (lay.rts.map Rt.nm).Nodup
 pnd : (lay.pts.map (·.1)).Nodup
 snd : (lay.sigs.map (·.1)).Nodup
 ov : ∀ r ∈ lay.rts, r.ov.Nodup ∧ r.ov.length ≤ 3 ∧ ∀ s ∈ r.ov, s ∈ lay.secs
 ndl : ∀ r ∈ lay.rts, r.nd.length ≤ 20
 ndp : ∀ r ∈ lay.rts, ∀ q ∈ r.nd, q.1 ∈ lay.pts.map (·.1)
 st : ∀ r ∈ lay.rts, r.st ∈ lay.sigs.map (·.1) ∧ r.st ≠ ""
 rl : lay.rts.length ≤ 3
 pl : lay.pts.length ≤ 4
 sl : lay.sigs.length ≤ 20
 scl : lay.secs.length ≤ 20
 nX : ("X" : Str) ∉ lay.rts.map Rt.nm
 np : ("p" : Str) ∉ lay.secs
 nS : ("S" : Str) ∉ lay.secs
 na : ("a" : Str) ∉ lay.pts.map (·.1)
structure HInv (lay : Lay) (held : List Held) : Prop where
 heldl : held.length ≤ 4
 names : (held.map Held.nm).Nodup
 known : ∀ h ∈ held, h.nm ∈ lay.rts.map Rt.nm
 sub : ∀ h ∈ held, h.left.length ≤ 3 ∧ ∀ s ∈ h.left, s ∈ (findR lay h.nm).ov
 e0 : ∀ h ∈ held, 0 ≤ h.e ∧ 0 ≤ h.w ∧ (h.e ≠ 0 → h.w = 0)
 sts : (held.map fun h => (findR lay h.nm).st).Nodup
structure SInv (lay : Lay) (st : Sta) : Prop where
 pos : st.pos.map (·.1) = lay.pts.map (·.1)
 srt : sortedS st.occ = true
 ond : st.occ.Nodup
 occl : st.occ.length ≤ 20
 osub : ∀ s ∈ st.occ, s ∈ lay.secs
 held : HInv lay st.held
theorem findR_mem {lay : Lay} {nm : Str} (h : nm ∈ lay.rts.map Rt.nm) : findR lay nm ∈ lay.rts ∧ (findR lay nm).nm = nm := by
 refine E12 (List.mem_map.mp h) fun r hr z2 => ?_; subst z2
 have h1 : (lay.rts.find? fun q => decide (q.nm = r.nm)).isSome := List.find?_isSome.mpr (I12 r hr (decide_eq_true rfl))
 obtain ⟨q, hq⟩ := Option.isSome_iff_exists.mp h1
 have e : findR lay r.nm = q := by unfold findR; rw [hq]; rfl
 rw [e]
 exact ⟨List.mem_of_find?_eq_some hq, by have := List.find?_some hq; simpa using this⟩
theorem nodup_inj {α β : Type} {f : α → β} {l : List α} (h : (l.map f).Nodup) {a b : α} (ha : a ∈ l) (hb : b ∈ l) (e : f a = f b) : a = b := by
 induction l with
 | nil => cases ha
 | cons x l ih =>
  rw [List.map_cons, List.nodup_cons] at h
  rcases List.mem_cons.mp ha with h1 | h1 <;> rcases List.mem_cons.mp hb with h2 | h2
  ·rw [h1, h2]
  ·exact absurd (by rw [← h1, e]; exact List.mem_map_of_mem (f := f) h2) h.1
  ·exact absurd (by rw [← h2, ← e]; exact List.mem_map_of_mem (f := f) h1) h.1
  ·exact ih h.2 h1 h2
theorem LH.find {lay : Lay} (L : LH lay) {r : Rt} (hr : r ∈ lay.rts) : findR lay r.nm = r := by
 have h := findR_mem (List.mem_map_of_mem (f := Rt.nm) hr)
 exact nodup_inj L.rnd h.1 hr h.2
theorem rsOf_new : ∀ (rts : List Rt) (es : List (Str × V)), (es.map (·.1) ++ rts.map Rt.nm).Nodup → rsOf rts es = es ++ rts.map fun r => (r.nm, r.v)
 | [], es, _ => by simp [rsOf]
 | r :: rts, es, h => by
  show rsOf rts (dset es r.nm r.v) = _
  have h1 : r.nm ∉ es.map (·.1) := by
   rw [List.nodup_append] at h
   intro h2
   exact h.2.2 _ h2 r.nm (by simp) rfl
  have hn : dget es r.nm = none := by
   unfold dget
   rw [Option.map_eq_none_iff, List.find?_eq_none]
   intro e he h2
   exact h1 ((of_decide_eq_true h2) ▸ List.mem_map_of_mem (f := (·.1)) he)
  rw [dset_new hn, rsOf_new rts]
  ·simp
  ·simpa using h
theorem dget_rts (rts : List Rt) (nm : Str) : dget (rts.map fun r => (r.nm, r.v)) nm = (rts.find? fun r => decide (r.nm = nm)).map Rt.v := by
 unfold dget
 rw [List.find?_map, Option.map_map]
 rfl
section
variable {lay : Lay} {st : Sta}
theorem findR_cases (lay : Lay) (nm : Str) : (nm ∈ lay.rts.map Rt.nm ∧ findR lay nm ∈ lay.rts) ∨ (nm ∉ lay.rts.map Rt.nm ∧ findR lay nm = ⟨"", "", [], [], ""⟩) := by
 by_cases h : nm ∈ lay.rts.map Rt.nm
 ·exact .inl ⟨h, (findR_mem h).1⟩
 ·refine .inr ⟨h, ?_⟩
  unfold findR
  have : lay.rts.find? (fun r => decide (r.nm = nm)) = none := by
   rw [List.find?_eq_none]
   intro r hr e
   exact h ((of_decide_eq_true e) ▸ List.mem_map_of_mem hr)
  rw [this]; rfl
theorem layOk_of (L : LH lay) : LayOk lay (knOf lay) where
 rts := Nat.le_trans L.rl (by decide)
 pts := Nat.le_trans L.pl (by decide)
 sigs := Nat.le_trans L.sl (by decide)
 get := fun nm => by
  rw [rsOf_new lay.rts [] (by simpa using L.rnd), List.nil_append, dget_rts]
  show _ = if decide (nm ∈ lay.rts.map Rt.nm) = true then some (findR lay nm).v else none
  by_cases h : nm ∈ lay.rts.map Rt.nm
  ·rw [if_pos (decide_eq_true h)]
   have hR := findR_mem h
   have hs : (lay.rts.find? fun r => decide (r.nm = nm)).isSome := List.find?_isSome.mpr (I12 _ (hR.1) (decide_eq_true hR.2))
   obtain ⟨q, hq⟩ := Option.isSome_iff_exists.mp hs
   have e : findR lay nm = q := by unfold findR; rw [hq]; rfl
   rw [hq, e]; rfl
  ·rw [if_neg (by simpa using h)]
   have : lay.rts.find? (fun r => decide (r.nm = nm)) = none := by
    rw [List.find?_eq_none]
    intro r hr e
    exact h ((of_decide_eq_true e) ▸ List.mem_map_of_mem hr)
   rw [this]; rfl
 rt := fun nm => by
  show RtOk (findR lay nm)
  rcases findR_cases lay nm with ⟨_, h⟩ | ⟨_, h⟩
  ·exact ⟨Nat.le_trans (L.ov _ h).2.1 (by decide), Nat.le_trans (L.ndl _ h) (by decide)⟩
  ·rw [h]; exact ⟨Nat.zero_le _, Nat.zero_le _⟩
 hm := fun p hp => by
  rw [tfold_self L.pnd]
  obtain ⟨v, hv⟩ := tget_some hp
  show _ = some ((tget lay.pts p).getD "")
  rw [hv]; rfl
 sg := fun nm hk => by
  rw [tfold_self L.snd]
  have hk : nm ∈ lay.rts.map Rt.nm := of_decide_eq_true hk
  obtain ⟨v, hv⟩ := tget_some (L.st _ (findR_mem hk).1).1
  show tget lay.sigs (findR lay nm).st = some ((tget lay.sigs (findR lay nm).st).getD "")
  rw [hv]; rfl
 nd := fun nm q hq => by
  have hq : q ∈ (findR lay nm).nd := hq
  rcases findR_cases lay nm with ⟨_, h⟩ | ⟨_, h⟩
  ·exact L.ndp _ h q hq
  ·rw [h] at hq; cases hq
theorem SInv.posnd (L : LH lay) (I : SInv lay st) : (st.pos.map (·.1)).Nodup := I.pos ▸ L.pnd
theorem staOk_of (L : LH lay) (I : SInv lay st) : StaOk lay (knOf lay) st where
 pos := fun p => by rw [tfold_self (I.posnd L), tget_isSome, I.pos]
 posl := by have h := congrArg List.length I.pos; rw [List.length_map, List.length_map] at h; rw [h]; exact Nat.le_trans L.pl (by decide)
 occl := Nat.le_trans I.occl (by decide)
 heldl := Nat.le_trans I.held.heldl (by decide)
 names := I.held.names
 known := fun h hh => decide_eq_true (I.held.known h hh)
 left := fun h hh => Nat.le_trans (I.held.sub h hh).1 (by decide)
 e0 := fun h hh => (I.held.e0 h hh).1
 sub := fun h hh => (I.held.sub h hh).2
noncomputable def lockH (lay : Lay) (occ : List Str) (held : List Held) (p : Str) : Bool := decide ((tget lay.pts p).getD "" ∈ occ) || held.any fun h => !h.left.isEmpty && decide (p ∈ (findR lay h.nm).nd.map (·.1))
noncomputable def setH (lay : Lay) (st : Sta) (nm : Str) : Str :=
 if nm ∉ lay.rts.map Rt.nm then "unknown" else if (st.held.any fun h => decide (h.nm = nm)) = true then "held" else if ((findR lay nm).ov.any fun s => decide (s ∈ st.occ)) = true then "occupied"
 else if (st.held.any fun h => clashB (findR lay nm) (findR lay h.nm)) = true then "conflict" else if ((findR lay nm).nd.any fun q => !decide (tget st.pos q.1 = some q.2) && lockH lay st.occ st.held q.1) = true then "locked" else "done"
noncomputable def entH (lay : Lay) (s : Str) (h : Held) : Held := if (findR lay h.nm).ov[h.e.toNat]? = some s then { h with e := h.e + 1, w := 0 } else h
noncomputable def leaveH (lay : Lay) (s : Str) (h : Held) : List Held :=
 match h.left with
 | [] => [h]
 | x :: l => if x = s ∧ s ∈ (findR lay h.nm).ov.take h.e.toNat then (if l = [] then [] else [{ h with left := l }]) else [h]
noncomputable def tickH (h : Held) : List Held := if h.w = 0 then [h] else if h.w - 1 = 0 then [] else [{ h with w := h.w - 1 }]
noncomputable def cancelH (lay : Lay) (st : Sta) (nm : Str) : Sta × Str :=
 match st.held.find? (fun h => decide (h.nm = nm)) with
 | none => (st, "unknown")
 | some h => if h.e ≠ 0 then (st, "entered") else if h.w ≠ 0 then (st, "waiting") else if (tget lay.sigs (findR lay nm).st).getD "" ∈ st.occ then (⟨st.pos, st.occ, st.held.map fun h => if h.nm = nm then { h with w := 3 } else h⟩, "waits") else (⟨st.pos, st.occ, st.held.filter fun h => decide (h.nm ≠ nm)⟩, "done")
noncomputable def stepH (lay : Lay) (st : Sta) : Ev → Sta × Str
 | .set nm => if setH lay st nm = "done" then (⟨tfold (findR lay nm).nd st.pos, st.occ, st.held ++ [⟨nm, (findR lay nm).ov, 0, 0⟩]⟩, "done") else (st, setH lay st nm)
 | .cancel nm => cancelH lay st nm
 | .tick => (⟨st.pos, st.occ, st.held.flatMap tickH⟩, "done")
 | .enter s => if s ∈ lay.secs then (if s ∈ st.occ then (st, "occupied") else (⟨st.pos, sortL (st.occ ++ [s]), st.held.map (entH lay s)⟩, "done")) else (st, "unknown")
 | .leave s => if s ∈ lay.secs then (if s ∈ st.occ then (⟨st.pos, st.occ.filter fun x => decide (x ≠ s), st.held.flatMap (leaveH lay s)⟩, "done") else (st, "free")) else (st, "unknown")
 | .move p x => if p ∈ lay.pts.map (·.1) then (if lockH lay st.occ st.held p = true then (st, "locked") else (⟨tset st.pos p x, st.occ, st.held⟩, "done")) else (st, "unknown")
noncomputable def Does (lay : Lay) (st : Sta) (ev : Ev) (st' : Sta) (ans : Str) : Prop := ∀ X, ActPost (knOf lay) lay st ev X → X = .tup [st'.v, .str ans]
theorem lock_eq {rows : List Row} {occ : List Str} {p : Str} : lockB (findR lay) occ ((tget lay.pts p).getD "") p rows = lockH lay occ (rows.map Row.held) p := by
 unfold lockB lockH
 rw [List.any_map]; rfl
theorem setF_eq {rows : List Row} {pos : List (Str × Str)} {occ : List Str} {nm : Str} : setF (findR lay) (decide (nm ∈ lay.rts.map Rt.nm)) (fun p => (tget lay.pts p).getD "") pos occ rows nm = (setH lay ⟨pos, occ, rows.map Row.held⟩ nm, if setH lay ⟨pos, occ, rows.map Row.held⟩ nm = "done" then tfold (findR lay nm).nd pos else pos) := by
 unfold setF setH
 simp only [lock_eq, List.any_map]
 by_cases h1 : nm ∈ lay.rts.map Rt.nm
 ·rw [if_neg (by rw [decide_eq_true h1]; exact Bool.noConfusion), if_neg (not_not_intro h1)]
  by_cases h2 : (rows.any fun r => decide (r.nm = nm)) = true
  ·rw [if_pos h2, if_pos (show (rows.any ((fun h : Held => decide (h.nm = nm)) ∘ Row.held)) = true from h2)]; rfl
  rw [if_neg h2, if_neg (show ¬ (rows.any ((fun h : Held => decide (h.nm = nm)) ∘ Row.held)) = true from h2)]
  by_cases h3 : ((findR lay nm).ov.any fun s => decide (s ∈ occ)) = true
  ·rw [if_pos h3, if_pos h3]; rfl
  rw [if_neg h3, if_neg h3]
  by_cases h4 : (rows.any fun r => clashB (findR lay nm) (findR lay r.nm)) = true
  ·rw [if_pos h4, if_pos (show (rows.any ((fun h : Held => clashB (findR lay nm) (findR lay h.nm)) ∘ Row.held)) = true from h4)]; rfl
  rw [if_neg h4, if_neg (show ¬ (rows.any ((fun h : Held => clashB (findR lay nm) (findR lay h.nm)) ∘ Row.held)) = true from h4)]
  by_cases h5 : ((findR lay nm).nd.any fun q => !decide (tget pos q.1 = some q.2) && lockH lay occ (rows.map Row.held) q.1) = true
  ·rw [if_pos h5, if_pos h5]; rfl
  ·rw [if_neg h5, if_neg h5]; rfl
 ·rw [if_pos (decide_eq_false h1), if_pos h1]; rfl
theorem sta_mk {P p : List (Str × Str)} {S o : List Str} {H h : List Held} {t t' : Str} {R : Sta × Str} (e1 : P = p) (e2 : S = o) (e3 : H = h) (e4 : t = t') (e : R = (⟨p, o, h⟩, t')) : (Sta.mk P S H, t) = R := by
 subst e1; subst e2; subst e3; subst e4; exact e.symm
theorem ent_held {rows : List Row} {s : Str} : (rows.map (entR (findR lay) s)).map Row.held = (rows.map Row.held).map (entH lay s) := by
 rw [List.map_map, List.map_map]
 refine List.map_congr_left fun r _ => ?_
 show Row.held (if (findR lay r.nm).ov[r.e.toNat]? = some s then _ else _) = if (findR lay r.nm).ov[r.e.toNat]? = some s then _ else _
 split <;> rfl
theorem leave_held {rows : List Row} {s : Str} : (rows.flatMap (leaveR (findR lay) s)).map Row.held = (rows.map Row.held).flatMap (leaveH lay s) := by
 rw [List.map_flatMap, List.flatMap_map]
 congr 1
 funext r
 obtain ⟨nm, a, b, left, e, w⟩ := r
 cases left with
 | nil => rfl
 | cons x l =>
  show (if x = s ∧ s ∈ (findR lay nm).ov.take e.toNat then (if l = [] then [] else [_]) else [_] : List Row).map Row.held = if x = s ∧ s ∈ (findR lay nm).ov.take e.toNat then (if l = [] then [] else [_]) else [_]
  split
  ·split <;> rfl
  ·rfl
theorem tick_held {rows : List Row} : (rows.flatMap tickR).map Row.held = (rows.map Row.held).flatMap tickH := by
 rw [List.map_flatMap, List.flatMap_map]
 congr 1
 funext r
 show (if r.w = 0 then [r] else if r.w - 1 = 0 then [] else [_] : List Row).map Row.held = if r.w = 0 then _ else if r.w - 1 = 0 then _ else _
 split
 ·rfl
 ·split <;> rfl
theorem cancel_held {pos : List (Str × Str)} {occ : List Str} {rows : List Row} {nm : Str} : (Sta.mk pos occ ((cancelF occ rows nm ((tget lay.sigs (findR lay nm).st).getD "")).2.map Row.held), (cancelF occ rows nm ((tget lay.sigs (findR lay nm).st).getD "")).1) = cancelH lay ⟨pos, occ, rows.map Row.held⟩ nm := by
 unfold cancelH cancelF
 have hf : (rows.map Row.held).find? (fun h => decide (h.nm = nm)) = (rows.find? fun r => decide (r.nm = nm)).map Row.held := by rw [List.find?_map]; rfl
 dsimp only
 rw [hf]
 cases rows.find? (fun r => decide (r.nm = nm)) with
 | none => rfl
 | some r =>
  dsimp only [Option.map_some]
  show _ = if r.e ≠ 0 then _ else if r.w ≠ 0 then _ else _
  by_cases h1 : r.e ≠ 0
  ·rw [if_pos h1, if_pos h1]
  rw [if_neg h1, if_neg h1]
  by_cases h2 : r.w ≠ 0
  ·rw [if_pos h2, if_pos h2]
  rw [if_neg h2, if_neg h2]
  generalize (tget lay.sigs (findR lay nm).st).getD "" = g
  by_cases h3 : g ∈ occ
  ·rw [if_pos h3, if_pos h3]
   refine sta_mk rfl rfl ?_ rfl rfl
   rw [List.map_map, List.map_map]
   refine List.map_congr_left fun q _ => ?_
   show Row.held (if q.nm = nm then _ else _) = if q.nm = nm then _ else _
   split <;> rfl
  ·rw [if_neg h3, if_neg h3]
   refine sta_mk rfl rfl ?_ rfl rfl
   rw [List.filter_map]; rfl
theorem does_step (L : LH lay) (I : SInv lay st) (ev : Ev) : Does lay st ev (stepH lay st ev).1 (stepH lay st ev).2 := by
 intro X hX
 refine E65 hX fun rows told pos' occ' rows' ss hrows T hp hs z => ?_
 clear hX
 refine z.trans (congrArg (fun q : Sta × Str => V.tup [q.1.v, .str q.2]) (?_ : (Sta.mk (lay.pts.map fun q => (q.1, (tget pos' q.1).getD "")) ss (rows'.map Row.held), told) = stepH lay st ev))
 clear z
 rw [tfold_self (I.posnd L), sof_self I.ond] at T
 obtain ⟨pos, occ, held⟩ := st
 have hrows : rows.map Row.held = held := hrows
 subst hrows
 have hpos : pos.map (·.1) = lay.pts.map (·.1) := I.pos
 have hsrt : sortedS occ = true := I.srt
 have po := pos_out hpos L.pnd
 clear I
 have pe : ∀ {p : List (Str × Str)}, pos' = p → p.map (·.1) = lay.pts.map (·.1) → (lay.pts.map fun q => (q.1, (tget pos' q.1).getD "")) = p := fun e h => by subst e; exact pos_out h L.pnd
 have oe : ∀ {o : List Str}, occ' = o → sortedS o = true → ss = o := fun e h => srt_unique (e ▸ hp) hs h
 cases ev with
 | set nm =>
  refine E04 T fun z0 z1 z2 hr => ?_; clear T
  have e := setF_eq (lay := lay) (rows := rows) (pos := pos) (occ := occ) (nm := nm)
  have z0 := Eq.trans z0 (congrArg Prod.fst e)
  have z1 := Eq.trans z1 (congrArg Prod.snd e)
  have hr : rows'.map Row.held = rows.map Row.held ++ (if (setF (findR lay) (decide (nm ∈ lay.rts.map Rt.nm)) (fun p => (tget lay.pts p).getD "") pos occ rows nm).1 = "done" then [⟨nm, (findR lay nm).ov, 0, 0⟩] else []) := hr
  rw [congrArg Prod.fst e] at hr
  clear e
  dsimp only at z0 z1 hr
  generalize hd : setH lay ⟨pos, occ, rows.map Row.held⟩ nm = d at *
  have hst : stepH lay ⟨pos, occ, rows.map Row.held⟩ (.set nm) = (if d = "done" then (⟨tfold (findR lay nm).nd pos, occ, rows.map Row.held ++ [⟨nm, (findR lay nm).ov, 0, 0⟩]⟩, "done") else (⟨pos, occ, rows.map Row.held⟩, d) : Sta × Str) := by rw [← hd]; rfl
  by_cases h : d = "done"
  ·rw [if_pos h] at z1 hr hst
   exact sta_mk (pe z1 (by rw [tfold_names _ (fun q hq => by rw [hpos]; exact (layOk_of L).nd nm q hq), hpos])) (oe z2 hsrt) hr (z0.trans h) hst
  ·rw [if_neg h] at z1 hr hst
   exact sta_mk (pe z1 hpos) (oe z2 hsrt) (hr.trans (List.append_nil _)) z0 hst
 | cancel nm =>
  refine E04 T fun z0 z1 z2 z3 => ?_; clear T
  exact sta_mk (pe z1 hpos) (oe z2 hsrt) (congrArg (List.map Row.held) z3) z0 cancel_held.symm
 | tick =>
  refine E04 T fun z0 z1 z2 z3 => ?_; clear T
  exact sta_mk (pe z1 hpos) (oe z2 hsrt) ((congrArg (List.map Row.held) z3).trans tick_held) z0 rfl
 | enter s =>
  refine E04 T fun z0 z1 z2 z3 => ?_; clear T
  have fin : ∀ {t : Str} {o : List Str} {r : List Row} {R : Sta × Str}, enterF (findR lay) lay.secs occ rows s = (t, o, r) → ss = o → R = (⟨pos, o, r.map Row.held⟩, t) → (Sta.mk (lay.pts.map fun q => (q.1, (tget pos' q.1).getD "")) ss (rows'.map Row.held), told) = R := fun e h1 h2 =>
   sta_mk (pe z1 hpos) h1 (congrArg (List.map Row.held) (Eq.trans z3 (congrArg (fun q => q.2.2) e))) (Eq.trans z0 (congrArg (fun q => q.1) e)) h2
  have z2 : occ' = (enterF (findR lay) lay.secs occ rows s).2.1 := z2
  by_cases h1 : s ∈ lay.secs
  ·by_cases h2 : s ∈ occ
   ·have eF := (if_pos h1 : enterF (findR lay) lay.secs occ rows s = _).trans (if_pos h2)
    exact fin eF (oe (z2.trans (congrArg (fun q => q.2.1) eF)) hsrt) ((if_pos h1).trans (if_pos h2))
   ·have eF := (if_pos h1 : enterF (findR lay) lay.secs occ rows s = _).trans (if_neg h2)
    have ho : sadd occ s = occ ++ [s] := if_neg h2
    refine sta_mk (pe z1 hpos) (sortL_eq ((z2.trans ((congrArg (fun q => q.2.1) eF).trans ho)) ▸ hp) hs) ((congrArg (List.map Row.held) (Eq.trans z3 (congrArg (fun q => q.2.2) eF))).trans ent_held) (Eq.trans z0 (congrArg (fun q => q.1) eF)) ((if_pos h1).trans (if_neg h2))
  ·have eF := (if_neg h1 : enterF (findR lay) lay.secs occ rows s = _)
   exact fin eF (oe (z2.trans (congrArg (fun q => q.2.1) eF)) hsrt) (if_neg h1)
 | leave s =>
  refine E04 T fun z0 z1 z2 z3 => ?_; clear T
  have fin : ∀ {t : Str} {o : List Str} {r : List Row} {R : Sta × Str}, leaveF (findR lay) lay.secs occ rows s = (t, o, r) → sortedS o = true → R = (⟨pos, o, r.map Row.held⟩, t) → (Sta.mk (lay.pts.map fun q => (q.1, (tget pos' q.1).getD "")) ss (rows'.map Row.held), told) = R := fun e h1 h2 =>
   sta_mk (pe z1 hpos) (oe (Eq.trans z2 (congrArg (fun q => q.2.1) e)) h1) (congrArg (List.map Row.held) (Eq.trans z3 (congrArg (fun q => q.2.2) e))) (Eq.trans z0 (congrArg (fun q => q.1) e)) h2
  by_cases h1 : s ∈ lay.secs
  ·by_cases h2 : s ∈ occ
   ·exact fin ((if_pos h1).trans (if_pos h2)) (srt_filter _ hsrt) (((if_pos h1).trans (if_pos h2)).trans (by rw [leave_held]))
   ·exact fin ((if_pos h1).trans (if_neg h2)) hsrt ((if_pos h1).trans (if_neg h2))
  ·exact fin (if_neg h1) hsrt (if_neg h1)
 | move p x =>
  refine E04 T fun z0 z1 z2 z3 => ?_; clear T
  have fin : ∀ {t : Str} {q : List (Str × Str)} {R : Sta × Str}, moveF (findR lay) pos occ rows ((tget lay.pts p).getD "") p x = (t, q) → q.map (·.1) = lay.pts.map (·.1) → R = (⟨q, occ, rows.map Row.held⟩, t) → (Sta.mk (lay.pts.map fun q => (q.1, (tget pos' q.1).getD "")) ss (rows'.map Row.held), told) = R := fun e h1 h2 =>
   sta_mk (pe (Eq.trans z1 (congrArg Prod.snd e)) h1) (oe z2 hsrt) (congrArg (List.map Row.held) z3) (Eq.trans z0 (congrArg Prod.fst e)) h2
  have hsm : (tget pos p).isSome = decide (p ∈ lay.pts.map (·.1)) := by rw [tget_isSome, hpos]
  have hlk := lock_eq (lay := lay) (rows := rows) (occ := occ) (p := p)
  by_cases h1 : p ∈ lay.pts.map (·.1)
  ·have h1' : (tget pos p).isSome = true := hsm.trans (decide_eq_true h1)
   by_cases h2 : lockH lay occ (rows.map Row.held) p = true
   ·exact fin ((if_pos h1').trans (if_pos (hlk.trans h2))) hpos ((if_pos h1).trans (if_pos h2))
   ·exact fin ((if_pos h1').trans (if_neg fun z => h2 (hlk.symm.trans z))) (by rw [tset_names (by rw [hpos]; exact h1), hpos]) ((if_pos h1).trans (if_neg h2))
  ·exact fin (if_neg fun z => h1 (of_decide_eq_true (hsm.symm.trans z))) hpos (if_neg h1)
end
end Mine
end
noncomputable section
namespace Mine
open PySem PySem.Spec PyProof.Rows
section
variable {lay : Lay} {st : Sta}
theorem find_held {held : List Held} (hnd : (held.map Held.nm).Nodup) {h : Held} (hh : h ∈ held) : held.find? (fun g => decide (g.nm = h.nm)) = some h := by
 have h1 : (held.find? fun g => decide (g.nm = h.nm)).isSome := List.find?_isSome.mpr (I12 h hh (decide_eq_true rfl))
 obtain ⟨g, hg⟩ := Option.isSome_iff_exists.mp h1
 have e : g.nm = h.nm := by have := List.find?_some hg; simpa using this
 rw [hg, nodup_inj hnd (List.mem_of_find?_eq_some hg) hh e]
theorem find_none {held : List Held} {nm : Str} (h : ∀ g ∈ held, g.nm ≠ nm) : held.find? (fun g => decide (g.nm = nm)) = none := by
 rw [List.find?_eq_none]
 intro g hg e
 exact h g hg (of_decide_eq_true e)
theorem lock_iff {occ : List Str} {held : List Held} {p : Str} : lockH lay occ held p = true ↔ (tget lay.pts p).getD "" ∈ occ ∨ ∃ h ∈ held, h.left ≠ [] ∧ p ∈ (findR lay h.nm).nd.map (·.1) := by
 unfold lockH
 rw [Bool.or_eq_true, decide_eq_true_eq, List.any_eq_true]
 refine or_congr Iff.rfl ?_
 constructor
 ·refine R12 fun h hh e => ?_
  rw [Bool.and_eq_true, decide_eq_true_eq] at e
  refine I12 h hh ⟨fun z => ?_, e.2⟩
  rw [z] at e; exact Bool.noConfusion e.1
 ·refine R13 fun h hh e1 e2 => ?_
  refine I12 h hh ?_
  rw [Bool.and_eq_true, decide_eq_true_eq]
  refine ⟨?_, e2⟩
  cases hl : h.left with
  | nil => exact absurd hl e1
  | cons => rfl
theorem need_iff (L : LH lay) (I : SInv lay st) {p : Str} : p ∈ lay.rts.flatMap (needR st.held) ↔ ∃ h ∈ st.held, h.left ≠ [] ∧ p ∈ (findR lay h.nm).nd.map (·.1) := by
 rw [List.mem_flatMap]
 constructor
 ·refine R12 fun r hr hp => ?_
  unfold needR mineOf at hp
  refine E12 (List.mem_flatMap.mp hp) fun h hh hp => ?_
  obtain ⟨hh, e⟩ := List.mem_filter.mp hh
  have e : h.nm = r.nm := of_decide_eq_true e
  unfold needH at hp
  split at hp
  ·rename_i hl
   exact I13 h hh hl (by rw [e, L.find hr]; exact hp)
  ·cases hp
 ·refine R13 fun h hh hl hp => ?_
  have hR := findR_mem (I.held.known h hh)
  refine I12 _ hR.1 ?_
  unfold needR mineOf
  refine List.mem_flatMap.mpr (I12 h (List.mem_filter.mpr ⟨hh, decide_eq_true hR.2.symm⟩) ?_)
  unfold needH
  rw [if_pos hl]; exact hp
theorem tset_same {l : List (Str × Str)} {k v : Str} (hnd : (l.map (·.1)).Nodup) (h : tget l k = some v) : tset l k v = l := by
 have hm := (tget_mem hnd).mp h
 unfold tset
 rw [if_pos (List.any_eq_true.mpr (I12 (k, v) hm (decide_eq_true rfl)))]
 have : ∀ e ∈ l, (if e.1 = k then (e.1, v) else e) = e := by
  intro e he
  split
  ·rename_i h1
   have := nodup_inj hnd he hm h1
   rw [this]
  ·rfl
 rw [List.map_congr_left this, List.map_id']
theorem probe_ok (L : LH lay) (I : SInv lay st) : ∀ pr ∈ probes lay st, stepH lay st pr.ev = (st, pr.told) := by
 intro pr hpr
 unfold probes at hpr
 rcases List.mem_append.mp hpr with hpr | hpr
 rcases List.mem_append.mp hpr with hpr | hpr
 rcases List.mem_append.mp hpr with hpr | hpr
 rcases List.mem_append.mp hpr with hpr | hpr
 ·-- unknown names
  unfold prbB at hpr
  rcases List.mem_cons.mp hpr with rfl | hpr
  ·have e : setH lay st "X" = "unknown" := by unfold setH; rw [if_pos L.nX]
   show (if setH lay st "X" = "done" then _ else _) = _
   rw [e, if_neg (by decide)]
  rcases List.mem_cons.mp hpr with rfl | hpr
  ·show cancelH lay st "X" = _
   unfold cancelH
   rw [find_none (nm := "X") fun g hg e => L.nX (by rw [← e]; exact I.held.known g hg)]
  rcases List.mem_cons.mp hpr with rfl | hpr
  ·show (if ("p" : Str) ∈ lay.secs then _ else _) = _
   rw [if_neg L.np]
  rcases List.mem_cons.mp hpr with rfl | hpr
  ·show (if ("S" : Str) ∈ lay.secs then _ else _) = _
   rw [if_neg L.nS]
  rcases List.mem_cons.mp hpr with rfl | hpr
  ·show (if ("a" : Str) ∈ lay.pts.map (·.1) then _ else _) = _
   rw [if_neg L.na]
  cases hpr
 ·-- the routes
  refine E12 (List.mem_flatMap.mp hpr) fun r hr hpr => ?_
  unfold prbR at hpr
  rcases List.mem_append.mp hpr with hpr | hpr
  ·split at hpr
   ·rename_i hm
    rw [List.mem_singleton.mp hpr]
    show cancelH lay st r.nm = _
    unfold cancelH
    rw [find_none (nm := r.nm) fun g hg e => hm fun z => by
     have : g ∈ mineOf st.held r := List.mem_filter.mpr ⟨hg, decide_eq_true e⟩
     rw [z] at this; cases this]
   ·cases hpr
  ·refine E12 (List.mem_flatMap.mp hpr) fun h hh hpr => ?_
   obtain ⟨hh, _⟩ := List.mem_filter.mp hh
   unfold prbH at hpr
   have hf := find_held I.held.names hh
   have hes := I.held.e0 h hh
   rcases List.mem_append.mp hpr with hpr | hpr
   rcases List.mem_append.mp hpr with hpr | hpr
   ·rw [List.mem_singleton.mp hpr]
    have e : setH lay st h.nm = "held" := by
     unfold setH
     rw [if_neg (not_not_intro (I.held.known h hh)), if_pos (List.any_eq_true.mpr (I12 h hh (decide_eq_true rfl)))]
    show (if setH lay st h.nm = "done" then _ else _) = _
    rw [e, if_neg (by decide)]
   ·split at hpr
    ·rename_i he
     rw [List.mem_singleton.mp hpr]
     show cancelH lay st h.nm = _
     unfold cancelH
     rw [hf]
     dsimp only
     rw [if_pos he]
    ·cases hpr
   ·split at hpr
    ·rename_i hw
     rw [List.mem_singleton.mp hpr]
     show cancelH lay st h.nm = _
     unfold cancelH
     rw [hf]
     dsimp only
     rw [if_neg (fun z => hw (hes.2.2 z)), if_pos hw]
    ·cases hpr
 ·-- the points
  refine E12 (List.mem_map.mp hpr) fun q hq z => ?_
  subst z
  have hq1 : q.1 ∈ lay.pts.map (·.1) := List.mem_map_of_mem (f := (·.1)) hq
  have hv : (tget lay.pts q.1).getD "" = q.2 := by rw [(tget_mem L.pnd (k := q.1) (v := q.2)).mpr hq]; rfl
  have hlk : lockH lay st.occ st.held q.1 = true ↔ (q.1 ∈ lay.rts.flatMap (needR st.held) ∨ q.2 ∈ st.occ) := by
   rw [lock_iff, hv, need_iff L I]; exact or_comm
  unfold prbP
  split
  ·rename_i hl
   show (if q.1 ∈ lay.pts.map (·.1) then (if lockH lay st.occ st.held q.1 = true then _ else _) else _) = _
   rw [if_pos hq1, if_pos (hlk.mpr hl)]
  ·rename_i hl
   show (if q.1 ∈ lay.pts.map (·.1) then (if lockH lay st.occ st.held q.1 = true then _ else _) else _) = _
   rw [if_pos hq1, if_neg (fun z => hl (hlk.mp z)), tfold_self (I.posnd L)]
   obtain ⟨v, hv⟩ := tget_some (l := st.pos) (k := q.1) (by rw [I.pos]; exact hq1)
   rw [hv]
   show (Sta.mk (tset st.pos q.1 v) st.occ st.held, _) = _
   rw [tset_same (I.posnd L) hv]
 ·-- taken sections
  refine E12 (List.mem_map.mp hpr) fun s hs z => ?_
  subst z
  show (if s ∈ lay.secs then (if s ∈ st.occ then _ else _) else _) = _
  rw [if_pos (I.osub s hs), if_pos hs]
 ·-- free sections
  refine E12 (List.mem_map.mp hpr) fun s hs z => ?_
  subst z
  obtain ⟨h1, h2⟩ := List.mem_filter.mp hs
  have h2 : s ∉ st.occ := by simpa using h2
  show (if s ∈ lay.secs then (if s ∈ st.occ then _ else _) else _) = _
  rw [if_pos h1, if_neg h2]
noncomputable def goodB (lay : Lay) (st : Sta) (h : Held) : Bool := decide (h.e = 0) && decide (h.w = 0) && !((findR lay h.nm).ov.any fun s => decide (s ∈ st.occ)) && ((findR lay h.nm).nd.all fun q => decide (tget st.pos q.1 = some q.2))
theorem go_fold (pos : List (Str × Str)) (occ : List Str) (hp : pos = st.pos) (ho : occ = st.occ) : ∀ (l : List Held) (acc : List (Str × Rt)), (acc.map (·.1) ++ l.map fun h => (findR lay h.nm).st).Nodup →
  l.foldl (goStep (knOf lay) pos occ) acc = acc ++ (l.filter (goodB lay st)).map fun h => ((findR lay h.nm).st, findR lay h.nm)
 | [], acc, _ => by simp
 | h :: l, acc, hnd => by
  subst hp ho
  rw [List.foldl_cons]
  have h1 : (findR lay h.nm).st ∉ acc.map (·.1) := by
   rw [List.nodup_append] at hnd
   intro h2
   exact hnd.2.2 _ h2 _ (List.mem_map_of_mem (.head _)) rfl
  have h2 : (acc.map (·.1) ++ l.map fun h => (findR lay h.nm).st).Nodup := hnd.sublist ((List.Sublist.refl _).append (by rw [List.map_cons]; exact List.sublist_cons_self _ _))
  have hstep : goStep (knOf lay) st.pos st.occ acc h = if goodB lay st h = true then acc ++ [((findR lay h.nm).st, findR lay h.nm)] else acc := by
   unfold goStep goodB
   show (if h.e ≠ 0 ∨ h.w ≠ 0 then acc else if ((findR lay h.nm).ov.any fun s => decide (s ∈ st.occ)) = true then acc else if (((findR lay h.nm).nd.all fun q => decide (tget st.pos q.1 = some q.2)) && !decide ((findR lay h.nm).st ∈ acc.map (·.1))) = true then acc ++ [((findR lay h.nm).st, findR lay h.nm)] else acc) = _
   rw [decide_eq_false h1]
   by_cases e1 : h.e = 0
   ·by_cases e2 : h.w = 0
    ·rw [if_neg (by simp [e1, e2]), decide_eq_true e1, decide_eq_true e2]
     cases ((findR lay h.nm).ov.any fun s => decide (s ∈ st.occ)) with
     | true => rfl
     | false => cases ((findR lay h.nm).nd.all fun q => decide (tget st.pos q.1 = some q.2)) <;> rfl
    ·rw [if_pos (.inr e2), decide_eq_false e2]; simp
   ·rw [if_pos (.inl e1), decide_eq_false e1]; simp
  rw [hstep, List.filter_cons]
  by_cases hg : goodB lay st h = true
  ·rw [if_pos hg, if_pos hg, go_fold st.pos st.occ rfl rfl l]
   ·simp
   ·simp only [List.map_append, List.map_cons, List.map_nil, List.append_assoc, List.cons_append, List.nil_append]
    exact hnd
  ·rw [if_neg hg, if_neg hg, go_fold st.pos st.occ rfl rfl l _ h2]
theorem sel_one (L : LH lay) {nm : Str} (hk : nm ∈ lay.rts.map Rt.nm) {Q : Prop} [Decidable Q] : sel lay.rts (fun r => r.nm = nm ∧ Q) id = if Q then [findR lay nm] else [] := by
 have hR := findR_mem hk
 have h1 : ∀ (l : List Rt), (l.map Rt.nm).Nodup → findR lay nm ∈ l → sel l (fun r => r.nm = nm ∧ Q) id = if Q then [findR lay nm] else [] := by
  intro l
  induction l with
  | nil => intro _ h; cases h
  | cons x l ih =>
   intro hnd hm
   rw [List.map_cons, List.nodup_cons] at hnd
   show (if x.nm = nm ∧ Q then [x] else []) ++ sel l (fun r => r.nm = nm ∧ Q) id = _
   by_cases hx : x = findR lay nm
   ·have h0 : sel l (fun r => r.nm = nm ∧ Q) id = [] := by
     unfold sel
     rw [List.flatMap_eq_nil_iff]
     intro y hy
     rw [if_neg]
     rintro ⟨e, _⟩
     apply hnd.1
     rw [hx, hR.2, ← e]
     exact List.mem_map_of_mem hy
    rw [h0, List.append_nil, hx]
    by_cases hq : Q
    ·rw [if_pos ⟨hR.2, hq⟩, if_pos hq]
    ·rw [if_neg (fun z => hq z.2), if_neg hq]
   ·have hm' : findR lay nm ∈ l := (List.mem_cons.mp hm).resolve_left fun z => hx z.symm
    rw [if_neg, List.nil_append, ih hnd.2 hm']
    rintro ⟨e, _⟩
    apply hnd.1
    rw [e, ← hR.2]
    exact List.mem_map_of_mem hm'
 exact h1 lay.rts L.rnd hR.1
theorem ends_eq (L : LH lay) (I : SInv lay st) : endsL lay st = (st.held.filter (goodB lay st)).map fun h => ((findR lay h.nm).st, (findR lay h.nm).via) := by
 have key : (((ready2 lay st).filter fun r => decide ((r.nd.filter fun q => !decide (q ∈ st.pos)) = [])).map fun r => (r.st, r.via)) = (st.held.filter (goodB lay st)).map fun h => ((findR lay h.nm).st, (findR lay h.nm).via) := by
  unfold ready2 ready1
  have hk := I.held.known
  have he := I.held.e0
  generalize st.held = l at *
  induction l with
  | nil => rfl
  | cons h l ih =>
   have ih := ih (fun g hg => hk g (.tail _ hg)) fun g hg => he g (.tail _ hg)
   have he := he h (.head _)
   rw [List.flatMap_cons, List.filter_append, List.filter_append, List.map_append, ih, List.filter_cons, sel_one L (hk h (.head _))]
   have hg : goodB lay st h = true ↔ (h.e + h.w = 0 ∧ ((findR lay h.nm).ov.filter fun s => decide (s ∈ st.occ)) = [] ∧ ((findR lay h.nm).nd.filter fun q => !decide (q ∈ st.pos)) = []) := by
    unfold goodB
    rw [Bool.and_eq_true, Bool.and_eq_true, Bool.and_eq_true, decide_eq_true_eq, decide_eq_true_eq, Bool.not_eq_true', List.any_eq_false, List.all_eq_true, List.filter_eq_nil_iff, List.filter_eq_nil_iff, and_assoc]
    have e : (∀ x ∈ (findR lay h.nm).nd, decide (tget st.pos x.1 = some x.2) = true) ↔ ∀ a ∈ (findR lay h.nm).nd, ¬ (!decide (a ∈ st.pos)) = true := by
     refine forall_congr' fun q => forall_congr' fun hq => ?_
     rw [decide_eq_true_eq, tget_mem (I.posnd L)]
     simp
    rw [e]
    refine and_congr ⟨fun z => by omega, fun z => by omega⟩ Iff.rfl
   by_cases h1 : h.e + h.w = 0
   ·rw [if_pos h1, List.filter_cons, List.filter_nil]
    by_cases h2 : ((findR lay h.nm).ov.filter fun s => decide (s ∈ st.occ)) = []
    ·rw [if_pos (decide_eq_true h2), List.filter_cons, List.filter_nil]
     by_cases h3 : ((findR lay h.nm).nd.filter fun q => !decide (q ∈ st.pos)) = []
     ·rw [if_pos (decide_eq_true h3), if_pos (hg.mpr ⟨h1, h2, h3⟩)]; rfl
     ·rw [if_neg (fun z => h3 (of_decide_eq_true z)), if_neg (fun z => h3 (hg.mp z).2.2)]; rfl
    ·rw [if_neg (fun z => h2 (of_decide_eq_true z)), if_neg (fun z => h2 (hg.mp z).2.1)]; rfl
   ·rw [if_neg h1, if_neg (fun z => h1 (hg.mp z).1)]; rfl
 unfold endsL
 rw [key]
 refine tfold_self ?_
 rw [List.map_map]
 exact I.held.sts.sublist (List.filter_sublist.map _)
theorem lamps_law (L : LH lay) (I : SInv lay st) : (lay.sigs.map fun q => (q.1, aspOf (st.held.foldl (goStep (knOf lay) (tfold st.pos []) (sof st.occ)) []) q.1)) = lampsL lay st := by
 rw [tfold_self (I.posnd L), sof_self I.ond, go_fold st.pos st.occ rfl rfl st.held [] (by simpa using I.held.sts), List.nil_append]
 unfold lampsL
 rw [ends_eq L I]
 have hks : ∀ h ∈ st.held.filter (goodB lay st), (findR lay h.nm).st ≠ "" := fun h hh => (L.st _ (findR_mem (I.held.known h (List.mem_filter.mp hh).1)).1).2
 generalize st.held.filter (goodB lay st) = l at *
 have hn : (l.map fun h => ((findR lay h.nm).st, findR lay h.nm)).map (·.1) = l.map fun h => (findR lay h.nm).st := by rw [List.map_map]; rfl
 have hn' : (l.map fun h => ((findR lay h.nm).st, (findR lay h.nm).via)).map (·.1) = l.map fun h => (findR lay h.nm).st := by rw [List.map_map]; rfl
 refine List.map_congr_left fun q _ => ?_
 congr 1
 generalize q.1 = g
 unfold aspOf lampOf
 rw [hn, hn']
 have hg : goGet (l.map fun h => ((findR lay h.nm).st, findR lay h.nm)) g = (l.find? fun h => decide ((findR lay h.nm).st = g)).map fun h => findR lay h.nm := by
  unfold goGet
  rw [List.find?_map, Option.map_map]; rfl
 have ht : tget (l.map fun h => ((findR lay h.nm).st, (findR lay h.nm).via)) g = (l.find? fun h => decide ((findR lay h.nm).st = g)).map fun h => (findR lay h.nm).via := by
  unfold tget
  rw [List.find?_map, Option.map_map]; rfl
 rw [hg, ht]
 cases hf : l.find? (fun h => decide ((findR lay h.nm).st = g)) with
 | none =>
  dsimp only [Option.map_none, Option.getD_none]
  have h1 : ("" : Str) ∉ l.map fun h => (findR lay h.nm).st := fun z => E12 (List.mem_map.mp z) fun h hh e => hks h hh e
  have h2 : g ∉ l.map fun h => (findR lay h.nm).st := fun z => E12 (List.mem_map.mp z) fun h hh e => (List.find?_eq_none.mp hf) h hh (decide_eq_true e)
  rw [if_neg h1, if_neg h2]
 | some h =>
  dsimp only [Option.map_some, Option.getD_some]
  have hm := List.mem_of_find?_eq_some hf
  have he : (findR lay h.nm).st = g := by have := List.find?_some hf; simpa using this
  have h2 : g ∈ l.map fun h => (findR lay h.nm).st := he ▸ List.mem_map_of_mem hm
  rw [if_pos h2]
end
end Mine
end
noncomputable section
set_option maxRecDepth 100000
set_option maxHeartbeats 2000000
namespace Mine
open PySem PySem.SeqAt PyProof.Rows
noncomputable def D_runs : DefD := defD PP.main.body[19]?
theorem k_runs : DefK D_runs ["lay", "spare", "steps", "k"] D_runs.body where
 body := rfl
 fn := rfl
 co := rfl
 gen := rfl
 bind := by
  intro nm qual pm code doc vs h
  refine E41 (list4 h) fun _ _ _ _ z4 => ?_; subst z4; rfl
 nodup := by decide
 kinds := by decide
 noFree := by decide
noncomputable def tyPrs : Ty := .lst (.tup [.str, .str])
noncomputable def tyHeld : Ty := .tup [.str, .lst .str, .int, .int]
noncomputable def tySta : Ty := .tup [tyPrs, .lst .str, .lst tyHeld]
noncomputable def tyRt : Ty := .tup [.str, .str, .lst .str, tyPrs, .str]
noncomputable def tyLay : Ty := .tup [.lst .str, tyPrs, tyPrs, .lst tyRt]
theorem ht_prsL (l : List (Str × Str)) : HT tyPrs (.lst (prs l)) := .lst (ht_prs l)
theorem ht_strsL (l : List Str) : HT (.lst .str) (.lst (l.map .str)) := .lst (ht_strs l)
theorem ht_held (h : Held) : HT tyHeld h.v := .tup (.cons (.str _) (.cons (ht_strsL _) (.cons (.int _) (.cons (.int _) .nil))))
theorem ht_sta (s : Sta) : HT tySta s.v := .tup (.cons (ht_prsL _) (.cons (ht_strsL _) (.cons (.lst fun y hy => by refine E12 (List.mem_map.mp hy) fun h _ z2 => ?_; subst z2; exact ht_held h) .nil)))
theorem ht_rt (r : Rt) : HT tyRt r.v := .tup (.cons (.str _) (.cons (.str _) (.cons (ht_strsL _) (.cons (ht_prsL _) (.cons (.str _) .nil)))))
theorem ht_lay (l : Lay) : HT tyLay l.v := .tup (.cons (ht_strsL _) (.cons (ht_prsL _) (.cons (ht_prsL _) (.cons (.lst fun y hy => by refine E12 (List.mem_map.mp hy) fun r _ z2 => ?_; subst z2; exact ht_rt r) .nil))))
section
variable {c : Cx} {A : Around} {hp : List (Addr × O)}
theorem ne_sta {s : Sta} : CmpV c A hp .NotEq s.v s.v false := cmp_ne (T := tySta) (b := true) (ht_sta s) (ht_sta s) (by simp)
theorem eq_sta {s : Sta} : CmpV c A hp .Eq s.v s.v true := cmp_eq (T := tySta) (b := true) (ht_sta s) (ht_sta s) (by simp)
theorem ne_got {s : Sta} {t : Str} : CmpV c A hp .NotEq (.tup [s.v, .str t]) (.tup [s.v, .str t]) false := cmp_ne (T := .tup [tySta, .str]) (b := true) (.tup (.cons (ht_sta s) (.cons (.str _) .nil))) (.tup (.cons (ht_sta s) (.cons (.str _) .nil))) (by simp)
theorem ne_lay {l : Lay} : CmpV c A hp .NotEq l.v l.v false := cmp_ne (T := tyLay) (b := true) (ht_lay l) (ht_lay l) (by simp)
theorem ne_prs {l : List (Str × Str)} : CmpV c A hp .NotEq (.lst (prs l)) (.lst (prs l)) false := cmp_ne (T := tyPrs) (b := true) (ht_prsL l) (ht_prsL l) (by simp)
end
theorem CallSpec.imp {c : Cx} {n : Nat} {a : Addr} {H : List (Addr × O)} {Xs : List V} {post post' : V → List (Addr × O) → Prop} (h : CallSpec c n a H Xs post) (hp : ∀ X H', post X H' → post' X H') : CallSpec c n a H Xs post' :=
 fun A Z P s vs Q hR I hh rx hQ => h A Z P s vs Q hR I hh rx fun v X Z' h' tk dr H' S I' hh' r q => hQ v X Z' h' tk dr H' S I' hh' r (hp X H' q)
noncomputable def Ch (lay : Lay) : Sta → List Stp → Sta → Prop
 | st, [], st' => st = st'
 | st, s :: ss, st' => stepH lay st s.ev = (s.st, s.ans) ∧ SInv lay s.st ∧ Ch lay s.st ss st'
set_option genInjectivity false in
set_option genSizeOf false in
structure LCore (c : Cx) where
 a_layout : Addr
 a_lclash : Addr
 a_conf : Addr
 a_due : Addr
 a_trip : Addr
 a_lamps : Addr
 a_probe : Addr
 a_runs : Addr
 a_begin : Addr
 a_act : Addr
 a_aspects : Addr
 F_layout : IsFn c a_layout D_layout
 F_lclash : IsFn c a_lclash D_lclash
 F_conf : IsFn c a_conf D_conf
 F_due : IsFn c a_due D_ldue
 F_trip : IsFn c a_trip D_trip
 F_lamps : IsFn c a_lamps D_lamps
 F_probe : IsFn c a_probe D_probe
 F_runs : IsFn c a_runs D_runs
 F_begin : IsFn c a_begin D_begin
 F_act : IsFn c a_act D_act
 F_aspects : IsFn c a_aspects D_aspects
 g_layout : c.mg "_law_layout" = some (.ref a_layout)
 g_lclash : c.mg "_law_clash" = some (.ref a_lclash)
 g_conf : c.mg "conflicts" = some (.ref a_conf)
 g_due : c.mg "_law_due" = some (.ref a_due)
 g_trip : c.mg "_law_trip" = some (.ref a_trip)
 g_lamps : c.mg "_law_lamps" = some (.ref a_lamps)
 g_probe : c.mg "_law_probe" = some (.ref a_probe)
 g_runs : c.mg "_law_runs" = some (.ref a_runs)
 g_begin : c.mg "begin" = some (.ref a_begin)
 g_act : c.mg "act" = some (.ref a_act)
 g_aspects : c.mg "aspects" = some (.ref a_aspects)
 b_list : c.mg "list" = none
 b_len : c.mg "len" = none
 b_dict : c.mg "dict" = none
 b_sorted : c.mg "sorted" = none
 b_type : c.mg "type" = none
 b_int : c.mg "int" = none
 v_secs : GV c "_law_SECS" secsV
 v_signs : GV c "_law_SIGNS" signsV
 v_spots : GV c "_law_SPOTS" spotsV
 v_overs : GV c "_law_OVERS" oversV
 v_needs : GV c "_law_NEEDS" needsV
noncomputable def sta0 : Sta := ⟨[("p", "+"), ("q", "+")], [], []⟩
noncomputable def locR (lay : Lay) (st : Sta) (k : Int) : List (Str × V) := [("lay", lay.v), ("spare", lay.v), ("k", .int k), ("was", st.v), ("state", st.v)]
theorem spec_runs {c : Cx} (G : Core c) (GL : LCore c) {n : Nat} {lay : Lay} {steps : List Stp} {k : Int} (L : LH lay) (h0 : (lay.pts.map fun q => (q.1, ("+" : Str))) = sta0.pos) (I0 : SInv lay sta0) (hc : Ch lay sta0 steps sta0) : Pure c (n + 5) GL.a_runs [lay.v, lay.v, .lst (steps.map Stp.v), .int k] (.bool true) := by
 refine pure_def GL.F_runs k_runs rfl fun A qual code Lc hR => ?_
 conv in D_runs.body => whnf
 have LO := layOk_of L
 have hbeg : Pure c (n + 4) GL.a_begin [lay.v] sta0.v := (spec_begin (n := n + 3) GL.F_begin LO.pts).imp fun X H' q => by rw [h0] at q; exact q
 have hact : ∀ {st st' : Sta} {ev : Ev} {ans : Str}, SInv lay st → stepH lay st ev = (st', ans) → Pure c (n + 4) GL.a_act [lay.v, st.v, ev.v] (.tup [st'.v, .str ans]) := fun {st st' ev ans} I e => (spec_act (n := n) G GL.F_act LO (staOk_of L I)).imp fun X H' q => ⟨by
  have := does_step L I ev X q.2
  rw [e] at this; exact this, q.1⟩
 refine sSwap2 (X := sta0.v) (Y := sta0.v) rfl rfl (ev_Tup (evs (ev_Tup (evs (ev_Lst (evs (ev_Tup (evs ev_s (evs ev_s evs0)) n2) (evs (ev_Tup (evs ev_s (evs ev_s evs0)) n2) evs0)) n2) (evs (ev_Lst evs0 n0) (evs (ev_Lst evs0 n0) evs0))) n3) (evs (ev_Pure GL.g_begin GL.F_begin rfl (evs (ev_N rfl) evs0) hR hbeg) evs0)) n2) ?_
 refine sFoldG (ls := steps) (f := Stp.v) (I := fun _ td τ => ∃ (st : Sta) (k : Int), τ = ⟨locR lay st k, []⟩ ∧ SInv lay st ∧ Ch lay st td sta0) (ev_N rfl) seq_lst rfl (τ₀ := ⟨locR lay sta0 k, []⟩) (le_loc ⟨rfl, rfl, rfl, rfl, rfl, trivial⟩) ⟨sta0, k, rfl, I0, hc⟩ ?_ ?_
 ·intro dn s td τ hdn hI k' hk
  refine E23 hI fun st k z I hch => ?_
  clear hI; subst z
  obtain ⟨h1, I', hch⟩ := hch
  have SO' := staOk_of L I'
  refine (av3 (.inl rfl) (.inl rfl) (.inl rfl)).run _ ?_
  refine sSet (.inl rfl) (ev_Pure GL.g_act GL.F_act rfl (evs (ev_N rfl) (evs (ev_N rfl) (evs (ev_N rfl) evs0))) hR (hact I h1)) ?_
  refine sIfF (tp_O2 (tp_Cmp (ev_N rfl) (ev_Tup (evs (ev_N rfl) (evs (ev_N rfl) evs0)) n2) ne_got ff_iff) fun _ => tp_Cmp (ev_N rfl) (ev_N rfl) ne_sta ff_iff) (fun q => q.elim id id) ?_
  refine sSwap3 (X := s.st.v) (Y := s.st.v) (Z := .int (k + 7)) rfl rfl rfl (ev_Tup (evs (ev_at rfl rfl) (evs (ev_N rfl) (evs (ev_Bin (ev_N rfl) ev_i bin_add_int) evs0))) n3) ?_
  refine sFor (ls := s.st.held) (f := Held.v) (P := fun _ => False) (R := .bool false) (ev_at rfl rfl) rfl ?_ (fun q => E12 q fun _ _ q => q.elim) fun _ => ?_
  ·exact fun h hh => tL (av4 (.inl rfl) (.inl rfl) (.inl rfl) (.inl rfl)) (tp_iff (tp_not (tp_A2 (tp_Cmp (ev_CallB GL.b_type rfl (.type _) rfl (evs (ev_N rfl) evs0) b_type_int) (ev_B GL.b_int rfl rfl) cmp_is_typ Iff.rfl) fun _ => tp_Cmp (ev_CallB GL.b_type rfl (.type _) rfl (evs (ev_N rfl) evs0) b_type_int) (ev_B GL.b_int rfl rfl) cmp_is_typ Iff.rfl)) ⟨fun q => q ⟨by decide, by decide⟩, False.elim⟩) (fun q => q.elim) (ll4 rfl rfl rfl rfl)
  have hpp : (probe lay s.st (k + 7)) ∈ probes lay s.st := pick_mem (by unfold probes; rw [List.length_append, List.length_append, List.length_append, List.length_append]; exact Nat.lt_of_lt_of_le (Nat.zero_lt_succ 4) (Nat.le_trans (Nat.le_trans (Nat.le_trans (Nat.le_add_right _ _) (Nat.le_add_right _ _)) (Nat.le_add_right _ _)) (Nat.le_add_right _ _)))
  have hpo := probe_ok L I' _ hpp
  have hposl : s.st.pos.length ≤ 20 := by
   have h := congrArg List.length I'.pos
   rw [List.length_map, List.length_map] at h
   rw [h]; exact Nat.le_trans L.pl (by decide)
  have hsp : Pure c (n + 4) GL.a_probe [lay.v, s.st.v, .int (k + 7)] (probe lay s.st (k + 7)).v := spec_probe GL.F_probe GL.b_dict GL.b_len L.rl I'.held.heldl L.pl L.ndl hposl I'.occl L.scl (fun q hq => by rw [SO'.pos]; exact decide_eq_true (List.mem_map_of_mem (f := (·.1)) hq)) fun h hh => Nat.le_trans (I'.held.sub h hh).1 (by decide)
  generalize probe lay s.st (k + 7) = pb at *
  refine sUnp (X := .tup [pb.ev.v, .str pb.told]) (ev_Pure GL.g_probe GL.F_probe rfl (evs (ev_N rfl) (evs (ev_N rfl) (evs (ev_N rfl) evs0))) hR hsp) (av2 (.inl rfl) (.inl rfl)) ?_
  refine sIfF (tp_Cmp (ev_Pure GL.g_act GL.F_act rfl (evs (ev_N rfl) (evs (ev_N rfl) (evs (ev_N rfl) evs0))) hR (hact I' hpo)) (ev_Tup (evs (ev_N rfl) (evs (ev_N rfl) evs0)) n2) ne_got ff_iff) id ?_
  refine sIfF (tp_Cmp (ev_Pure GL.g_aspects GL.F_aspects rfl (evs (ev_N rfl) (evs (ev_N rfl) evs0)) hR ((spec_aspects (n := n) G GL.F_aspects LO SO').imp fun X H' q => ⟨q.2.trans (by rw [lamps_law L I']), q.1⟩)) (ev_Pure GL.g_lamps GL.F_lamps rfl (evs (ev_N rfl) (evs (ev_N rfl) evs0)) hR (spec_lamps (n := n + 3) (st := s.st) GL.F_lamps GL.b_dict (Nat.le_trans L.rl (by decide)) (Nat.le_trans I'.held.heldl (by decide)) L.sl fun r hr => ⟨Nat.le_trans (L.ov r hr).2.1 (by decide), L.ndl r hr⟩)) ne_prs ff_iff) id ?_
  exact wSs_nil (hk _ _ ⟨s.st, k + 7, rfl, I', hch⟩ (le_loc ⟨rfl, rfl, rfl, rfl, rfl, trivial⟩)).1
 ·intro τ hI
  refine E23 hI fun st k z I hch => ?_
  clear hI; subst z
  have hch : st = sta0 := hch
  subst hch
  refine sIfF (tp_Cmp (ev_N rfl) (ev_Pure GL.g_begin GL.F_begin rfl (evs (ev_N rfl) evs0) hR hbeg) ne_sta ff_iff) id ?_
  exact sRet (ev_Cmp (ev_N rfl) (ev_N rfl) eq_sta)
end Mine
end
noncomputable section
namespace Mine
open PySem PySem.Spec PyProof.Rows
section
variable {lay : Lay}
theorem Ch.append : ∀ {a b d : Sta} {s1 s2 : List Stp}, Ch lay a s1 b → Ch lay b s2 d → Ch lay a (s1 ++ s2) d
 | _, _, _, [], _, h1, h2 => by have h1 : _ = _ := h1; subst h1; exact h2
 | _, _, _, _ :: _, _, h1, h2 => ⟨h1.1, h1.2.1, Ch.append h1.2.2 h2⟩
theorem Ch.one {a : Sta} {s : Stp} (h : stepH lay a s.ev = (s.st, s.ans)) (I : SInv lay s.st) : Ch lay a [s] s.st := ⟨h, I, rfl⟩
theorem nd_len : ∀ {l m : List Str}, l.Nodup → (∀ x ∈ l, x ∈ m) → l.length ≤ m.length
 | [], _, _, _ => Nat.zero_le _
 | x :: l, m, h, hs => by
  have hx := hs x (.head _)
  have h1 := nd_len (m := m.erase x) (List.nodup_cons.mp h).2 fun y hy => (List.mem_erase_of_ne (a := y) (b := x) (fun e => (List.nodup_cons.mp h).1 (by rw [← e]; exact hy))).mpr (hs y (.tail _ hy))
  rw [List.length_erase_of_mem hx] at h1
  have h2 : 0 < m.length := List.length_pos_of_mem hx
  rw [List.length_cons]; omega
structure HS (lay : Lay) (hs : List Rt) : Prop where
 mem : ∀ h ∈ hs, h ∈ lay.rts
 names : (hs.map Rt.nm).Nodup
 sts : (hs.map Rt.st).Nodup
 len : hs.length ≤ 3
theorem HS.tail {r : Rt} {hs : List Rt} (H : HS lay (r :: hs)) : HS lay hs := ⟨fun h hh => H.mem h (.tail _ hh), (List.nodup_cons.mp H.names).2, (List.nodup_cons.mp H.sts).2, Nat.le_of_succ_le H.len⟩
theorem hinv_rest (L : LH lay) {hs : List Rt} (H : HS lay hs) : HInv lay (hs.map heldOf) := by
 have hm : ∀ h ∈ hs.map heldOf, ∃ r ∈ hs, h = heldOf r := fun h hh => E12 (List.mem_map.mp hh) fun r hr e => I12 r hr e.symm
 refine ⟨by rw [List.length_map]; exact Nat.le_succ_of_le H.len, ?_, fun h hh => ?_, fun h hh => ?_, fun h hh => ?_, ?_⟩
 ·rw [List.map_map]; exact H.names
 ·refine E12 (hm h hh) fun r hr z => ?_; subst z
  exact List.mem_map_of_mem (H.mem r hr)
 ·refine E12 (hm h hh) fun r hr z => ?_; subst z
  show r.ov.length ≤ 3 ∧ ∀ s ∈ r.ov, s ∈ (findR lay r.nm).ov
  rw [L.find (H.mem r hr)]
  exact ⟨(L.ov r (H.mem r hr)).2.1, fun _ z => z⟩
 ·refine E12 (hm h hh) fun r hr z => ?_; subst z
  exact ⟨Int.le_refl _, Int.le_refl _, fun _ => rfl⟩
 ·rw [List.map_map]
  have : hs.map ((fun h : Held => (findR lay h.nm).st) ∘ heldOf) = hs.map Rt.st := List.map_congr_left fun r hr => by
   show (findR lay r.nm).st = r.st
   rw [L.find (H.mem r hr)]
  rw [this]; exact H.sts
theorem hinv_cons (L : LH lay) {r : Rt} {hs : List Rt} (H : HS lay (r :: hs)) (hl : hs.length ≤ 2) {h : Held} (hn : h.nm = r.nm) (h1 : h.left.length ≤ 3 ∧ ∀ s ∈ h.left, s ∈ r.ov) (h2 : 0 ≤ h.e ∧ 0 ≤ h.w ∧ (h.e ≠ 0 → h.w = 0)) : HInv lay (h :: hs.map heldOf) := by
 have R := hinv_rest L H.tail
 have G := hinv_rest L H
 refine ⟨by rw [List.length_cons, List.length_map]; exact Nat.le_trans (Nat.succ_le_succ hl) (by decide), ?_, fun g hg => ?_, fun g hg => ?_, fun g hg => ?_, ?_⟩
 ·have := G.names
  rw [List.map_cons, List.map_cons] at this
  rw [List.map_cons, hn]; exact this
 ·rcases List.mem_cons.mp hg with rfl | hg
  ·rw [hn]; exact List.mem_map_of_mem (H.mem r (.head _))
  ·exact R.known g hg
 ·rcases List.mem_cons.mp hg with rfl | hg
  ·rw [hn, L.find (H.mem r (.head _))]; exact h1
  ·exact R.sub g hg
 ·rcases List.mem_cons.mp hg with rfl | hg
  ·exact h2
  ·exact R.e0 g hg
 ·have := G.sts
  rw [List.map_cons, List.map_cons] at this
  rw [List.map_cons, hn]; exact this
structure TH (lay : Lay) (r : Rt) (hs : List Rt) (spots : List (Str × Str)) (u : Str) : Prop where
 hd : HS lay (r :: hs)
 len : hs.length ≤ 2
 apart : ∀ h ∈ hs, ∀ s ∈ r.ov, s ∉ h.ov
 uo : u ∉ r.ov
 us : u ∈ lay.secs
 pos : spots.map (·.1) = lay.pts.map (·.1)
structure TI (lay : Lay) (r : Rt) (u : Str) (T : List Str) (t : TS) : Prop where
 left : ∃ j, t.left = r.ov.drop j ∧ j ≤ t.done
 done : t.done ≤ r.ov.length
 w : 0 ≤ t.w ∧ (t.done ≠ 0 → t.w = 0)
 srt : sortedS t.taken = true
 nd : t.taken.Nodup
 mem : ∀ x, x ∈ t.taken ↔ x = u ∨ x ∈ T
 sub : ∀ x ∈ T, x ∈ r.ov
noncomputable def stOf (r : Rt) (hs : List Rt) (spots : List (Str × Str)) (t : TS) : Sta := ⟨spots, t.taken, mnow r.nm (hs.map heldOf) t⟩
theorem TI.sinv (L : LH lay) {r : Rt} {hs : List Rt} {spots : List (Str × Str)} {u : Str} {T : List Str} {t : TS} (H : TH lay r hs spots u) (I : TI lay r u T t) : SInv lay (stOf r hs spots t) := by
 have hr := H.hd.mem r (.head _)
 have hsub : ∀ x ∈ t.taken, x ∈ lay.secs := fun x hx => by
  rcases (I.mem x).mp hx with rfl | h
  ·exact H.us
  ·exact (L.ov r hr).2.2 x (I.sub x h)
 refine ⟨H.pos, I.srt, I.nd, Nat.le_trans (nd_len I.nd hsub) L.scl, hsub, ?_⟩
 show HInv lay (mnow r.nm (hs.map heldOf) t)
 unfold mnow
 split
 ·refine hinv_cons L H.hd H.len rfl ?_ ⟨Int.natCast_nonneg _, I.w.1, fun z => I.w.2 fun z2 => z (by show ((t.done : Nat) : Int) = 0; rw [z2]; rfl)⟩
  refine E12 I.left fun j e _ => ?_
  show t.left.length ≤ 3 ∧ ∀ s ∈ t.left, s ∈ r.ov
  rw [e]
  refine ⟨by rw [List.length_drop]; exact Nat.le_trans (Nat.sub_le _ _) (L.ov r hr).2.1, fun s hs => List.mem_of_mem_drop hs⟩
 ·exact hinv_rest L H.hd.tail
theorem take1 {l : List Str} {n : Nat} {s : Str} : (l.drop n).take 1 = [s] ↔ l[n]? = some s := by
 rw [← List.head?_drop]
 cases l.drop n with
 | nil => simp
 | cons x l => simp
theorem mem_take_lt {l : List Str} (hnd : l.Nodup) {j n : Nat} {s : Str} (h1 : l[j]? = some s) (h2 : s ∈ l.take n) : j < n := by
 obtain ⟨i, hi⟩ := List.getElem?_of_mem h2
 have hlt : i < (l.take n).length := (List.getElem?_eq_some_iff.mp hi).1
 rw [List.length_take] at hlt
 rw [List.getElem?_take_of_lt (by omega)] at hi
 have : i = j := (List.getElem?_inj (i := i) (j := j) (by omega) hnd).mp (hi.trans h1.symm)
 omega
theorem rest_ent {r : Rt} {hs : List Rt} {spots : List (Str × Str)} {u s : Str} (L : LH lay) (H : TH lay r hs spots u) (hs' : s ∈ r.ov) : (hs.map heldOf).map (entH lay s) = hs.map heldOf := by
 rw [List.map_map]
 refine List.map_congr_left fun h hh => ?_
 show (if (findR lay h.nm).ov[(0 : Int).toNat]? = some s then _ else _) = _
 rw [L.find (H.hd.mem h (.tail _ hh)), if_neg fun z => H.apart h hh s hs' (List.mem_of_getElem? z)]
theorem rest_leave {r : Rt} {hs : List Rt} {spots : List (Str × Str)} {u s : Str} (L : LH lay) (H : TH lay r hs spots u) (hs' : s ∈ r.ov) : (hs.map heldOf).flatMap (leaveH lay s) = hs.map heldOf := by
 have hk : ∀ h ∈ hs, s ∉ h.ov := fun h hh => H.apart h hh s hs'
 clear H
 induction hs with
 | nil => rfl
 | cons h hs ih =>
  rw [List.map_cons, List.flatMap_cons, ih fun g hg => hk g (.tail _ hg)]
  have : leaveH lay s (heldOf h) = [heldOf h] := by
   have hn := hk h (.head _)
   unfold leaveH
   show (match h.ov with | [] => _ | x :: l => _) = _
   cases ho : h.ov with
   | nil => rfl
   | cons x l =>
    dsimp only
    rw [if_neg fun z => hn (by rw [ho, ← z.1]; exact .head _)]
  rw [this]; rfl
theorem step_enter (L : LH lay) {r : Rt} {hs : List Rt} {spots : List (Str × Str)} {u s : Str} {T : List Str} {t : TS} (H : TH lay r hs spots u) (I : TI lay r u T t) (h1 : s ∈ r.ov) (h2 : s ∉ T) :
  stepH lay (stOf r hs spots t) (.enter s) = (stOf r hs spots (mstep r.ov t (true, s)), ("done" : Str)) ∧ TI lay r u (s :: T) (mstep r.ov t (true, s)) := by
 have hr := H.hd.mem r (.head _)
 have hnt : s ∉ t.taken := fun z => ((I.mem s).mp z).elim (fun e => H.uo (e ▸ h1)) h2
 have hp := sortL_perm (t.taken ++ [s])
 have hnd : (t.taken ++ [s]).Nodup := by
  rw [List.nodup_append]
  refine ⟨I.nd, by simp, fun a ha b hb e => ?_⟩
  rw [List.mem_singleton.mp hb] at e
  exact hnt (e ▸ ha)
 have hmem : ∀ x, x ∈ sortL (t.taken ++ [s]) ↔ x = u ∨ x ∈ s :: T := fun x => by
  rw [hp.mem_iff, List.mem_append, I.mem, List.mem_singleton, List.mem_cons, or_assoc, or_comm (a := x ∈ T)]
 have hsub : ∀ x ∈ s :: T, x ∈ r.ov := fun x hx => (List.mem_cons.mp hx).elim (fun e => e ▸ h1) (I.sub x)
 have hstep : stepH lay (stOf r hs spots t) (.enter s) = (⟨spots, sortL (t.taken ++ [s]), (mnow r.nm (hs.map heldOf) t).map (entH lay s)⟩, ("done" : Str)) := by
  show (if s ∈ lay.secs then (if s ∈ t.taken then _ else _) else _) = _
  rw [if_pos ((L.ov r hr).2.2 s h1), if_neg hnt]; rfl
 rw [hstep]
 unfold stOf mstep
 dsimp only
 rw [if_pos rfl]
 by_cases hd : (r.ov.drop t.done).take 1 = [s]
 ·rw [if_pos hd]
  have hd' := take1.mp hd
  have hlt : t.done < r.ov.length := (List.getElem?_eq_some_iff.mp hd').1
  refine ⟨?_, ⟨?_, hlt, ⟨Int.le_refl _, fun _ => rfl⟩, sortL_sorted _, hp.nodup_iff.mpr hnd, hmem, hsub⟩⟩
  ·congr 2
   unfold mnow
   dsimp only
   by_cases hl : t.left ≠ []
   ·rw [if_pos hl, if_pos hl, List.map_cons, rest_ent L H h1]
    congr 1
    unfold entH
    show (if (findR lay r.nm).ov[((t.done : Nat) : Int).toNat]? = some s then _ else _) = _
    rw [L.find hr, Int.toNat_natCast, if_pos hd']
    rfl
   ·rw [if_neg hl, if_neg hl, rest_ent L H h1]
  ·exact E12 I.left fun j e hj => I12 j e (Nat.le_succ_of_le hj)
 ·rw [if_neg hd]
  refine ⟨?_, ⟨I.left, I.done, I.w, sortL_sorted _, hp.nodup_iff.mpr hnd, hmem, hsub⟩⟩
  congr 2
  unfold mnow
  dsimp only
  by_cases hl : t.left ≠ []
  ·rw [if_pos hl, List.map_cons, rest_ent L H h1]
   congr 1
   unfold entH
   show (if (findR lay r.nm).ov[((t.done : Nat) : Int).toNat]? = some s then _ else _) = _
   rw [L.find hr, Int.toNat_natCast, if_neg fun z => hd (take1.mpr z)]
  ·rw [if_neg hl, rest_ent L H h1]
theorem step_leave (L : LH lay) {r : Rt} {hs : List Rt} {spots : List (Str × Str)} {u s : Str} {T : List Str} {t : TS} (H : TH lay r hs spots u) (I : TI lay r u T t) (h2 : s ∈ T) :
  stepH lay (stOf r hs spots t) (.leave s) = (stOf r hs spots (mstep r.ov t (false, s)), ("done" : Str)) ∧ TI lay r u (T.filter fun x => decide (x ≠ s)) (mstep r.ov t (false, s)) := by
 have hr := H.hd.mem r (.head _)
 have h1 := I.sub s h2
 have hnt : s ∈ t.taken := (I.mem s).mpr (.inr h2)
 have hmem : ∀ x, x ∈ (t.taken.filter fun x => decide (x ≠ s)) ↔ x = u ∨ x ∈ T.filter fun x => decide (x ≠ s) := fun x => by
  rw [List.mem_filter, List.mem_filter, I.mem, decide_eq_true_eq]
  constructor
  ·rintro ⟨h | h, h'⟩
   ·exact .inl h
   ·exact .inr ⟨h, h'⟩
  ·rintro (h | h)
   ·exact ⟨.inl h, fun e => H.uo (h ▸ e ▸ h1)⟩
   ·exact ⟨.inr h.1, h.2⟩
 have hsub : ∀ x ∈ T.filter fun x => decide (x ≠ s), x ∈ r.ov := fun x hx => I.sub x (List.mem_filter.mp hx).1
 have hstep : stepH lay (stOf r hs spots t) (.leave s) = (⟨spots, t.taken.filter fun x => decide (x ≠ s), (mnow r.nm (hs.map heldOf) t).flatMap (leaveH lay s)⟩, ("done" : Str)) := by
  show (if s ∈ lay.secs then (if s ∈ t.taken then _ else _) else _) = _
  rw [if_pos ((L.ov r hr).2.2 s h1), if_pos hnt]; rfl
 rw [hstep]
 have hm : mstep r.ov t (false, s) = ⟨t.taken.filter fun x => decide (x ≠ s), t.done, if t.left.take 1 = [s] ∧ s ∈ r.ov.take t.done then t.left.drop 1 else t.left, t.w⟩ := by
  unfold mstep; rw [if_neg (fun z => Bool.noConfusion z)]
 rw [hm]
 refine ⟨?_, ⟨?_, I.done, I.w, srt_filter _ I.srt, I.nd.sublist List.filter_sublist, hmem, hsub⟩⟩
 ·unfold stOf
  congr 2
  unfold mnow
  dsimp only
  cases hl : t.left with
  | nil =>
   rw [if_neg (not_not_intro rfl), rest_leave L H h1, if_neg]
   intro z
   apply z
   split <;> rfl
  | cons x l =>
   rw [if_pos (List.cons_ne_nil _ _), List.flatMap_cons, rest_leave L H h1]
   unfold leaveH
   dsimp only
   rw [L.find hr, Int.toNat_natCast]
   have hx : (x :: l).take 1 = [s] ↔ x = s := by simp
   by_cases hc : x = s ∧ s ∈ r.ov.take t.done
   ·have hc' : (x :: l).take 1 = [s] ∧ s ∈ r.ov.take t.done := ⟨hx.mpr hc.1, hc.2⟩
    rw [if_pos hc, if_pos hc']
    show _ = if l ≠ [] then _ else _
    by_cases hl0 : l = []
    ·rw [if_pos hl0, if_neg (not_not_intro hl0)]; rfl
    ·rw [if_neg hl0, if_pos hl0]; rfl
   ·have hc' : ¬ ((x :: l).take 1 = [s] ∧ s ∈ r.ov.take t.done) := fun z => hc ⟨hx.mp z.1, z.2⟩
    rw [if_neg hc, if_neg hc', if_pos (List.cons_ne_nil _ _)]; rfl
 ·dsimp only
  refine E12 I.left fun j e hj => ?_
  split
  ·rename_i hc
   refine I12 (j + 1) (by rw [e, List.drop_drop]) ?_
   rw [e] at hc
   exact mem_take_lt (L.ov r hr).1 (take1.mp hc.1) hc.2
  ·exact I12 j e hj
noncomputable def okT (ov : List Str) : List Str → List (Bool × Str) → Option (List Str)
 | T, [] => some T
 | T, (true, s) :: ms => if s ∈ ov ∧ s ∉ T then okT ov (s :: T) ms else none
 | T, (false, s) :: ms => if s ∈ T then okT ov (T.filter fun x => decide (x ≠ s)) ms else none
theorem mrun_ok (L : LH lay) {r : Rt} {hs : List Rt} {spots : List (Str × Str)} {u : Str} (H : TH lay r hs spots u) : ∀ {ms : List (Bool × Str)} {T T' : List Str} {t : TS}, TI lay r u T t → okT r.ov T ms = some T' → Ch lay (stOf r hs spots t) (mrun r.nm r.ov spots (hs.map heldOf) t ms) (stOf r hs spots (ms.foldl (mstep r.ov) t)) ∧ TI lay r u T' (ms.foldl (mstep r.ov) t)
 | [], T, T', t, I, h => by
  have h : some T = some T' := h
  cases h
  exact ⟨rfl, I⟩
 | (true, s) :: ms, T, T', t, I, h => by
  have h : (if s ∈ r.ov ∧ s ∉ T then okT r.ov (s :: T) ms else none) = some T' := h
  split at h
  ·rename_i hc
   have hE := step_enter L H I hc.1 hc.2
   have hR := mrun_ok L H hE.2 h
   exact ⟨⟨hE.1, hE.2.sinv L H, hR.1⟩, hR.2⟩
  ·cases h
 | (false, s) :: ms, T, T', t, I, h => by
  have h : (if s ∈ T then okT r.ov (T.filter fun x => decide (x ≠ s)) ms else none) = some T' := h
  split at h
  ·rename_i hc
   have hE := step_leave L H I hc
   have hR := mrun_ok L H hE.2 h
   exact ⟨⟨hE.1, hE.2.sinv L H, hR.1⟩, hR.2⟩
  ·cases h
theorem mstep_agree {ov : List Str} : ∀ (ms : List (Bool × Str)) {t t' : TS}, t.done = t'.done → t.left = t'.left → (ms.foldl (mstep ov) t).left = (ms.foldl (mstep ov) t').left
 | [], _, _, _, h => h
 | m :: ms, t, t', h1, h2 => by
  refine mstep_agree ms (t := mstep ov t m) (t' := mstep ov t' m) ?_ ?_
  ·unfold mstep
   rw [h1]
   split
   ·split <;> rfl
   ·rfl
  ·unfold mstep
   rw [h1, h2]
   split
   ·split <;> rfl
   ·rfl
theorem moves_okT : ∀ ov ∈ oversL, ∀ m ∈ ([1, 2, 3, 4] : List Int), okT ov [] (movesOf ov m) = some [] := by decide +kernel
theorem moves_left : ∀ ov ∈ oversL, ∀ m ∈ ([1, 2, 3, 4] : List Int), ((movesOf ov m).foldl (mstep ov) ⟨[], 0, ov, 0⟩).left = [] := by decide +kernel
end
end Mine
end
noncomputable section
namespace Mine
open PySem PySem.Spec PyProof.Rows
section
variable {lay : Lay} {r : Rt} {hs : List Rt} {spots : List (Str × Str)} {u : Str}
theorem sinv_u (us : u ∈ lay.secs) (pos : spots.map (·.1) = lay.pts.map (·.1)) {held : List Held} (H : HInv lay held) : SInv lay ⟨spots, [u], held⟩ :=
 ⟨pos, rfl, List.nodup_cons.mpr ⟨List.not_mem_nil, List.Pairwise.nil⟩, Nat.le_of_ble_eq_true rfl, fun s hs => by rw [List.mem_singleton.mp hs]; exact us, H⟩
theorem rest_tick : ∀ hs : List Rt, (hs.map heldOf).flatMap tickH = hs.map heldOf
 | [] => rfl
 | h :: hs => by rw [List.map_cons, List.flatMap_cons, rest_tick hs]; rfl
theorem only_u {l : List Str} (hnd : l.Nodup) (h : ∀ x, x ∈ l ↔ x = u ∨ x ∈ ([] : List Str)) : l = [u] := by
 have h' : ∀ x, x ∈ l ↔ x = u := fun x => (h x).trans ⟨fun z => z.resolve_right List.not_mem_nil, Or.inl⟩
 match l, hnd, h' with
 | [], _, h' => exact nomatch (h' u).mpr rfl
 | [a], _, h' => rw [(h' a).mp (.head _)]
 | a :: b :: l, hnd, h' =>
  have e1 := (h' a).mp (.head _)
  have e2 := (h' b).mp (.tail _ (.head _))
  exact absurd (by rw [e1, e2]; exact .head _) (List.nodup_cons.mp hnd).1
theorem trip_ok (L : LH lay) {mode : Int} {waits : Bool} (H : TH lay r hs spots u) (hov : r.ov ∈ oversL) (hm0 : 0 ≤ mode) (hm4 : mode ≤ 4) (hw : waits = true ↔ (tget lay.sigs r.st).getD "" = u) :
  Ch lay ⟨spots, [u], (r :: hs).map heldOf⟩ (trip r (hs.map heldOf) waits mode spots u) ⟨spots, [u], hs.map heldOf⟩ := by
 have hr := H.hd.mem r (.head _)
 have hov3 := (L.ov r hr).2.1
 have SR : SInv lay ⟨spots, [u], hs.map heldOf⟩ := sinv_u H.us H.pos (hinv_rest L H.hd.tail)
 have SW : ∀ w : Int, 0 ≤ w → SInv lay ⟨spots, [u], ⟨r.nm, r.ov, 0, w⟩ :: hs.map heldOf⟩ := fun w h => sinv_u H.us H.pos (hinv_cons L H.hd H.len rfl ⟨hov3, fun _ z => z⟩ ⟨Int.le_refl _, h, fun z => absurd rfl z⟩)
 have hne : ∀ h ∈ hs, h.nm ≠ r.nm := fun h hh e => (List.nodup_cons.mp H.hd.names).1 (e ▸ List.mem_map_of_mem hh)
 have hf : ((r :: hs).map heldOf).find? (fun h => decide (h.nm = r.nm)) = some (heldOf r) := List.find?_cons_of_pos (decide_eq_true rfl)
 have cW : waits = true → stepH lay ⟨spots, [u], (r :: hs).map heldOf⟩ (.cancel r.nm) = (⟨spots, [u], ⟨r.nm, r.ov, 0, 3⟩ :: hs.map heldOf⟩, ("waits" : Str)) := fun h => by
  show cancelH lay _ r.nm = _
  unfold cancelH
  dsimp only
  rw [hf]
  dsimp only
  rw [if_neg (show ¬ (heldOf r).e ≠ 0 from not_not_intro rfl), if_neg (show ¬ (heldOf r).w ≠ 0 from not_not_intro rfl), L.find hr, hw.mp h, if_pos (.head _), List.map_cons, List.map_cons, List.map_map]
  congr 3
  ·show (if r.nm = r.nm then _ else _) = _
   rw [if_pos rfl]; rfl
  ·refine List.map_congr_left fun h hh => ?_
   show (if h.nm = r.nm then _ else _) = _
   rw [if_neg (hne h hh)]
 have cD : ¬ waits = true → stepH lay ⟨spots, [u], (r :: hs).map heldOf⟩ (.cancel r.nm) = (⟨spots, [u], hs.map heldOf⟩, ("done" : Str)) := fun h => by
  show cancelH lay _ r.nm = _
  unfold cancelH
  dsimp only
  rw [hf]
  dsimp only
  rw [if_neg (show ¬ (heldOf r).e ≠ 0 from not_not_intro rfl), if_neg (show ¬ (heldOf r).w ≠ 0 from not_not_intro rfl), L.find hr, if_neg fun z => h (hw.mpr (List.mem_singleton.mp z))]
  congr 2
  rw [List.map_cons, List.filter_cons_of_neg (by show ¬ decide (r.nm ≠ r.nm) = true; simp), List.filter_eq_self]
  refine fun g hg => E12 (List.mem_map.mp hg) fun h hh e => ?_
  rw [← e]; exact decide_eq_true (hne h hh)
 have tk : ∀ w : Int, w ≠ 0 → w - 1 ≠ 0 → stepH lay ⟨spots, [u], ⟨r.nm, r.ov, 0, w⟩ :: hs.map heldOf⟩ .tick = (⟨spots, [u], ⟨r.nm, r.ov, 0, w - 1⟩ :: hs.map heldOf⟩, ("done" : Str)) := fun w h1 h2 => by
  show (Sta.mk spots [u] (List.flatMap tickH (_ :: _)), _) = _
  rw [List.flatMap_cons, rest_tick]
  unfold tickH
  dsimp only
  rw [if_neg h1, if_neg h2]; rfl
 have tk1 : stepH lay ⟨spots, [u], ⟨r.nm, r.ov, 0, 1⟩ :: hs.map heldOf⟩ .tick = (⟨spots, [u], hs.map heldOf⟩, ("done" : Str)) := by
  show (Sta.mk spots [u] (List.flatMap tickH (_ :: _)), _) = _
  rw [List.flatMap_cons, rest_tick]
  rfl
 have pre : waits = true → Ch lay ⟨spots, [u], (r :: hs).map heldOf⟩ (preOf r (hs.map heldOf) waits spots u) ⟨spots, [u], ⟨r.nm, r.ov, 0, 2⟩ :: hs.map heldOf⟩ := fun h => by
  unfold preOf
  rw [if_pos h]
  exact ⟨cW h, SW 3 (by decide), tk 3 (by decide) (by decide), SW 2 (by decide), rfl⟩
 unfold trip
 by_cases q : mode = 0 ∨ ¬ r.ov ≠ []
 ·rw [if_pos q]
  by_cases h : waits = true
  ·rw [if_pos h]
   exact (pre h).append ⟨tk 2 (by decide) (by decide), SW 1 (by decide), tk1, SR, rfl⟩
  ·rw [if_neg h]
   exact ⟨cD h, SR, rfl⟩
 ·rw [if_neg q]
  have hne0 : r.ov ≠ [] := Classical.byContradiction fun z => q (.inr z)
  have hmm : mode ∈ ([1, 2, 3, 4] : List Int) := by
   have h1 : mode ≠ 0 := fun z => q (.inl z)
   rcases om14 hm0 hm4 h1 with rfl | rfl | rfl | rfl <;> decide
  have main : ∀ w : Int, 0 ≤ w → Ch lay ⟨spots, [u], ⟨r.nm, r.ov, 0, w⟩ :: hs.map heldOf⟩ (mrun r.nm r.ov spots (hs.map heldOf) ⟨[u], 0, r.ov, w⟩ (movesOf r.ov mode)) ⟨spots, [u], hs.map heldOf⟩ := fun w h => by
   have I0 : TI lay r u [] ⟨[u], 0, r.ov, w⟩ := ⟨⟨0, rfl, Nat.le_refl _⟩, Nat.zero_le _, ⟨h, fun z => absurd rfl z⟩, rfl, List.nodup_cons.mpr ⟨List.not_mem_nil, List.Pairwise.nil⟩, fun x => ⟨fun z => .inl (List.mem_singleton.mp z), fun z => z.elim (fun z => List.mem_singleton.mpr z) fun z => nomatch z⟩, fun x hx => nomatch hx⟩
   have R := mrun_ok L H I0 (moves_okT r.ov hov mode hmm)
   have hl : ((movesOf r.ov mode).foldl (mstep r.ov) ⟨[u], 0, r.ov, w⟩).left = [] := (mstep_agree (movesOf r.ov mode) (t := ⟨[u], 0, r.ov, w⟩) (t' := ⟨[], 0, r.ov, 0⟩) rfl rfl).trans (moves_left r.ov hov mode hmm)
   have ht := only_u R.2.nd R.2.mem
   have e1 : stOf r hs spots ⟨[u], 0, r.ov, w⟩ = ⟨spots, [u], ⟨r.nm, r.ov, 0, w⟩ :: hs.map heldOf⟩ := by
    unfold stOf mnow
    dsimp only
    rw [if_pos hne0]; rfl
   have e2 : stOf r hs spots ((movesOf r.ov mode).foldl (mstep r.ov) ⟨[u], 0, r.ov, w⟩) = ⟨spots, [u], hs.map heldOf⟩ := by
    unfold stOf mnow
    rw [hl, if_neg (not_not_intro rfl), ht]
   rw [e1, e2] at R
   exact R.1
  by_cases h : waits = true
  ·rw [if_pos h]; exact (pre h).append (main 2 (by decide))
  ·rw [if_neg h]
   have e : preOf r (hs.map heldOf) waits spots u = [] := by unfold preOf; rw [if_neg h]
   rw [e]; exact main 0 (by decide)
theorem conf_names : ∀ (rs : List Rt) (p : Str × Str), p ∈ confL rs → p.1 ∈ rs.map Rt.nm ∧ p.2 ∈ rs.map Rt.nm
 | [], p, h => nomatch h
 | r :: rs, p, h => by
  rcases List.mem_append.mp h with h | h
  ·refine E12 (List.mem_map.mp h) fun q hq e => ?_
   rw [← e]
   exact ⟨.head _, .tail _ (List.mem_map_of_mem (f := Rt.nm) (List.mem_filter.mp hq).1)⟩
  ·have := conf_names rs p h
   exact ⟨.tail _ this.1, .tail _ this.2⟩
theorem conf_iff : ∀ {rs : List Rt}, (rs.map Rt.nm).Nodup → (∀ a ∈ rs, ∀ b ∈ rs, clashB a b = clashB b a) → ∀ a ∈ rs, ∀ b ∈ rs, a.nm ≠ b.nm → (((a.nm, b.nm) ∈ confL rs ∨ (b.nm, a.nm) ∈ confL rs) ↔ clashB b a = true)
 | [], _, _, a, ha, _, _, _ => nomatch ha
 | r :: rs, hnd, hsym, a, ha, b, hb, hne => by
  rw [List.map_cons, List.nodup_cons] at hnd
  have hr : ∀ {x y : Rt}, x ∈ rs → (x.nm, y.nm) ∈ confL (r :: rs) → (x.nm, y.nm) ∈ confL rs := fun {x y} hx h => by
   rcases List.mem_append.mp h with h | h
   ·refine E12 (List.mem_map.mp h) fun q hq e => ?_
    have e : r.nm = x.nm := congrArg Prod.fst e
    exact absurd (e ▸ List.mem_map_of_mem hx) hnd.1
   ·exact h
  have hh : ∀ {y : Rt}, y ∈ rs → ((r.nm, y.nm) ∈ confL (r :: rs) ↔ clashB r y = true) := fun {y} hy => by
   constructor
   ·intro h
    rcases List.mem_append.mp h with h | h
    ·refine E12 (List.mem_map.mp h) fun q hq e => ?_
     have e : q.nm = y.nm := congrArg Prod.snd e
     have := nodup_inj hnd.2 (List.mem_filter.mp hq).1 hy e
     rw [← this]; exact (List.mem_filter.mp hq).2
    ·exact absurd (conf_names rs _ h).1 hnd.1
   ·intro h
    exact List.mem_append_left _ (List.mem_map.mpr (I12 y (List.mem_filter.mpr ⟨hy, h⟩) rfl))
  have ho : ∀ {x : Rt}, (x.nm, r.nm) ∈ confL rs → False := fun {x} h => hnd.1 (conf_names rs _ h).2
  rcases List.mem_cons.mp ha with rfl | ha' <;> rcases List.mem_cons.mp hb with rfl | hb'
  ·exact absurd rfl hne
  ·rw [hsym b hb a ha]
   exact ⟨fun z => z.elim (fun z => (hh hb').mp z) fun z => (ho (hr hb' z)).elim, fun z => .inl ((hh hb').mpr z)⟩
  ·exact ⟨fun z => z.elim (fun z => (ho (hr ha' z)).elim) fun z => (hh ha').mp z, fun z => .inr ((hh ha').mpr z)⟩
  ·rw [← conf_iff hnd.2 (fun a ha b hb => hsym a (.tail _ ha) b (.tail _ hb)) a ha' b hb' hne]
   exact ⟨fun z => z.elim (fun z => .inl (hr ha' z)) fun z => .inr (hr hb' z), fun z => z.elim (fun z => .inl (List.mem_append_right _ z)) fun z => .inr (List.mem_append_right _ z)⟩
noncomputable def rivalsL (told : List (Str × Str)) (hs : List Rt) (r : Rt) : List Rt := hs.filter fun h => decide ((h.nm, r.nm) ∈ told) || decide ((r.nm, h.nm) ∈ told)
theorem set_due (L : LH lay) (hsym : ∀ a ∈ lay.rts, ∀ b ∈ lay.rts, clashB a b = clashB b a) (hr : r ∈ lay.rts) (H : HS lay hs) (hnm : ∀ h ∈ hs, h.nm ≠ r.nm) (hpos : spots.map (·.1) = lay.pts.map (·.1)) (hSat : ∀ h ∈ hs, clashB r h = false → ∀ q ∈ r.nd, q.1 ∈ h.nd.map (·.1) → q ∈ spots) :
  setH lay ⟨spots, [u], hs.map heldOf⟩ r.nm = lawDue1 r spots lay.pts u (rivalsL (confL lay.rts) hs r) := by
 unfold setH lawDue1
 rw [if_neg (not_not_intro (List.mem_map_of_mem hr)), L.find hr]
 dsimp only
 have h1 : ¬ ((hs.map heldOf).any fun h => decide (h.nm = r.nm)) = true := fun z => E12 (List.any_eq_true.mp z) fun g hg e => E12 (List.mem_map.mp hg) fun h hh e2 => by
  have e : g.nm = r.nm := of_decide_eq_true e
  rw [← e2] at e
  exact hnm h hh e
 rw [if_neg h1]
 have h2 : (r.ov.any fun s => decide (s ∈ [u])) = true ↔ u ∈ r.ov := by
  rw [List.any_eq_true]
  constructor
  ·exact R12 fun s hs e => by rw [List.mem_singleton.mp (of_decide_eq_true e)] at hs; exact hs
  ·exact fun h => I12 u h (decide_eq_true (.head _))
 have hcl : ∀ h ∈ hs, (((h.nm, r.nm) ∈ confL lay.rts ∨ (r.nm, h.nm) ∈ confL lay.rts) ↔ clashB r h = true) := fun h hh => conf_iff L.rnd hsym h (H.mem h hh) r hr (hnm h hh)
 have h3 : ((hs.map heldOf).any fun h => clashB r (findR lay h.nm)) = true ↔ rivalsL (confL lay.rts) hs r ≠ [] := by
  rw [List.any_eq_true]
  unfold rivalsL
  constructor
  ·refine R12 fun g hg e z => E12 (List.mem_map.mp hg) fun h hh e2 => ?_
   rw [← e2] at e
   have e : clashB r (findR lay h.nm) = true := e
   rw [L.find (H.mem h hh)] at e
   have := List.filter_eq_nil_iff.mp z h hh
   apply this
   rw [Bool.or_eq_true, decide_eq_true_eq, decide_eq_true_eq]
   exact (hcl h hh).mpr e
  ·intro z
   refine Classical.byContradiction fun z2 => z (List.filter_eq_nil_iff.mpr fun h hh e => z2 ?_)
   rw [Bool.or_eq_true, decide_eq_true_eq, decide_eq_true_eq] at e
   refine I12 (heldOf h) (List.mem_map_of_mem hh) ?_
   show clashB r (findR lay h.nm) = true
   rw [L.find (H.mem h hh)]
   exact (hcl h hh).mp e
 by_cases q2 : u ∈ r.ov
 ·rw [if_pos (h2.mpr q2), if_pos q2]
 rw [if_neg (fun z => q2 (h2.mp z)), if_neg q2]
 by_cases q3 : rivalsL (confL lay.rts) hs r ≠ []
 ·rw [if_pos (h3.mpr q3), if_pos q3]
 rw [if_neg (fun z => q3 (h3.mp z)), if_neg q3]
 have hspn : (spots.map (·.1)).Nodup := hpos ▸ L.pnd
 have h4 : (r.nd.any fun q => !decide (tget spots q.1 = some q.2) && lockH lay [u] (hs.map heldOf) q.1) = true ↔ stuck1 r spots lay.pts u ≠ [] := by
  unfold stuck1
  rw [List.any_eq_true, Ne, List.filter_eq_nil_iff]
  have hq : ∀ q ∈ r.nd, ((!decide (tget spots q.1 = some q.2) && lockH lay [u] (hs.map heldOf) q.1) = true ↔ (!decide (q ∈ spots) && decide ((q.1, u) ∈ lay.pts)) = true) := fun q hq => by
   rw [Bool.and_eq_true, Bool.and_eq_true, Bool.not_eq_true', Bool.not_eq_true', decide_eq_false_iff_not, decide_eq_false_iff_not, tget_mem hspn, lock_iff, decide_eq_true_eq]
   refine and_congr_right fun hns => ?_
   obtain ⟨v, hv⟩ := tget_some (L.ndp r hr q hq)
   rw [hv, Option.getD_some, List.mem_singleton, ← tget_mem L.pnd, hv, Option.some.injEq]
   constructor
   ·rintro (e | ⟨g, hg, _, e⟩)
    ·exact e
    ·refine E12 (List.mem_map.mp hg) fun h hh e2 => ?_
     rw [← e2] at e
     have e : q.1 ∈ (findR lay h.nm).nd.map (·.1) := e
     rw [L.find (H.mem h hh)] at e
     refine absurd (hSat h hh ?_ q hq e) hns
     rw [← Bool.not_eq_true]
     exact fun z => q3 (h3.mp (List.any_eq_true.mpr (I12 (heldOf h) (List.mem_map_of_mem hh) (by show clashB r (findR lay h.nm) = true; rw [L.find (H.mem h hh)]; exact z))))
   ·exact .inl
  constructor
  ·exact R12 fun q hq1 e z => z q hq1 ((hq q hq1).mp e)
  ·intro z
   refine Classical.byContradiction fun z2 => z fun q hq1 e => z2 (I12 q hq1 ((hq q hq1).mpr e))
 by_cases q4 : stuck1 r spots lay.pts u ≠ []
 ·rw [if_pos (h4.mpr q4), if_pos q4]
 ·rw [if_neg (fun z => q4 (h4.mp z)), if_neg q4]
end
end Mine
end
noncomputable section
namespace Mine
open PySem PySem.Spec PyProof.Rows
structure SS where
 spots : List (Str × Str)
 held : List Rt
 steps : List Stp
noncomputable def turnL (spots nd : List (Str × Str)) : List (Str × Str) := [("p", (tget (tfold (spots ++ nd) []) "p").getD ""), ("q", (tget (tfold (spots ++ nd) []) "q").getD "")]
noncomputable def dueOf (lay : Lay) (u : Str) (S : SS) (r : Rt) : Str := lawDue1 r S.spots lay.pts u (rivalsL (confL lay.rts) S.held r)
noncomputable def set1 (lay : Lay) (u : Str) (S : SS) (r : Rt) : SS :=
 if dueOf lay u S r = "done" then ⟨turnL S.spots r.nd, S.held ++ [r], S.steps ++ [⟨.set r.nm, dueOf lay u S r, ⟨turnL S.spots r.nd, [u], (S.held ++ [r]).map heldOf⟩⟩]⟩
 else ⟨S.spots, S.held, S.steps ++ [⟨.set r.nm, dueOf lay u S r, ⟨S.spots, [u], S.held.map heldOf⟩⟩]⟩
noncomputable def trip1 (lay : Lay) (u : Str) (S : SS) (mode : Int) : SS :=
 match S.held with
 | [] => S
 | r :: hs => ⟨S.spots, hs, S.steps ++ trip r (hs.map heldOf) (decide ((tget lay.sigs r.st).getD "" = u)) mode S.spots u⟩
noncomputable def ss0 (x y u : Str) : SS := ⟨[("p", x), ("q", y)], [], [⟨.move "p" x, "done", ⟨[("p", x), ("q", "+")], [], []⟩⟩, ⟨.move "q" y, "done", ⟨[("p", x), ("q", y)], [], []⟩⟩, ⟨.enter u, "done", ⟨[("p", x), ("q", y)], [u], []⟩⟩]⟩
noncomputable def ssEnd (S : SS) (u : Str) : List Stp := S.steps ++ [⟨.leave u, "done", ⟨S.spots, [], []⟩⟩, ⟨.move "q" "+", "done", ⟨[S.spots.getD 0 ("", ""), ("q", "+")], [], []⟩⟩, ⟨.move "p" "+", "done", sta0⟩]
noncomputable def storyL (lay : Lay) (x y u : Str) (ra rb : Rt) (m1 m2 : Int) : List Stp := ssEnd (trip1 lay u (trip1 lay u (set1 lay u (set1 lay u (ss0 x y u) ra) rb) m1) m2) u
structure L1H (lay : Lay) : Prop extends LH lay where
 pts : ∃ a b : Str, lay.pts = ([("p", a), ("q", b)] : List (Str × Str))
 rt : ∀ r ∈ lay.rts, r.ov ∈ oversL ∧ r.nd ∈ needsL
theorem nc_comm : ∀ a ∈ needsL, ∀ b ∈ needsL, needClash (grp a) b = needClash (grp b) a := by decide +kernel
theorem nc_apart : ∀ a ∈ needsL, ∀ b ∈ needsL, needClash (grp a) b = decide (apart a b ≠ []) := by decide +kernel
theorem nc_sat : ∀ a ∈ needsL, ∀ b ∈ needsL, ∀ x ∈ (["+", "-"] : List Str), ∀ y ∈ (["+", "-"] : List Str), needClash (grp b) a = false → ∀ q ∈ b, q.1 ∈ a.map (·.1) → q ∈ tfold a [("p", x), ("q", y)] := by decide +kernel
theorem any_comm (a b : List Str) : (a.any fun s => decide (s ∈ b)) = (b.any fun s => decide (s ∈ a)) := by
 rw [Bool.eq_iff_iff, List.any_eq_true, List.any_eq_true]
 exact ⟨R12 fun s h1 h2 => I12 s (of_decide_eq_true h2) (decide_eq_true h1), R12 fun s h1 h2 => I12 s (of_decide_eq_true h2) (decide_eq_true h1)⟩
theorem clash_comm {a b : Rt} (ha : a.nd ∈ needsL) (hb : b.nd ∈ needsL) : clashB a b = clashB b a := by
 unfold clashB
 rw [any_comm a.ov b.ov, nc_comm _ ha _ hb]
 congr 2
 exact decide_eq_decide.mpr eq_comm
theorem clash_law {a b : Rt} (ha : a.nd ∈ needsL) (hb : b.nd ∈ needsL) : lawClash a b = clashB a b := by
 unfold lawClash clashB
 rw [nc_apart _ ha _ hb]
 by_cases h : a.st = b.st
 ·rw [if_pos h, decide_eq_true h, Bool.or_true, Bool.true_or]
 ·rw [if_neg h, decide_eq_false h, Bool.or_false, Bool.eq_iff_iff, decide_eq_true_eq, Bool.or_eq_true, decide_eq_true_eq, List.any_eq_true]
  constructor
  ·intro z
   refine Classical.byContradiction fun z2 => ?_
   rw [not_or] at z2
   have e1 : (a.ov.filter fun s => decide (s ∈ b.ov)) = [] := List.filter_eq_nil_iff.mpr fun s hs e => z2.1 (I12 s hs e)
   have e2 : apart a.nd b.nd = [] := Decidable.not_not.mp z2.2
   rw [e1, e2] at z
   exact absurd z (by decide)
  ·rintro (⟨s, hs, e⟩ | z)
   ·have : 0 < (a.ov.filter fun s => decide (s ∈ b.ov)).length := List.length_pos_of_mem (List.mem_filter.mpr ⟨hs, e⟩)
    omega
   ·have : 0 < (apart a.nd b.nd).length := List.length_pos_iff.mpr z
    omega
theorem clash_no {a b : Rt} (h : clashB a b = false) : (∀ s ∈ a.ov, s ∉ b.ov) ∧ a.st ≠ b.st ∧ needClash (grp a.nd) b.nd = false := by
 unfold clashB at h
 rw [Bool.or_eq_false_iff, Bool.or_eq_false_iff, List.any_eq_false, decide_eq_false_iff_not] at h
 exact ⟨fun s hs z => h.1.1 s hs (decide_eq_true z), h.1.2, h.2⟩
section
variable {lay : Lay} {u : Str}
structure SSI (lay : Lay) (u : Str) (S : SS) : Prop where
 ch : Ch lay sta0 S.steps ⟨S.spots, [u], S.held.map heldOf⟩
 hs : HS lay S.held
 pos : S.spots.map (·.1) = lay.pts.map (·.1)
 uo : ∀ h ∈ S.held, u ∉ h.ov
 apart : S.held.Pairwise fun a b => ∀ s ∈ a.ov, s ∉ b.ov
theorem turn_eq (L : L1H lay) {spots : List (Str × Str)} {r : Rt} (hr : r ∈ lay.rts) (hpos : spots.map (·.1) = lay.pts.map (·.1)) : turnL spots r.nd = tfold r.nd spots ∧ (tfold r.nd spots).map (·.1) = lay.pts.map (·.1) := by
 have hn : (tfold r.nd spots).map (·.1) = lay.pts.map (·.1) := by rw [tfold_names _ (fun q hq => by rw [hpos]; exact L.ndp r hr q hq), hpos]
 refine ⟨?_, hn⟩
 have e : tfold (spots ++ r.nd) [] = tfold r.nd spots := by
  have h1 : tfold (spots ++ r.nd) [] = tfold r.nd (tfold spots []) := List.foldl_append
  rw [h1, tfold_self (hpos ▸ L.pnd)]
 have h2 := pos_out hn L.pnd
 unfold turnL
 rw [e]
 obtain ⟨a, b, hp⟩ := L.pts
 rw [hp] at h2
 exact h2
theorem set1_ok (L : L1H lay) (us : u ∈ lay.secs) {S : SS} {r : Rt} (I : SSI lay u S) (hl : S.held.length ≤ 1) (hr : r ∈ lay.rts) (hnm : ∀ h ∈ S.held, h.nm ≠ r.nm) (hSat : ∀ h ∈ S.held, clashB r h = false → ∀ q ∈ r.nd, q.1 ∈ h.nd.map (·.1) → q ∈ S.spots) : SSI lay u (set1 lay u S r) := by
 have hsym : ∀ a ∈ lay.rts, ∀ b ∈ lay.rts, clashB a b = clashB b a := fun a ha b hb => clash_comm (L.rt a ha).2 (L.rt b hb).2
 have hd := set_due (u := u) L.toLH hsym hr I.hs hnm I.pos hSat
 have hstep : stepH lay ⟨S.spots, [u], S.held.map heldOf⟩ (.set r.nm) = if dueOf lay u S r = "done" then (⟨tfold r.nd S.spots, [u], S.held.map heldOf ++ [heldOf r]⟩, ("done" : Str)) else (⟨S.spots, [u], S.held.map heldOf⟩, dueOf lay u S r) := by
  show (if setH lay _ r.nm = "done" then _ else _) = _
  rw [hd, L.find hr]; rfl
 unfold set1
 by_cases h : dueOf lay u S r = "done"
 ·rw [if_pos h] at hstep ⊢
  have ht := turn_eq L hr I.pos
  have huo : u ∉ r.ov := fun z => by
   unfold dueOf lawDue1 at h
   rw [if_pos z] at h
   exact absurd h (by decide)
  have hcl : ∀ h ∈ S.held, clashB r h = false := fun g hg => by
   rw [← Bool.not_eq_true]
   intro z
   unfold dueOf lawDue1 at h
   rw [if_neg huo, if_pos] at h
   ·exact absurd h (by decide)
   ·intro z2
    have := List.filter_eq_nil_iff.mp z2 g hg
    apply this
    rw [Bool.or_eq_true, decide_eq_true_eq, decide_eq_true_eq]
    exact (conf_iff L.rnd hsym g (I.hs.mem g hg) r hr (hnm g hg)).mpr z
  have HS' : HS lay (S.held ++ [r]) := by
   refine ⟨fun g hg => (List.mem_append.mp hg).elim (I.hs.mem g) fun z => by rw [List.mem_singleton.mp z]; exact hr, ?_, ?_, by rw [List.length_append]; exact Nat.le_trans (Nat.add_le_add_right hl 1) (by decide)⟩
   ·rw [List.map_append, List.nodup_append]
    refine ⟨I.hs.names, List.nodup_cons.mpr ⟨List.not_mem_nil, List.Pairwise.nil⟩, fun a ha b hb e => E12 (List.mem_map.mp ha) fun g hg e2 => ?_⟩
    have : b = r.nm := List.mem_singleton.mp hb
    exact hnm g hg (e2.trans (e.trans this))
   ·rw [List.map_append, List.nodup_append]
    refine ⟨I.hs.sts, List.nodup_cons.mpr ⟨List.not_mem_nil, List.Pairwise.nil⟩, fun a ha b hb e => E12 (List.mem_map.mp ha) fun g hg e2 => ?_⟩
    have : b = r.st := List.mem_singleton.mp hb
    exact (clash_no (hcl g hg)).2.1 ((e2.trans (e.trans this)).symm)
  have em : (S.held ++ [r]).map heldOf = S.held.map heldOf ++ [heldOf r] := List.map_append
  refine ⟨I.ch.append ?_, HS', ht.1 ▸ ht.2, fun g hg => (List.mem_append.mp hg).elim (I.uo g) fun z => by rw [List.mem_singleton.mp z]; exact huo, ?_⟩
  ·rw [h]
   refine Ch.one (s := ⟨.set r.nm, "done", ⟨turnL S.spots r.nd, [u], (S.held ++ [r]).map heldOf⟩⟩) ?_ (sinv_u us (ht.1 ▸ ht.2) (hinv_rest L.toLH HS'))
   rw [em, ht.1]; exact hstep
  ·refine List.pairwise_append.mpr ⟨I.apart, List.pairwise_singleton _ _, fun a ha b hb s hs z => ?_⟩
   rw [List.mem_singleton.mp hb] at z
   exact (clash_no (hcl a ha)).1 s z hs
 ·rw [if_neg h] at hstep ⊢
  exact ⟨I.ch.append (Ch.one (s := ⟨.set r.nm, dueOf lay u S r, ⟨S.spots, [u], S.held.map heldOf⟩⟩) hstep (sinv_u us I.pos (hinv_rest L.toLH I.hs))), I.hs, I.pos, I.uo, I.apart⟩
theorem trip1_ok (L : L1H lay) (us : u ∈ lay.secs) {S : SS} {mode : Int} (I : SSI lay u S) (hm0 : 0 ≤ mode) (hm4 : mode ≤ 4) : SSI lay u (trip1 lay u S mode) ∧ (trip1 lay u S mode).held = S.held.tail := by
 unfold trip1
 obtain ⟨spots, held, steps⟩ := S
 cases held with
 | nil => exact ⟨I, rfl⟩
 | cons r hs =>
  dsimp only
  have hr := I.hs.mem r (.head _)
  have H : TH lay r hs spots u := ⟨I.hs, Nat.le_of_succ_le_succ I.hs.len, (List.pairwise_cons.mp I.apart).1, I.uo r (.head _), us, I.pos⟩
  exact ⟨⟨I.ch.append (trip_ok L.toLH H (L.rt r hr).1 hm0 hm4 dec_iff), I.hs.tail, I.pos, fun g hg => I.uo g (.tail _ hg), (List.pairwise_cons.mp I.apart).2⟩, rfl⟩
theorem hinv_nil : HInv lay [] := ⟨Nat.zero_le _, List.Pairwise.nil, (fun _ h => nomatch h), (fun _ h => nomatch h), (fun _ h => nomatch h), List.Pairwise.nil⟩
theorem sinv_e {pos : List (Str × Str)} (h : pos.map (·.1) = lay.pts.map (·.1)) : SInv lay ⟨pos, [], []⟩ := ⟨h, rfl, List.Pairwise.nil, Nat.zero_le _, (fun _ h => nomatch h), hinv_nil⟩
theorem move_e {pos : List (Str × Str)} {p x : Str} (h : p ∈ lay.pts.map (·.1)) : stepH lay ⟨pos, [], []⟩ (.move p x) = (⟨tset pos p x, [], []⟩, ("done" : Str)) := by
 show (if p ∈ lay.pts.map (·.1) then (if lockH lay [] [] p = true then _ else _) else _) = _
 rw [if_pos h, if_neg]
 rw [lock_iff]
 rintro (h | ⟨_, h, _⟩) <;> cases h
theorem story_ok (L : L1H lay) (us : u ∈ lay.secs) {x y : Str} (hx : x ∈ (["+", "-"] : List Str)) (hy : y ∈ (["+", "-"] : List Str)) {ra rb : Rt} (ha : ra ∈ lay.rts) (hb : rb ∈ lay.rts) (hne : ra.nm ≠ rb.nm) {m1 m2 : Int} (h1 : 0 ≤ m1 ∧ m1 ≤ 4) (h2 : 0 ≤ m2 ∧ m2 ≤ 4) :
  SInv lay sta0 ∧ Ch lay sta0 (storyL lay x y u ra rb m1 m2) sta0 := by
 have hp : lay.pts.map (·.1) = (["p", "q"] : List Str) := by obtain ⟨a, b, e⟩ := L.pts; rw [e]; rfl
 have hpp : ("p" : Str) ∈ lay.pts.map (·.1) := by rw [hp]; exact .head _
 have hpq : ("q" : Str) ∈ lay.pts.map (·.1) := by rw [hp]; exact .tail _ (.head _)
 have I0 : SInv lay sta0 := sinv_e (hp ▸ rfl)
 refine ⟨I0, ?_⟩
 have S0 : SSI lay u (ss0 x y u) := by
  refine ⟨?_, ⟨(fun _ h => nomatch h), List.Pairwise.nil, List.Pairwise.nil, Nat.zero_le _⟩, hp ▸ rfl, (fun _ h => nomatch h), List.Pairwise.nil⟩
  refine ⟨(move_e hpp).trans ?_, sinv_e (hp ▸ rfl), (move_e hpq).trans ?_, sinv_e (hp ▸ rfl), ?_, sinv_u us (hp ▸ rfl) hinv_nil, rfl⟩
  ·rfl
  ·rfl
  ·show (if u ∈ lay.secs then (if u ∈ ([] : List Str) then _ else _) else _) = _
   rw [if_pos us, if_neg List.not_mem_nil]
   have : sortL ([] ++ [u]) = [u] := (sortL_eq (List.Perm.refl [u]) rfl).symm
   show (Sta.mk _ (sortL ([] ++ [u])) _, _) = _
   rw [this]; rfl
 have S1 := set1_ok L us S0 (Nat.zero_le _) ha (fun _ h => nomatch h) (fun _ h => nomatch h)
 have hS1 : ∀ h ∈ (set1 lay u (ss0 x y u) ra).held, h = ra ∧ (set1 lay u (ss0 x y u) ra).spots = tfold ra.nd [("p", x), ("q", y)] := by
  unfold set1
  split
  ·intro h hh
   exact ⟨List.mem_singleton.mp hh, (turn_eq L ha S0.pos).1⟩
  ·intro h hh; exact nomatch hh
 have hl1 : (set1 lay u (ss0 x y u) ra).held.length ≤ 1 := by
  unfold set1
  split
  ·exact Nat.le_refl _
  ·exact Nat.zero_le _
 have S2 := set1_ok L us S1 hl1 hb (fun h hh => by rw [(hS1 h hh).1]; exact hne) (fun h hh hc q hq hq1 => by
  rw [(hS1 h hh).2]
  rw [(hS1 h hh).1] at hc hq1
  exact nc_sat _ (L.rt ra ha).2 _ (L.rt rb hb).2 x hx y hy (clash_no hc).2.2 q hq hq1)
 have hl2 : (set1 lay u (set1 lay u (ss0 x y u) ra) rb).held.length ≤ 2 := by
  generalize set1 lay u (ss0 x y u) ra = S at *
  unfold set1
  split
  ·show (S.held ++ [rb]).length ≤ 2
   rw [List.length_append]; exact Nat.add_le_add_right hl1 1
  ·exact Nat.le_succ_of_le hl1
 have S3 := trip1_ok L us S2 h1.1 h1.2
 have S4 := trip1_ok L us S3.1 h2.1 h2.2
 have hnil : (trip1 lay u (trip1 lay u (set1 lay u (set1 lay u (ss0 x y u) ra) rb) m1) m2).held = [] := by
  rw [S4.2, S3.2]
  refine List.length_eq_zero_iff.mp ?_
  rw [List.length_tail, List.length_tail]
  exact Nat.sub_eq_zero_of_le (Nat.sub_le_of_le_add hl2)
 unfold storyL
 generalize trip1 lay u (trip1 lay u (set1 lay u (set1 lay u (ss0 x y u) ra) rb) m1) m2 = S at *
 have hch := S4.1.ch
 have hps := S4.1.pos
 rw [hnil] at hch
 obtain ⟨spots, held, steps⟩ := S
 rw [hp] at hps
 refine E21 (list2 (vs := spots) (by have h := congrArg List.length hps; rw [List.length_map] at h; exact h)) fun a b e0 => ?_
 have e0 : spots = [a, b] := e0
 subst e0
 obtain ⟨p', x'⟩ := a
 obtain ⟨q', y'⟩ := b
 ·have e1 : p' = "p" := (List.cons.inj hps).1
  have e2 : q' = "q" := (List.cons.inj (List.cons.inj hps).2).1
  subst e1; subst e2
  refine hch.append ⟨?_, sinv_e (hp ▸ rfl), (move_e hpq).trans ?_, sinv_e (hp ▸ rfl), (move_e hpp).trans ?_, I0, rfl⟩
  ·show (if u ∈ lay.secs then (if u ∈ ([u] : List Str) then _ else _) else _) = _
   rw [if_pos us, if_pos (.head _)]
   show (Sta.mk _ (List.filter _ [u]) [], _) = _
   rw [List.filter_cons_of_neg (by show ¬ decide (u ≠ u) = true; simp)]; rfl
  ·rfl
  ·rfl
end
end Mine
end
noncomputable section
set_option maxRecDepth 100000
set_option maxHeartbeats 2000000
namespace Mine
open PySem PySem.SeqAt PyProof.Rows
theorem call_top {c : Cx} {fd : FuncData} {a : Addr} {n : Nat} {ps : List Str} {Xs : List V} {post : V → Prop} {body : List Stmt} {A : Around} {Z P : Addr → Prop} {s : Shared} {vs : List Value} {Q : Value → Shared → Prop} (F : FnAt c a fd) (D : DefOk fd ps body) (hlen : Xs.length = ps.length)
  (hR : Rm (n + 1) A) (I : Inv c Z P s.heap) (hX : RdL c Z s.heap Xs vs)
  (h : ∀ L, WSs c (A.deeper (callEnvC fd L a)) (callEnvC fd L a) ⟨ps.zip Xs, []⟩ body fun f _ => post (retV f))
  (hQ : ∀ v X Z' h' tk dr, Step Z P s.heap Z' h' → Rd c Z' h' X v → post X → Q v { s with heap := h', toks := tk, drawn := dr }) : wpAny c.M A (call (.ref a) vs) Q (fun _ _ => False) s := by
 refine E12 F.obj fun o ho hd => ?_
 have hl : vs.length = ps.length := by rw [← hX.length]; exact hlen
 have hdep := hR.depth
 refine wpAny_call (codeAny_call_cells (by omega) (I.ground a o ho).2 hd (I.top.nolimit.keeps fun b o e => (I.ground b o e).2) (F.code.keeps fun b o e => (I.ground b o e).2) D.body (D.bind vs hl) D.clo ?_ ?_ D.co D.gen D.fn)
 ·intro x hx
  have hm : x.1 ∈ ps := by
   have := List.mem_map_of_mem (f := (·.1)) hx
   rwa [zip_fst hl.symm] at this
  rcases D.kinds x.1 hm with h | h
  ·exact .inl h
  ·exact .inr ⟨h, cellsFrom_some h⟩
 ·intro s₁ x
  refine E21 x.toInCall.same fun h₁ tk₁ z2 => ?_; subst z2
  have hkp : Kp s.heap h₁ := x.toInCall.keep
  have hL : s.heap.get? s.heap.objs.size = none := fresh_none _ _ (Nat.le_refl _)
  have hnone : ∀ b, OwnA (callEnvC fd s.heap.objs.size a) b → s.heap.get? b = none := by
   rintro b (rfl | ⟨x', _, h2⟩)
   ·exact hL
   ·exact fresh_none _ _ (Nat.le_of_lt (x.above x' b (PySem.mem_of_lookup h2)))
  have R : Rel c Z P (callEnvC fd s.heap.objs.size a) ⟨ps.zip Xs, []⟩ h₁ := {
   inv := I.kp hkp
   fn := D.fn
   gl := D.gl
   bl := D.bl
   ns := ⟨_, x.toInCall.ns⟩
   cells := fun y hy => by
    obtain ⟨cl, hcl⟩ := Option.isSome_iff_exists.mp (cellsFrom_some (n := s.heap.objs.size + 1) (acc := []) hy)
    exact (I22 cl _ hcl (x.cell y cl hcl))
   inj := fun y z cl _ _ h1 h2 => name_of_addr x.apart (PySem.mem_of_lookup h1) (PySem.mem_of_lookup h2)
   cellL := fun y cl _ h1 => Nat.ne_of_gt (x.above y cl (PySem.mem_of_lookup h1))
   freeP := fun y cl h1 _ => absurd rfl (D.noFree (y, .free) (PySem.mem_of_lookup h1))
   own := fun b hb => by
    refine ⟨fun z => ?_, fun p => ?_⟩
    ·obtain ⟨o, e⟩ := I.exZ b z; rw [hnone b hb] at e; cases e
    ·obtain ⟨o, e⟩ := I.exP b p; rw [hnone b hb] at e; cases e
   vars := fun y Y e => by
    refine E12 (zip_rd hX e) fun v hv rv => ?_
    refine (I12 v ?_ (rv.kp hkp))
    have hnd : ((ps.zip vs).map (·.1)).Nodup := by rw [zip_fst hl.symm]; exact D.nodup
    have hm : y ∈ ps := by
     have := List.mem_map_of_mem (f := (·.1)) (PySem.mem_of_lookup hv)
     rwa [zip_fst hl.symm] at this
    rcases D.kinds y hm with h | h
    ·exact .inl (I02 h (I12 _ x.toInCall.ns (bindL_get hnd hv h)))
    ·obtain ⟨cl, hcl⟩ := Option.isSome_iff_exists.mp (cellsFrom_some (n := s.heap.objs.size + 1) (acc := []) h)
     refine .inr (I02 (.inl h) (I12 cl hcl ?_))
     have := x.cell y cl hcl
     rwa [bindC_get hnd hv h] at this
   hp := ⟨fun b ob hb => (by cases hb), List.Pairwise.nil⟩
   hpOff := fun b ob hb hown => by cases hb }
  refine wpAny_mono ((h _).run (hR.deeper _).ok Z P _ R) ?_ fun _ _ x => x.elim
  refine fun f _ => R65 fun Z₁ h₂ tk₂ dr₂ fv σ₁ z6 S₁ R₁ rf k₁ => ?_; subst z6
  have S₀ : Step Z P s.heap Z₁ h₂ := (Step.kp hkp).trans S₁
  cases rf with
  | ret r => exact hQ _ _ Z₁ h₂ tk₂ dr₂ S₀ r k₁
  | next => exact hQ _ _ Z₁ h₂ tk₂ dr₂ S₀ .none k₁
  | brk => exact hQ _ _ Z₁ h₂ tk₂ dr₂ S₀ .none k₁
  | cont => exact hQ _ _ Z₁ h₂ tk₂ dr₂ S₀ .none k₁
theorem call_topD {c : Cx} {a : Addr} {D : DefD} {n : Nat} {ps : List Str} {Xs : List V} {post : V → Prop} {body : List Stmt} {A : Around} {Z P : Addr → Prop} {s : Shared} {vs : List Value} {Q : Value → Shared → Prop} (F : IsFn c a D) (K : DefK D ps body) (hlen : Xs.length = ps.length)
  (hR : Rm (n + 1) A) (I : Inv c Z P s.heap) (hX : RdL c Z s.heap Xs vs)
  (h : ∀ qual code L, WSs c (A.deeper (envD D qual code L a)) (envD D qual code L a) ⟨ps.zip Xs, []⟩ body fun f _ => post (retV f))
  (hQ : ∀ v X Z' h' tk dr, Step Z P s.heap Z' h' → Rd c Z' h' X v → post X → Q v { s with heap := h', toks := tk, drawn := dr }) : wpAny c.M A (call (.ref a) vs) Q (fun _ _ => False) s := by
 refine E51 F fun nm qual pm code doc M => ?_; clear F
 refine call_top (ps := ps) (body := body) M.fn ⟨?_, rfl, rfl, rfl, K.fn, K.co, K.gen, K.bind nm qual pm code doc, K.nodup, K.kinds, K.noFree⟩ hlen hR I hX (fun L => ?_) hQ
 ·show FuncBody.stmts D.body = _
  rw [K.body]
 ·exact h qual code L
theorem lh_layout (p q s t : Int) (g : Nat → Int) : L1H (layout1 p q s t [⟨"A", g 4, g 5, g 6, g 7⟩, ⟨"B", g 8, g 9, g 10, g 11⟩, ⟨"C", g 12, g 13, g 14, g 15⟩]) := by
 have hr : ∀ r ∈ (layout1 p q s t [⟨"A", g 4, g 5, g 6, g 7⟩, ⟨"B", g 8, g 9, g 10, g 11⟩, ⟨"C", g 12, g 13, g 14, g 15⟩]).rts, r.ov ∈ oversL ∧ r.nd ∈ needsL ∧ r.st ∈ (["S", "T", "U"] : List Str) := fun r hr => E12 (List.mem_map.mp hr) fun k hk e => by
  rw [← e]; exact ⟨pick_mem (by decide), pick_mem (by decide), pick_mem (by decide)⟩
 have f1 : ∀ l ∈ oversL, l.Nodup ∧ l.length ≤ 3 ∧ ∀ s ∈ l, s ∈ secsL := by decide
 have f2 : ∀ l ∈ needsL, l.length ≤ 20 := by decide
 have f3 : ∀ l ∈ needsL, ∀ q ∈ l, q.1 ∈ (["p", "q"] : List Str) := by decide
 have f4 : ∀ x ∈ (["S", "T", "U"] : List Str), x ∈ (["S", "T", "U"] : List Str) ∧ x ≠ "" := by decide
 exact {
  rnd := by show (["A", "B", "C"] : List Str).Nodup; decide
  pnd := by show (["p", "q"] : List Str).Nodup; decide
  snd := by show (["S", "T", "U"] : List Str).Nodup; decide
  ov := fun r h => f1 _ (hr r h).1
  ndl := fun r h => f2 _ (hr r h).2.1
  ndp := fun r h => f3 _ (hr r h).2.1
  st := fun r h => f4 _ (hr r h).2.2
  rl := by show 3 ≤ 3; decide
  pl := by show 2 ≤ 4; decide
  sl := by show 3 ≤ 20; decide
  scl := by show 5 ≤ 20; decide
  nX := by show ("X" : Str) ∉ (["A", "B", "C"] : List Str); decide
  np := by show ("p" : Str) ∉ secsL; decide
  nS := by show ("S" : Str) ∉ secsL; decide
  na := by show ("a" : Str) ∉ (["p", "q"] : List Str); decide
  pts := ⟨_, _, rfl⟩
  rt := fun r h => ⟨(hr r h).1, (hr r h).2.1⟩ }
theorem prs_app (a b : List (Str × Str)) : prs a ++ prs b = prs (a ++ b) := by rw [prs_map, prs_map, prs_map, List.map_append]
theorem or_dec {p q : Prop} [Decidable p] [Decidable q] : p ∨ q ↔ (decide p || decide q) = true := by rw [Bool.or_eq_true, decide_eq_true_eq, decide_eq_true_eq]
noncomputable def pairsOf (l : List (Rt × Rt)) : List (Str × Str) := (l.filter fun p => lawClash p.1 p.2).map fun p => (p.1.nm, p.2.nm)
theorem pairs_conf {r0 r1 r2 : Rt} (h : ∀ a ∈ [r0, r1, r2], a.nd ∈ needsL) : pairsOf [(r0, r1), (r0, r2), (r1, r2)] = confL [r0, r1, r2] := by
 have e1 := clash_law (h r0 (.head _)) (h r1 (.tail _ (.head _)))
 have e2 := clash_law (h r0 (.head _)) (h r2 (.tail _ (.tail _ (.head _))))
 have e3 := clash_law (h r1 (.tail _ (.head _))) (h r2 (.tail _ (.tail _ (.head _))))
 unfold pairsOf confL confL confL confL
 rw [List.filter_cons, List.filter_cons, List.filter_cons, List.filter_nil, e1, e2, e3, List.filter_cons, List.filter_cons, List.filter_nil, List.filter_cons, List.filter_nil]
 cases clashB r0 r1 <;> cases clashB r0 r2 <;> cases clashB r1 r2 <;> rfl
theorem om3 {i : Int} (h : 0 ≤ i) (h' : i < 3) : i = 0 ∨ i = 1 ∨ i = 2 := by omega
theorem om2 {i : Int} (h : 0 ≤ i) (h' : i < 2) : i = 0 ∨ i = 1 := by omega
theorem om5 {i : Int} (h : i < 5) : i ≤ 4 := by omega
theorem omN {a b : Nat} (h : a + (b + 1) = 2) : a ≤ 1 := by omega
theorem pick_ne {l : List Rt} {d : Rt} {i j : Int} (hl : l.length = 3) (hnd : (l.map Rt.nm).Nodup) : (pick l d i).nm ≠ (pick l d (i.fmod 3 + 1 + j.fmod 2)).nm := by
 refine E31 (list3 hl) fun a b e z => ?_
 subst z
 ·have h1 := Int.fmod_lt_of_pos i (show (0 : Int) < 3 by decide)
  have h2 := Int.fmod_nonneg_of_pos i (show (0 : Int) < 3 by decide)
  have h3 := Int.fmod_lt_of_pos j (show (0 : Int) < 2 by decide)
  have h4 := Int.fmod_nonneg_of_pos j (show (0 : Int) < 2 by decide)
  have hab : a.nm ≠ b.nm := fun z => (List.nodup_cons.mp hnd).1 (z ▸ .head _)
  have hae : a.nm ≠ e.nm := fun z => (List.nodup_cons.mp hnd).1 (z ▸ .tail _ (.head _))
  have hbe : b.nm ≠ e.nm := fun z => (List.nodup_cons.mp (List.nodup_cons.mp hnd).2).1 (z ▸ .head _)
  show (([a, b, e] : List Rt).getD (i.fmod 3).toNat d).nm ≠ (([a, b, e] : List Rt).getD ((i.fmod 3 + 1 + j.fmod 2).fmod 3).toNat d).nm
  have hi := om3 h2 h1
  have hj := om2 h4 h3
  rcases hi with e1 | e1 | e1 <;> rcases hj with e2 | e2 <;> rw [e1, e2]
  ·exact hab
  ·exact hae
  ·exact hbe
  ·exact hab.symm
  ·exact hae.symm
  ·exact hbe.symm
structure SZ (lay : Lay) (k : Nat) (S : SS) : Prop where
 mem : ∀ h ∈ S.held, h ∈ lay.rts
 hl : S.held.length ≤ k
 sl : S.steps.length ≤ k
 sp : ∃ x y : Str, S.spots = ([("p", x), ("q", y)] : List (Str × Str))
theorem set1_sz {lay : Lay} {u : Str} {k : Nat} {S : SS} {r : Rt} (h : SZ lay k S) (hr : r ∈ lay.rts) : SZ lay (k + 1) (set1 lay u S r) := by
 unfold set1
 split
 ·exact ⟨fun g hg => (List.mem_append.mp hg).elim (h.mem g) fun z => by rw [List.mem_singleton.mp z]; exact hr, by rw [List.length_append]; exact Nat.add_le_add_right h.hl 1, by rw [List.length_append]; exact Nat.add_le_add_right h.sl 1, ⟨_, _, rfl⟩⟩
 ·exact ⟨h.mem, Nat.le_succ_of_le h.hl, by rw [List.length_append]; exact Nat.add_le_add_right h.sl 1, h.sp⟩
theorem trip_len {r : Rt} {rest : List Held} {waits : Bool} {mode : Int} {spots : List (Str × Str)} {u : Str} (h : r.ov.length ≤ 3) : (trip r rest waits mode spots u).length ≤ 14 := by
 have hp : (preOf r rest waits spots u).length ≤ 2 := by unfold preOf; split <;> exact Nat.le_of_ble_eq_true rfl
 unfold trip
 split
 ·split
  ·rw [List.length_append]; exact Nat.le_trans (Nat.add_le_add_right hp 2) (by decide)
  ·exact Nat.le_of_ble_eq_true rfl
 ·rw [List.length_append, mrun_len]
  exact Nat.add_le_add hp (moves_len h)
theorem trip1_sz {lay : Lay} {u : Str} {k : Nat} {S : SS} {mode : Int} (L : LH lay) (h : SZ lay k S) : SZ lay (k + 14) (trip1 lay u S mode) := by
 unfold trip1
 obtain ⟨spots, held, steps⟩ := S
 cases held with
 | nil => exact ⟨h.mem, Nat.zero_le _, Nat.le_trans h.sl (Nat.le_add_right _ _), h.sp⟩
 | cons r hs =>
  refine ⟨fun g hg => h.mem g (.tail _ hg), ?_, ?_, h.sp⟩
  ·exact Nat.le_trans (Nat.le_of_succ_le h.hl) (Nat.le_add_right _ _)
  ·show (steps ++ _).length ≤ _
   rw [List.length_append]
   exact Nat.add_le_add h.sl (trip_len (L.ov r (h.mem r (.head _))).2.1)
noncomputable def D_law : DefD := defD PP.main.body[20]?
theorem k_law : DefK D_law ["script"] D_law.body where
 body := rfl
 fn := rfl
 co := rfl
 gen := rfl
 bind := by
  intro nm qual pm code doc vs h
  obtain ⟨x, rfl⟩ := list1 h; rfl
 nodup := by decide
 kinds := by decide
 noFree := by decide
noncomputable def locA (ys : List V) (lay : Lay) (d : Addr) : List (Str × V) := [("script", .lst ys), ("lay", lay.v), ("spare", lay.v), ("rs", .lst (lay.rts.map Rt.v)), ("pairs", .ref d)]
noncomputable def locS (ys : List V) (lay : Lay) (u : Str) (S : SS) (d : Addr) : List (Str × V) := [("script", .lst ys), ("lay", lay.v), ("spare", lay.v), ("told", .lst (prs (confL lay.rts))), ("u", .str u), ("spots", .lst (prs S.spots)), ("held", .lst (S.held.map Rt.v)), ("steps", .ref d)]
theorem spec_law {c : Cx} {A : Around} (G : Core c) (GL : LCore c) {a : Addr} (F : IsFn c a D_law) (hR : Rm 8 A) {xs : List Int} (hxl : xs.length ≤ 63) {Z P : Addr → Prop} {s : Shared} {vs : List Value} {Q : Value → Shared → Prop}
  (I : Inv c Z P s.heap) (hX : RdL c Z s.heap [.lst (xs.map .int)] vs) (hQ : ∀ v Z' h' tk dr, Step Z P s.heap Z' h' → Rd c Z' h' (.bool true) v → Q v { s with heap := h', toks := tk, drawn := dr }) : wpAny c.M A (call (.ref a) vs) Q (fun _ _ => False) s := by
 refine call_topD (n := 7) (post := fun X => X = .bool true) F k_law rfl hR I hX (fun qual code Lc => ?_) fun v X Z' h' tk dr S r e => hQ v Z' h' tk dr S (e ▸ r)
 have hR' := hR.deeper (envD D_law qual code Lc a)
 generalize A.deeper (envD D_law qual code Lc a) = A' at hR'
 conv in D_law.body => whnf
 refine WP.imp (k := RetK (.bool true)) ?_ fun f _ e => congrArg retV e
 refine sIfR (tp_lt (ev_CallB GL.b_len rfl (.blt _) rfl (evs (ev_N rfl) evs0) (b_len_lst (by rw [List.length_map]; exact sz100 (Nat.le_trans hxl (by decide))))) ev_i) (fun _ => ev_b) fun h24 => ?_
 rw [List.length_map] at h24
 have hg : ∀ i : Nat, i < 24 → (xs.map V.int)[i]? = some (.int (xs.getD i 0)) := by
  intro i hi
  rw [List.getElem?_map, List.getElem?_eq_getElem (by omega), List.getD_eq_getElem?_getD, List.getElem?_eq_getElem (by omega)]
  rfl
 generalize xs.map V.int = ys at *
 generalize hgg : (fun i => xs.getD i 0) = g at *
 have hg : ∀ i : Nat, i < 24 → ys[i]? = some (.int (g i)) := by
  intro i hi; rw [hg i hi, ← hgg]
 refine sSet (X := .tup (([⟨"A", g 4, g 5, g 6, g 7⟩, ⟨"B", g 8, g 9, g 10, g 11⟩, ⟨"C", g 12, g 13, g 14, g 15⟩] : List Pick).map Pick.v)) (.inl rfl) (ev_Tup (evs (ev_Tup (evs ev_s (evs (ev_atL rfl (hg 4 (by decide))) (evs (ev_atL rfl (hg 5 (by decide))) (evs (ev_atL rfl (hg 6 (by decide))) (evs (ev_atL rfl (hg 7 (by decide))) evs0))))) n5) (evs (ev_Tup (evs ev_s (evs (ev_atL rfl (hg 8 (by decide))) (evs (ev_atL rfl (hg 9 (by decide))) (evs (ev_atL rfl (hg 10 (by decide))) (evs (ev_atL rfl (hg 11 (by decide))) evs0))))) n5) (evs (ev_Tup (evs ev_s (evs (ev_atL rfl (hg 12 (by decide))) (evs (ev_atL rfl (hg 13 (by decide))) (evs (ev_atL rfl (hg 14 (by decide))) (evs (ev_atL rfl (hg 15 (by decide))) evs0))))) n5) evs0))) n3) ?_
 have hlay : Pure c 7 GL.a_layout [.int (g 0), .int (g 1), .int (g 2), .int (g 3), .tup (([⟨"A", g 4, g 5, g 6, g 7⟩, ⟨"B", g 8, g 9, g 10, g 11⟩, ⟨"C", g 12, g 13, g 14, g 15⟩] : List Pick).map Pick.v)] (layout1 (g 0) (g 1) (g 2) (g 3) [⟨"A", g 4, g 5, g 6, g 7⟩, ⟨"B", g 8, g 9, g 10, g 11⟩, ⟨"C", g 12, g 13, g 14, g 15⟩]).v :=
  spec_layout GL.F_layout GL.b_list GL.v_secs GL.v_signs GL.v_overs GL.v_needs (Nat.le_of_ble_eq_true rfl)
 have L := lh_layout (g 0) (g 1) (g 2) (g 3) g
 have h0 : ((layout1 (g 0) (g 1) (g 2) (g 3) [⟨"A", g 4, g 5, g 6, g 7⟩, ⟨"B", g 8, g 9, g 10, g 11⟩, ⟨"C", g 12, g 13, g 14, g 15⟩]).pts.map fun q => (q.1, ("+" : Str))) = sta0.pos := rfl
 have hsec : (layout1 (g 0) (g 1) (g 2) (g 3) [⟨"A", g 4, g 5, g 6, g 7⟩, ⟨"B", g 8, g 9, g 10, g 11⟩, ⟨"C", g 12, g 13, g 14, g 15⟩]).secs = secsL := rfl
 have hr3 : (layout1 (g 0) (g 1) (g 2) (g 3) [⟨"A", g 4, g 5, g 6, g 7⟩, ⟨"B", g 8, g 9, g 10, g 11⟩, ⟨"C", g 12, g 13, g 14, g 15⟩]).rts.length = 3 := rfl
 refine sSet (.inl rfl) (ev_Pure GL.g_layout GL.F_layout rfl (evs (ev_atL rfl (hg 0 (by decide))) (evs (ev_atL rfl (hg 1 (by decide))) (evs (ev_atL rfl (hg 2 (by decide))) (evs (ev_atL rfl (hg 3 (by decide))) (evs (ev_N rfl) evs0))))) hR' hlay) ?_
 refine sSet (.inl rfl) (ev_Pure GL.g_layout GL.F_layout rfl (evs (ev_atL rfl (hg 0 (by decide))) (evs (ev_atL rfl (hg 1 (by decide))) (evs (ev_atL rfl (hg 2 (by decide))) (evs (ev_atL rfl (hg 3 (by decide))) (evs (ev_N rfl) evs0))))) hR' hlay) ?_
 clear hlay
 generalize layout1 (g 0) (g 1) (g 2) (g 3) [⟨"A", g 4, g 5, g 6, g 7⟩, ⟨"B", g 8, g 9, g 10, g 11⟩, ⟨"C", g 12, g 13, g 14, g 15⟩] = lay at *
 have LO := layOk_of L.toLH
 refine E31 (list3 hr3) fun r0 r1 r2 hrts => ?_
 have hmem : ∀ r ∈ [r0, r1, r2], r ∈ lay.rts := fun r h => hrts ▸ h
 refine wSs_cons (wS_Swap (names := ["rs", "pairs"]) (wE_Tuple (wEs_cons ((ev_at rfl rfl).run _ (wEs_cons (wE_ListO (wEs_nil ⟨Nat.zero_le _, fun d _ => wEs_nil ⟨sz10 n2, [.lst (lay.rts.map Rt.v), .ref d], rfl, rfl, wNs_cons (.inl rfl) (wNs_cons (.inl rfl) (wNs_nil ?_))⟩⟩))))))) 
 have hget : ∀ (i : Nat) (r : Rt), [r0, r1, r2][i]? = some r → (lay.rts.map Rt.v)[i]? = some r.v := fun i r h => by rw [List.getElem?_map, hrts, h]; rfl
 refine sFoldG (ls := [(r0, r1), (r0, r2), (r1, r2)]) (f := fun p : Rt × Rt => V.tup [p.1.v, p.2.v]) (I := fun dn _ τ => τ = ⟨locA ys lay d, [(d, .lst (prs (pairsOf dn)))]⟩) (ev_Tup (evs (ev_Tup (evs (ev_atL rfl (hget 0 r0 rfl)) (evs (ev_atL rfl (hget 1 r1 rfl)) evs0)) n2) (evs (ev_Tup (evs (ev_atL rfl (hget 0 r0 rfl)) (evs (ev_atL rfl (hget 2 r2 rfl)) evs0)) n2) (evs (ev_Tup (evs (ev_atL rfl (hget 1 r1 rfl)) (evs (ev_atL rfl (hget 2 r2 rfl)) evs0)) n2) evs0))) n3) seq_tup rfl (τ₀ := ⟨locA ys lay d, [(d, .lst (prs []))]⟩) (le_loc ⟨rfl, rfl, rfl, rfl, rfl, trivial⟩) rfl ?_ ?_
 ·intro dn p td τ hdn hI k' hk
  subst hI
  have hp : p ∈ [(r0, r1), (r0, r2), (r1, r2)] := hdn ▸ List.mem_append_right _ (.head _)
  have hp12 : p.1 ∈ lay.rts ∧ p.2 ∈ lay.rts := by
   rw [hrts]
   rcases List.mem_cons.mp hp with rfl | hp
   ·exact ⟨.head _, .tail _ (.head _)⟩
   rcases List.mem_cons.mp hp with rfl | hp
   ·exact ⟨.head _, .tail _ (.tail _ (.head _))⟩
   rw [List.mem_singleton.mp hp]
   exact ⟨.tail _ (.head _), .tail _ (.tail _ (.head _))⟩
  have hdl : (pairsOf dn).length ≤ 3 := by
   unfold pairsOf
   rw [List.length_map]
   refine Nat.le_trans (List.length_filter_le _ _) ?_
   have := congrArg List.length hdn
   rw [List.length_append] at this
   exact Nat.le_trans (Nat.le_add_right _ _) (Nat.le_of_eq this)
  have e : prs (pairsOf (dn ++ [p])) = prs (pairsOf dn) ++ if lawClash p.1 p.2 = true then [V.tup [.str p.1.nm, .str p.2.nm]] else [] := by
   unfold pairsOf
   rw [List.filter_append, List.map_append, ← prs_app, List.filter_cons, List.filter_nil]
   congr 1
   split <;> rfl
  refine (av2 (.inl rfl) (.inl rfl)).run _ ?_
  refine sIfApp (P := lawClash p.1 p.2 = true) (X := .tup [.str p.1.nm, .str p.2.nm]) (tp_bool (ev_Pure GL.g_lclash GL.F_lclash rfl (evs (ev_N rfl) (evs (ev_N rfl) evs0)) hR' (spec_lclash (n := 6) GL.F_lclash GL.b_len (Nat.le_trans (L.ov _ hp12.1).2.1 (by decide)) (L.ndl _ hp12.1) (L.ndl _ hp12.2)))) rfl (ev_Tup (evs (ev_at rfl rfl) (evs (ev_at rfl rfl) evs0)) n2) (by rw [prs_len]; exact sz100 (Nat.le_trans hdl (by decide))) (wSs_nil (hk _ _ rfl ?_).1)
  rw [e]
  exact le_loc ⟨rfl, rfl, rfl, rfl, rfl, trivial⟩
 intro τ hI
 subst hI
 rw [pairs_conf fun a ha => (L.rt a (hmem a ha)).2, ← hrts]
 refine sFrz (pre := []) (x := "pairs") (d := d) rfl rfl ?_
 refine sSet (.inr rfl) (ev_Pure GL.g_conf GL.F_conf rfl (evs (ev_N rfl) evs0) hR' (spec_conflicts (n := 5) G GL.F_conf (Nat.le_trans L.rl (by decide)) fun r hr => ⟨Nat.le_trans (L.ov r hr).2.1 (by decide), Nat.le_trans (L.ndl r hr) (by decide)⟩)) ?_
 refine sIfF (tp_Cmp (ev_N rfl) (ev_N rfl) ne_prs ff_iff) id ?_
 refine sSwap3 (X := .str (pick spotsL "" (g 20))) (Y := .str (pick ["+", "-"] "" (g 21))) (Z := .str (pick ["+", "-"] "" (g 22))) rfl rfl rfl (ev_Tup (evs (ev_pick (ls := spotsL) (f := V.str) "" (ev_GV GL.v_spots rfl) (ev_atL rfl (hg 20 (by decide))) rfl (by decide) (by decide)) (evs (ev_Sub ev_s (ev_Bin (ev_atL rfl (hg 21 (by decide))) ev_i (bin_mod_int (by decide))) item_pm) (evs (ev_Sub ev_s (ev_Bin (ev_atL rfl (hg 22 (by decide))) ev_i (bin_mod_int (by decide))) item_pm) evs0))) n3) ?_
 have us : pick spotsL "" (g 20) ∈ lay.secs := by
  have f : ∀ l ∈ spotsL, l ∈ secsL := by decide
  rw [hsec]; exact f _ (pick_mem (by decide))
 have hx : pick (["+", "-"] : List Str) "" (g 21) ∈ (["+", "-"] : List Str) := pick_mem (by decide)
 have hy : pick (["+", "-"] : List Str) "" (g 22) ∈ (["+", "-"] : List Str) := pick_mem (by decide)
 generalize pick spotsL "" (g 20) = u at *
 generalize pick (["+", "-"] : List Str) "" (g 21) = x at *
 generalize pick (["+", "-"] : List Str) "" (g 22) = y at *
 refine sSwap2 (X := .lst (prs [("p", x), ("q", y)])) (Y := .lst (([] : List Rt).map Rt.v)) rfl rfl (ev_Tup (evs (ev_Lst (evs (ev_Tup (evs ev_s (evs (ev_N rfl) evs0)) n2) (evs (ev_Tup (evs ev_s (evs (ev_N rfl) evs0)) n2) evs0)) n2) (evs (ev_Lst evs0 n0) evs0)) n2) ?_
 refine sLstO (Xs := [Stp.v ⟨.move "p" x, "done", ⟨[("p", x), ("q", "+")], [], []⟩⟩, Stp.v ⟨.move "q" y, "done", ⟨[("p", x), ("q", y)], [], []⟩⟩]) (.inl rfl) (evs (ev_Tup (evs (ev_Tup (evs ev_s (evs ev_s (evs (ev_N rfl) evs0))) n3) (evs ev_s (evs (ev_Tup (evs (ev_Lst (evs (ev_Tup (evs ev_s (evs (ev_N rfl) evs0)) n2) (evs (ev_Tup (evs ev_s (evs ev_s evs0)) n2) evs0)) n2) (evs (ev_Lst evs0 n0) (evs (ev_Lst evs0 n0) evs0))) n3) evs0))) n3) (evs (ev_Tup (evs (ev_Tup (evs ev_s (evs ev_s (evs (ev_N rfl) evs0))) n3) (evs ev_s (evs (ev_Tup (evs (ev_N rfl) (evs (ev_Lst evs0 n0) (evs (ev_Lst evs0 n0) evs0))) n3) evs0))) n3) evs0)) n2 fun d => ?_
 refine sApp (X := Stp.v ⟨.enter u, "done", ⟨[("p", x), ("q", y)], [u], []⟩⟩) rfl (ev_Tup (evs (ev_Tup (evs ev_s (evs (ev_N rfl) evs0)) n2) (evs ev_s (evs (ev_Tup (evs (ev_N rfl) (evs (ev_one (f := V.str) (ev_N rfl)) (evs (ev_Lst evs0 n0) evs0))) n3) evs0))) n3) (sz10 n2) ?_
 have hne := pick_ne (d := r0) (i := g 16) (j := g 17) hr3 L.rnd
 have hra : pick lay.rts r0 (g 16) ∈ lay.rts := pick_mem (by rw [hr3]; decide)
 have hrb : pick lay.rts r0 ((g 16).fmod 3 + 1 + (g 17).fmod 2) ∈ lay.rts := pick_mem (by rw [hr3]; decide)
 have h3l : (3 : Int) = lay.rts.length := by rw [hr3]; rfl
 have h3p : 0 < lay.rts.length := by rw [hr3]; decide
 have h3s : lay.rts.length < 1000 := by rw [hr3]; decide
 have hS0 : SZ lay 3 (ss0 x y u) := ⟨(fun _ h => nomatch h), Nat.zero_le _, Nat.le_refl _, x, y, rfl⟩
 refine sFoldG (ls := [pick lay.rts r0 (g 16), pick lay.rts r0 ((g 16).fmod 3 + 1 + (g 17).fmod 2)]) (f := Rt.v) (I := fun dn _ τ => ∃ S, S = dn.foldl (set1 lay u) (ss0 x y u) ∧ SZ lay (3 + dn.length) S ∧ τ = ⟨locS ys lay u S d, [(d, .lst (S.steps.map Stp.v))]⟩) (ev_Tup (evs (ev_pickL (ls := lay.rts) r0 (ev_N rfl) (ev_atL rfl (hg 16 (by decide))) h3l h3p h3s) (evs (ev_pickL (ls := lay.rts) r0 (ev_N rfl) (ev_Bin (ev_Bin (ev_Bin (ev_atL rfl (hg 16 (by decide))) ev_i (bin_mod_int (by decide))) ev_i bin_add_int) (ev_Bin (ev_atL rfl (hg 17 (by decide))) ev_i (bin_mod_int (by decide))) bin_add_int) h3l h3p h3s) evs0)) n2) seq_tup rfl (τ₀ := ⟨locS ys lay u (ss0 x y u) d, [(d, .lst ((ss0 x y u).steps.map Stp.v))]⟩) (le_loc ⟨rfl, rfl, rfl, rfl, rfl, rfl, rfl, rfl, trivial⟩) ⟨_, rfl, hS0, rfl⟩ ?_ ?_
 ·intro dn r td τ hdn hI k' hk
  refine E13 hI fun S hS hz e => ?_
  clear hI; subst e
  have hr : r ∈ lay.rts := by
   have hp : r ∈ [pick lay.rts r0 (g 16), pick lay.rts r0 ((g 16).fmod 3 + 1 + (g 17).fmod 2)] := hdn ▸ List.mem_append_right _ (.head _)
   rcases List.mem_cons.mp hp with rfl | hp
   ·exact hra
   ·rw [List.mem_singleton.mp hp]; exact hrb
  have hdl : dn.length ≤ 1 := by
   have h := congrArg List.length hdn
   rw [List.length_append, List.length_cons] at h
   exact omN h
  have hz' := set1_sz (u := u) hz hr
  have hk2 : ∀ τ', St.le τ' ⟨locS ys lay u (set1 lay u S r) d, [(d, .lst ((set1 lay u S r).steps.map Stp.v))]⟩ → k' .next τ' := fun τ' hle => (hk τ' _ ⟨set1 lay u S r, by rw [List.foldl_append, ← hS]; rfl, by rw [List.length_append]; exact hz', rfl⟩ hle).1
  clear hk
  have hhl : S.held.length ≤ 4 := Nat.le_trans hz.hl (Nat.add_le_add_left hdl 3)
  have hsl : (S.steps.map Stp.v).length ≤ sizeLine := by rw [List.length_map]; exact sz100 (Nat.le_trans hz.sl (Nat.le_trans (Nat.add_le_add_left hdl 3) (by decide)))
  have hhz : S.held.length ≤ sizeLine := sz100 (Nat.le_trans hhl (by decide))
  have hspl : S.spots.length = 2 := by obtain ⟨x, y, e⟩ := hz.sp; rw [e]; rfl
  refine (av_N (.inr rfl)).run _ ?_
  refine sCompB (ls := S.held) (f := Rt.v) (fun h => decide ((h.nm, r.nm) ∈ confL lay.rts) || decide ((r.nm, h.nm) ∈ confL lay.rts)) inj_rt (cok rfl (by decide) (by decide)) (.inl rfl) (ev_N rfl) rfl hhz ?_ ?_
  ·exact fun C h hh H hH => tI (av_N (.inl rfl)) (tp_iff (tp_O2 (tp_Cmp (ev_Tup (evs (ev_at rfl rfl) (evs (ev_at rfl rfl) evs0)) n2) (ev_N rfl) (cmp_in_prs (p := h.nm) (x := r.nm)) dec_iff) fun _ => tp_Cmp (ev_Tup (evs (ev_at rfl rfl) (evs (ev_at rfl rfl) evs0)) n2) (ev_N rfl) (cmp_in_prs (p := r.nm) (x := h.nm)) dec_iff) or_dec) (fun _ => ev_N rfl) (ll1 rfl)
  refine sSet (X := .str (dueOf lay u S r)) (.inl rfl) (ev_Pure GL.g_due GL.F_due rfl (evs (ev_N rfl) (evs (ev_N rfl) (evs (ev_N rfl) (evs (ev_at rfl rfl) (evs (ev_N rfl) evs0))))) hR' (spec_ldue (n := 6) (r := r) (spots := S.spots) (points := lay.pts) (u := u) (rivals := rivalsL (confL lay.rts) S.held r) GL.F_due (L.ndl r hr) (Nat.le_trans (List.length_filter_le _ _) (Nat.le_trans hhl (by decide))))) ?_
  unfold set1 at hk2
  generalize dueOf lay u S r = due at *
  refine sIf (tp_eq (ev_N rfl) ev_s) (fun z => ?_) fun z => ?_
  ·rw [if_pos z] at hk2
   refine sSet (X := .dct (tv (tfold (S.spots ++ r.nd) []))) (.inl rfl) (ev_eq (ev_CallB GL.b_dict rfl (.type _) rfl (evs (ev_eq (ev_Bin (ev_N rfl) (ev_at rfl rfl) (bin_add_lst (by rw [prs_len, prs_len, hspl]; exact sz100 (Nat.le_trans (Nat.add_le_add_left (L.ndl r hr) 2) (by decide))))) (congrArg V.lst (prs_app _ _))) evs0) ((f_dict_pairs (ps := tv (S.spots ++ r.nd)) (by rw [tv, List.length_map, List.length_append, hspl]; exact sz100 (Nat.le_trans (Nat.add_le_add_left (L.ndl r hr) 2) (by decide)))).frz rfl)) (congrArg V.dct (tv_fold _ []))) ?_
   have hd : ∀ k : Str, k ∈ S.spots.map (·.1) → dget (tv (tfold (S.spots ++ r.nd) [])) k = some (.str ((tget (tfold (S.spots ++ r.nd) []) k).getD "")) := fun k hk => by
    have hs : (tget (tfold (S.spots ++ r.nd) []) k).isSome = true := by
     rw [tget_fold_some, List.map_append, decide_eq_true (List.mem_append_left _ hk)]; rfl
    obtain ⟨v, hv⟩ := Option.isSome_iff_exists.mp hs
    rw [tv_get, hv]; rfl
   have hkp : ("p" : Str) ∈ S.spots.map (·.1) := by obtain ⟨x, y, e⟩ := hz.sp; rw [e]; exact .head _
   have hkq : ("q" : Str) ∈ S.spots.map (·.1) := by obtain ⟨x, y, e⟩ := hz.sp; rw [e]; exact .tail _ (.head _)
   refine sSwap2 (X := .lst (prs (turnL S.spots r.nd))) (Y := .lst ((S.held ++ [r]).map Rt.v)) rfl rfl (ev_Tup (evs (ev_Lst (evs (ev_Tup (evs ev_s (evs (ev_Sub (ev_N rfl) ev_s (item_dct (hd "p" hkp))) evs0)) n2) (evs (ev_Tup (evs ev_s (evs (ev_Sub (ev_N rfl) ev_s (item_dct (hd "q" hkq))) evs0)) n2) evs0)) n2) (evs (ev_addM (f := Rt.v) (ev_N rfl) (ev_one (ev_N rfl)) (sz100 (Nat.le_trans (Nat.add_le_add_right hhl 1) (by decide)))) evs0)) n2) (wSs_nil ?_)
   refine sApp (X := Stp.v ⟨.set r.nm, due, ⟨turnL S.spots r.nd, [u], (S.held ++ [r]).map heldOf⟩⟩) rfl (ev_Tup (evs (ev_Tup (evs ev_s (evs (ev_at rfl rfl) evs0)) n2) (evs (ev_N rfl) (evs (ev_Tup (evs (ev_N rfl) (evs (ev_one (f := V.str) (ev_N rfl)) (evs (ev_CompY (ls := S.held ++ [r]) Held.v heldOf inj_rt (cok rfl (by decide) (by decide)) (ev_N rfl) rfl (by rw [List.length_append]; exact sz100 (Nat.le_trans (Nat.add_le_add_right hhl 1) (by decide))) ?_) evs0))) n3) evs0))) n3) hsl (wSs_nil (hk2 _ ?_))
   ·exact fun C h hh H hH => tM (av_N (.inl rfl)) (ev_Tup (evs (ev_at rfl rfl) (evs (ev_at rfl rfl) (evs ev_i (evs ev_i evs0)))) n4) (ll1 rfl)
   ·rw [List.map_append (f := Stp.v)]
    exact le_loc ⟨rfl, rfl, rfl, rfl, rfl, rfl, rfl, rfl, trivial⟩
  ·rw [if_neg z] at hk2
   refine wSs_nil (sApp (X := Stp.v ⟨.set r.nm, due, ⟨S.spots, [u], S.held.map heldOf⟩⟩) rfl (ev_Tup (evs (ev_Tup (evs ev_s (evs (ev_at rfl rfl) evs0)) n2) (evs (ev_N rfl) (evs (ev_Tup (evs (ev_N rfl) (evs (ev_one (f := V.str) (ev_N rfl)) (evs (ev_CompY (ls := S.held) Held.v heldOf inj_rt (cok rfl (by decide) (by decide)) (ev_N rfl) rfl hhz ?_) evs0))) n3) evs0))) n3) hsl (wSs_nil (hk2 _ ?_)))
   ·exact fun C h hh H hH => tM (av_N (.inl rfl)) (ev_Tup (evs (ev_at rfl rfl) (evs (ev_at rfl rfl) (evs ev_i (evs ev_i evs0)))) n4) (ll1 rfl)
   ·rw [List.map_append (f := Stp.v)]
    exact le_loc ⟨rfl, rfl, rfl, rfl, rfl, rfl, rfl, rfl, trivial⟩
 intro τ hI
 refine E13 hI fun S2 hS2 hz2 e => ?_
 clear hI; subst e
 have hfm : ∀ i : Int, 0 ≤ i.fmod 5 ∧ i.fmod 5 ≤ 4 := fun i => by
  exact ⟨Int.fmod_nonneg_of_pos i (by decide), om5 (Int.fmod_lt_of_pos i (by decide))⟩
 refine sFoldG (ls := [(g 18).fmod 5, (g 19).fmod 5]) (f := V.int) (I := fun dn _ τ => ∃ S d, S = dn.foldl (trip1 lay u) S2 ∧ SZ lay (5 + 14 * dn.length) S ∧ τ = ⟨locS ys lay u S d, [(d, .lst (S.steps.map Stp.v))]⟩) (ev_Tup (evs (ev_Bin (ev_atL rfl (hg 18 (by decide))) ev_i (bin_mod_int (by decide))) (evs (ev_Bin (ev_atL rfl (hg 19 (by decide))) ev_i (bin_mod_int (by decide))) evs0)) n2) seq_tup rfl (τ₀ := ⟨locS ys lay u S2 d, [(d, .lst (S2.steps.map Stp.v))]⟩) (St.le.refl _) ⟨_, d, rfl, hz2, rfl⟩ ?_ ?_
 ·intro dn m td τ hdn hI k' hk
  refine E23 hI fun S d hS hz e => ?_
  clear hI; subst e
  have hm : 0 ≤ m ∧ m ≤ 4 := by
   have hp : m ∈ [(g 18).fmod 5, (g 19).fmod 5] := hdn ▸ List.mem_append_right _ (.head _)
   rcases List.mem_cons.mp hp with rfl | hp
   ·exact hfm _
   ·rw [List.mem_singleton.mp hp]; exact hfm _
  have hdl : dn.length ≤ 1 := by
   have h := congrArg List.length hdn
   rw [List.length_append, List.length_cons] at h
   exact omN h
  have hz' := trip1_sz (u := u) (mode := m) L.toLH hz
  have hk2 : ∀ τ' d', St.le τ' ⟨locS ys lay u (trip1 lay u S m) d', [(d', .lst ((trip1 lay u S m).steps.map Stp.v))]⟩ → k' .next τ' := fun τ' d' hle => (hk τ' _ ⟨trip1 lay u S m, d', by rw [List.foldl_append, ← hS]; rfl, by rw [List.length_append, Nat.mul_add]; exact hz', rfl⟩ hle).1
  clear hk hS
  have h19 : 5 + 14 * dn.length ≤ 20 := Nat.le_trans (Nat.add_le_add_left (Nat.mul_le_mul_left 14 hdl) 5) (by decide)
  have hhl : S.held.length ≤ 20 := Nat.le_trans hz.hl h19
  have hsl : S.steps.length ≤ 20 := Nat.le_trans hz.sl h19
  refine (av_N (.inl rfl)).run _ ?_
  refine sIf (tp_lst (f := Rt.v) (xs := S.held) (ev_N rfl) (sz100 (le100 hhl))) (fun z => ?_) fun z => ?_
  ·obtain ⟨spots, held, steps⟩ := S
   cases held with
   | nil => exact absurd rfl z
   | cons r hs =>
    have hr := hz.mem r (.head _)
    have hov := (L.ov r hr).2.1
    obtain ⟨sv, hsv⟩ := tget_some (L.st r hr).1
    have hsv' : tget (tfold lay.sigs []) r.st = some sv := by rw [tfold_self L.snd]; exact hsv
    have htl := trip_len (r := r) (rest := hs.map heldOf) (waits := decide (sv = u)) (mode := m) (spots := spots) (u := u) hov
    have et : trip1 lay u ⟨spots, r :: hs, steps⟩ m = ⟨spots, hs, steps ++ trip r (hs.map heldOf) (decide (sv = u)) m spots u⟩ := by
     show SS.mk spots hs (steps ++ trip r (hs.map heldOf) (decide ((tget lay.sigs r.st).getD "" = u)) m spots u) = _
     rw [hsv]; rfl
    rw [et] at hk2
    refine wSs_cons (wS_Swap (names := ["steps", "held"]) (wE_Tuple (wEs_cons (wE_AddO ((ev_N rfl).run _ ⟨d, _, rfl, (ev_Pure (n := 7) GL.g_trip GL.F_trip rfl (evs (ev_N rfl) (evs (ev_Cmp (ev_Sub (ev_CallB GL.b_dict rfl (.type _) rfl (evs (ev_at rfl rfl) evs0) ((f_dict_pairs (ps := tv lay.sigs) (by rw [tv, List.length_map]; exact sz100 (le100 L.sl))).frz rfl)) (ev_T (ev_atL rfl rfl) rfl) (item_dct (dgetS hsv'))) (ev_N rfl) cmp_eq_str) (evs (ev_N rfl) (evs (ev_N rfl) (evs (ev_N rfl) evs0))))) hR' (spec_trip (n := 6) (r := r) (hs := hs) (spots := spots) (u := u) GL.F_trip GL.b_sorted (Nat.le_of_succ_le hhl) hov hm.1 hm.2)).run _ ⟨_, rfl, .head _, ?_, fun a _ => ?_⟩⟩)))))
    ·rw [List.length_map, List.length_map]; exact sz100 (Nat.le_trans (Nat.add_le_add hsl htl) (by decide))
    refine (evs (ev_slFrom (ys := r :: hs) (f := Rt.v) (i := 1) (ev_N rfl) (sz100 (le100 hhl)) ev_i (by decide)) evs0).run _ ⟨sz10 n2, [.ref a, .lst (hs.map Rt.v)], rfl, rfl, wNs_cons (.inl rfl) (wNs_cons (.inl rfl) (wNs_nil (wSs_nil (wSs_nil (hk2 _ a ?_)))))⟩
    rw [List.map_append (f := Stp.v)]
    exact le_ls ⟨rfl, rfl, rfl, rfl, rfl, rfl, rfl, rfl, trivial⟩ (List.Sublist.cons_cons _ (List.nil_sublist _))
  ·have et : trip1 lay u S m = S := by
    obtain ⟨spots, held, steps⟩ := S
    cases held with
    | nil => rfl
    | cons r hs => exact absurd (List.cons_ne_nil _ _) z
   rw [et] at hk2
   exact wSs_nil (wSs_nil (hk2 _ d (le_loc ⟨rfl, rfl, rfl, rfl, rfl, rfl, rfl, rfl, trivial⟩)))
 intro τ hI
 refine E23 hI fun S d hS hz e => ?_
 clear hI; subst e
 have hstory := story_ok L us hx hy hra hrb hne (hfm (g 18)) (hfm (g 19))
 have hst : ssEnd S u = storyL lay x y u (pick lay.rts r0 (g 16)) (pick lay.rts r0 ((g 16).fmod 3 + 1 + (g 17).fmod 2)) ((g 18).fmod 5) ((g 19).fmod 5) := by rw [hS, hS2]; rfl
 rw [← hst] at hstory
 unfold ssEnd at hstory
 have hsl : S.steps.length ≤ 33 := Nat.le_trans hz.sl (Nat.le_of_ble_eq_true rfl)
 have hap : ∀ k : Nat, k ≤ 10 → ∀ l : List V, l.length = k → (S.steps.map Stp.v ++ l).length ≤ sizeLine := fun k hk l hl => by
  rw [List.length_append, List.length_map, hl]; exact sz100 (Nat.le_trans (Nat.add_le_add hsl hk) (by decide))
 obtain ⟨x', y', hsp⟩ := hz.sp
 have hs0 : S.spots.getD 0 ("", "") = (("p", x') : Str × Str) := by rw [hsp]; rfl
 have hv0 : (prs S.spots)[0]? = some (V.tup [.str "p", .str x']) := by rw [hsp]; rfl
 rw [hs0] at hstory
 refine sApp (X := Stp.v ⟨.leave u, "done", ⟨S.spots, [], []⟩⟩) rfl (ev_Tup (evs (ev_Tup (evs ev_s (evs (ev_N rfl) evs0)) n2) (evs ev_s (evs (ev_Tup (evs (ev_N rfl) (evs (ev_Lst evs0 n0) (evs (ev_Lst evs0 n0) evs0))) n3) evs0))) n3) (by rw [List.length_map]; exact sz100 (Nat.le_trans hsl (by decide))) ?_
 refine sApp (X := Stp.v ⟨.move "q" "+", "done", ⟨[("p", x'), ("q", "+")], [], []⟩⟩) rfl (ev_Tup (evs (ev_Tup (evs ev_s (evs ev_s (evs ev_s evs0))) n3) (evs ev_s (evs (ev_Tup (evs (ev_Lst (evs (ev_atL rfl hv0) (evs (ev_Tup (evs ev_s (evs ev_s evs0)) n2) evs0)) n2) (evs (ev_Lst evs0 n0) (evs (ev_Lst evs0 n0) evs0))) n3) evs0))) n3) (hap 1 (by decide) _ rfl) ?_
 refine sApp (X := Stp.v ⟨.move "p" "+", "done", sta0⟩) rfl (ev_Tup (evs (ev_Tup (evs ev_s (evs ev_s (evs ev_s evs0))) n3) (evs ev_s (evs (ev_Tup (evs (ev_Lst (evs (ev_Tup (evs ev_s (evs ev_s evs0)) n2) (evs (ev_Tup (evs ev_s (evs ev_s evs0)) n2) evs0)) n2) (evs (ev_Lst evs0 n0) (evs (ev_Lst evs0 n0) evs0))) n3) evs0))) n3) (by rw [List.append_assoc]; exact hap 2 (by decide) _ rfl) ?_
 have em : S.steps.map Stp.v ++ [Stp.v ⟨.leave u, "done", ⟨S.spots, [], []⟩⟩] ++ [Stp.v ⟨.move "q" "+", "done", ⟨[("p", x'), ("q", "+")], [], []⟩⟩] ++ [Stp.v ⟨.move "p" "+", "done", sta0⟩] = (S.steps ++ ([⟨.leave u, "done", ⟨S.spots, [], []⟩⟩, ⟨.move "q" "+", "done", ⟨[("p", x'), ("q", "+")], [], []⟩⟩, ⟨.move "p" "+", "done", sta0⟩] : List Stp)).map Stp.v := by
  rw [List.map_append, List.append_assoc, List.append_assoc]; rfl
 rw [em]
 refine sFrz (pre := []) (x := "steps") (d := d) rfl rfl ?_
 refine sIfF (tp_not (tp_bool (ev_Pure (n := 7) GL.g_runs GL.F_runs rfl (evs (ev_N rfl) (evs (ev_N rfl) (evs (ev_N rfl) (evs (ev_Bin (ev_atL rfl (hg 23 (by decide))) ev_i (bin_mod_int (by decide))) evs0)))) hR' (spec_runs (n := 2) G GL L.toLH h0 hstory.1 hstory.2)))) (fun q => q rfl) ?_
 refine sIfF (tp_Cmp (ev_N rfl) (ev_N rfl) ne_lay ff_iff) id ?_
 exact sRet ev_b
end Mine
end
noncomputable section
set_option maxRecDepth 100000
namespace Mine
open PySem PySem.W PyProof.Rows
noncomputable def fnO (D : DefD) (nm qual md : Str) (tk code : Nat) : Obj := { cls := .type "function", data := .func (fdOf D nm qual (.str md tk) (.ref code) .none) }
noncomputable def tupO (vs : List Value) : Obj := { cls := .type "tuple", data := .seq vs.toArray }
noncomputable def dctO (P : Params) (es : List (Str × Nat × Value)) (n : Nat) : Obj := { cls := .type "dict", data := .dict (es.map fun e => ⟨PyData.keyHash P e.1, .str e.1 e.2.1, e.2.2⟩).toArray n }
noncomputable def clsO : Obj := excClassObj "_M" "_M" 111 110 [.type "object"] [.type "object"] true [] [] false none none none none (some (.str "_M" 218)) (some (.str "_M" 226)) (some (.bool true)) "object.__new__"
noncomputable def globE : List (Str × Nat × Value) := [("__name__", 165, .str "law_sx_r111_1" 369), ("__doc__", 166, .none), ("__package__", 167, .none), ("__loader__", 168, .builtin "__main__.__loader__#opaque"), ("__spec__", 169, .none), ("__annotations__", 170, .ref 6), ("__builtins__", 171, .ref 4), ("__file__", 173, .str "/claim/cut.py" 172), ("__cached__", 174, .none), ("_clash", 200, .ref 21), ("conflicts", 211, .ref 28), ("begin", 217, .ref 33), ("_M", 338, .ref 111), ("act", 350, .ref 122), ("aspects", 368, .ref 129), ("_law_SECS", 376, .ref 130), ("_law_SIGNS", 381, .ref 131), ("_law_SPOTS", 387, .ref 132), ("_law_OVERS", 400, .ref 141), ("_law_NEEDS", 421, .ref 160), ("_law_layout", 440, .ref 167), ("_law_clash", 446, .ref 172), ("_law_due", 452, .ref 177), ("_law_trip", 458, .ref 182), ("_law_lamps", 464, .ref 187), ("_law_probe", 470, .ref 192), ("_law_runs", 492, .ref 199), ("law", 498, .ref 204)]
noncomputable def clsE : List (Str × Nat × Value) := [("__module__", 225, .str "lockkit.core" 187), ("__firstlineno__", 229, .int 33 228), ("__init__", 240, .ref 47), ("_out", 246, .ref 52), ("_busy", 255, .ref 59), ("_locked", 265, .ref 66), ("_set", 277, .ref 73), ("_cancel", 286, .ref 80), ("_tick", 294, .ref 87), ("_enter", 305, .ref 94), ("_leave", 316, .ref 101), ("_move", 325, .ref 108), ("__static_attributes__", 331, .ref 109), ("__dict__", 333, .ref 112), ("__weakref__", 335, .ref 113), ("__doc__", 336, .none)]
noncomputable def heapK (P : Params) : Frag := [(3, dctO P globE 28), (21, fnO D_clash "_clash" "_clash" "lockkit.core" 187 20), (28, fnO D_conf "conflicts" "conflicts" "lockkit.core" 187 27), (33, fnO D_begin "begin" "begin" "lockkit.core" 187 32), (47, fnO D_init "__init__" "_M.__init__" "lockkit.core" 187 46), (52, fnO D_out "_out" "_M._out" "lockkit.core" 187 51), (59, fnO D_busy "_busy" "_M._busy" "lockkit.core" 187 58), (66, fnO D_locked "_locked" "_M._locked" "lockkit.core" 187 65), (73, fnO D_set "_set" "_M._set" "lockkit.core" 187 72), (80, fnO D_cancel "_cancel" "_M._cancel" "lockkit.core" 187 79), (87, fnO D_tick "_tick" "_M._tick" "lockkit.core" 187 86), (94, fnO D_enter "_enter" "_M._enter" "lockkit.core" 187 93), (101, fnO D_leave "_leave" "_M._leave" "lockkit.core" 187 100), (108, fnO D_move "_move" "_M._move" "lockkit.core" 187 107), (110, dctO P clsE 4), (111, clsO), (122, fnO D_act "act" "act" "lockkit.core" 187 121), (129, fnO D_aspects "aspects" "aspects" "lockkit.core" 187 128), (130, tupO [.str "a" 371, .str "b" 372, .str "c" 373, .str "d" 374, .str "e" 375]), (131, tupO [.str "S" 377, .str "T" 378, .str "U" 379, .str "" 380]), (132, tupO [.str "e" 382, .str "a" 383, .str "d" 384, .str "e" 385, .str "c" 386]), (133, tupO [.str "a" 388]), (134, tupO [.str "b" 389]), (135, tupO [.str "a" 390, .str "b" 391]), (136, tupO [.str "b" 392, .str "c" 393]), (137, tupO [.str "c" 394]), (138, tupO [.str "d" 395, .str "c" 396]), (139, tupO [.str "c" 397, .str "b" 398, .str "a" 399]), (140, tupO []), (141, tupO [.ref 133, .ref 134, .ref 135, .ref 136, .ref 137, .ref 138, .ref 139, .ref 140]), (142, tupO []), (143, tupO [.str "p" 401, .str "+" 402]), (144, tupO [.ref 143]), (145, tupO [.str "p" 403, .str "-" 404]), (146, tupO [.ref 145]), (147, tupO [.str "q" 405, .str "+" 406]), (148, tupO [.ref 147]), (149, tupO [.str "q" 407, .str "-" 408]), (150, tupO [.ref 149]), (151, tupO [.str "p" 409, .str "+" 410]), (152, tupO [.str "q" 411, .str "-" 412]), (153, tupO [.ref 151, .ref 152]), (154, tupO [.str "q" 413, .str "+" 414]), (155, tupO [.str "p" 415, .str "-" 416]), (156, tupO [.ref 154, .ref 155]), (157, tupO [.str "p" 417, .str "+" 418]), (158, tupO [.str "p" 419, .str "-" 420]), (159, tupO [.ref 157, .ref 158]), (160, tupO [.ref 142, .ref 144, .ref 146, .ref 148, .ref 150, .ref 153, .ref 156, .ref 159]), (167, fnO D_layout "_law_layout" "_law_layout" "law_sx_r111_1" 369 166), (172, fnO D_lclash "_law_clash" "_law_clash" "law_sx_r111_1" 369 171), (177, fnO D_ldue "_law_due" "_law_due" "law_sx_r111_1" 369 176), (182, fnO D_trip "_law_trip" "_law_trip" "law_sx_r111_1" 369 181), (187, fnO D_lamps "_law_lamps" "_law_lamps" "law_sx_r111_1" 369 186), (192, fnO D_probe "_law_probe" "_law_probe" "law_sx_r111_1" 369 191), (199, fnO D_runs "_law_runs" "_law_runs" "law_sx_r111_1" 369 198), (204, fnO D_law "law" "law" "law_sx_r111_1" 369 203)]
noncomputable def heapA : List Addr := [3, 21, 28, 33, 47, 52, 59, 66, 73, 80, 87, 94, 101, 108, 110, 111, 122, 129, 130, 131, 132, 133, 134, 135, 136, 137, 138, 139, 140, 141, 142, 143, 144, 145, 146, 147, 148, 149, 150, 151, 152, 153, 154, 155, 156, 157, 158, 159, 160, 167, 172, 177, 182, 187, 192, 199, 204]
noncomputable def codeA : List (Addr × Str) := [(20, "_clash"), (27, "conflicts"), (32, "begin"), (46, "_M.__init__"), (51, "_M._out"), (58, "_M._busy"), (65, "_M._locked"), (72, "_M._set"), (79, "_M._cancel"), (86, "_M._tick"), (93, "_M._enter"), (100, "_M._leave"), (107, "_M._move"), (121, "act"), (128, "aspects"), (166, "_law_layout"), (171, "_law_clash"), (176, "_law_due"), (181, "_law_trip"), (186, "_law_lamps"), (191, "_law_probe"), (198, "_law_runs"), (203, "law")]
noncomputable def codeNm (h : Heap) (c : Addr) : Option Str := match h.get? c with
 | some ⟨_, _, .fields vs, _⟩ => (match (vs[1]? : Option Value) with | some (.str q _) => some q | _ => none)
 | _ => none
theorem codeNm_rec {h : Heap} {c : Addr} {q : Str} (e : codeNm h c = some q) : h.CodeRec (.ref c) q := by
 unfold codeNm at e
 split at e
 ·rename_i vs _ ho
  split at e
  ·rename_i q' t hv
   cases e
   exact ⟨c, _, vs, t, rfl, ho, rfl, hv⟩
  ·cases e
 ·cases e
noncomputable def says2 (w : World) (h : Heap) : Prop := (heapK w.params).In h ∧ (∀ p ∈ codeA, h.CodeRec (.ref p.1) p.2) ∧ ∃ o, h.get? sysModules = some o
theorem heapA_eq (P : Params) : heapA = (heapK P).map (·.1) := rfl
noncomputable def hook2 : Hook where
 α := List (Option Obj) × List (Option Str) × Bool
 obs := fun s => (heapA.map s.heap.get?, codeA.map (fun p => codeNm s.heap p.1), (s.heap.get? sysModules).isSome)
 val := fun w => ((heapK w.params).map fun p => some p.2, codeA.map (fun p => some p.2), true)
 says := says2
 of := fun w s e => by
  simp only [Prod.mk.injEq] at e
  refine ⟨Frag.in_of (heapA_eq w.params) e.1, fun p hp => codeNm_rec ?_, Option.isSome_iff_exists.mp e.2.2⟩
  exact List.map_inj_left.mp e.2.1 p hp
 keeps := fun w h h' ⟨a, b, o, c⟩ k => ⟨a.keeps k, fun p hp => let ⟨c, ob, vs, t, e1, e2, e3⟩ := b p hp; ⟨c, ob, vs, t, e1, k _ _ e2, e3⟩, o, k _ _ c⟩
theorem nsFind_dct (es : List (Str × Nat × Value)) (P : Params) (x : Str) : nsFind (es.map fun e => (⟨PyData.keyHash P e.1, .str e.1 e.2.1, e.2.2⟩ : DictEntry)).toArray x = (es.find? fun e => Value.isStr (.str e.1 e.2.1) x).map (·.2.2) := by
 unfold nsFind findBy
 rw [List.find?_toArray, List.find?_map, Option.map_map]
 rfl
noncomputable def lkE (es : List (Str × Nat × Value)) (x : Str) : Option Value := (es.find? fun e => Value.isStr (.str e.1 e.2.1) x).map (·.2.2)
section
variable {w : World} {h : Heap} {mg : Str → Option Value}
theorem K_at (S : says2 w h) {a : Addr} {o : Obj} (e : (heapK w.params).lookup a = some o) : h.get? a = some o := S.1 a o e
theorem ns_at {a : Addr} {es : List (Str × Nat × Value)} {n : Nat} (e : h.get? a = some (dctO w.params es n)) {m : Str → Option Value} (N : h.Ns a m) (x : Str) : m x = lkE es x := by
 obtain ⟨o, es', ep, ho, hd, _, hf⟩ := N
 rw [e] at ho; cases ho
 cases hd
 rw [← hf, nsFind_dct]; rfl
theorem ns_of {a : Addr} {es : List (Str × Nat × Value)} {n : Nat} (e : h.get? a = some (dctO w.params es n)) : h.Ns a (lkE es) := by
 refine ⟨_, _, _, e, rfl, ?_, fun x => nsFind_dct es w.params x⟩
 intro q hq
 rw [List.mem_toArray] at hq
 obtain ⟨e', _, rfl⟩ := List.mem_map.mp hq
 exact ⟨_, _, rfl⟩
theorem fn_at (c : Cx) (hG : c.G = h) (S : says2 w h) {a code tk : Nat} {D : DefD} {nm qual md : Str} (e : (heapK w.params).lookup a = some (fnO D nm qual md tk code)) (hc : (code, qual) ∈ codeA) : IsFn c a D :=
 ⟨nm, qual, .str md tk, .ref code, .none, ⟨_, by rw [hG]; exact K_at S e, rfl, rfl⟩, by rw [hG]; exact S.2.1 _ hc⟩
end
noncomputable def cxOf (w : World) (h : Heap) (mg mb : Str → Option Value) : Cx := ⟨PySem.Challenge.pw_sx_r111_1, w, h, mg, mb⟩
section
variable {w : World} {h : Heap} {mg mb : Str → Option Value}
noncomputable def coreOf (S : says2 w h) (hg : ∀ x, mg x = lkE globE x) : Core (cxOf w h mg mb) where
 C := 111
 N := 110
 mN := lkE clsE
 K := ⟨⟨⟨_, _, _, _, _, _, _, _, _, _, _, _, K_at (a := 111) (o := clsO) S rfl⟩, ns_of (K_at (a := 110) S rfl)⟩, by kernel_rfl, by kernel_rfl, by kernel_rfl⟩
 n_lay := by kernel_rfl
 n_r := by kernel_rfl
 n_pos := by kernel_rfl
 n_occ := by kernel_rfl
 n_held := by kernel_rfl
 f_init := 47
 f_out := 52
 f_busy := 59
 f_locked := 66
 f_set := 73
 f_cancel := 80
 f_tick := 87
 f_enter := 94
 f_leave := 101
 f_move := 108
 f_clash := 21
 m_init := by kernel_rfl
 m_out := by kernel_rfl
 m_busy := by kernel_rfl
 m_locked := by kernel_rfl
 m_set := by kernel_rfl
 m_cancel := by kernel_rfl
 m_tick := by kernel_rfl
 m_enter := by kernel_rfl
 m_leave := by kernel_rfl
 m_move := by kernel_rfl
 F_init := fn_at _ rfl S (code := 46) rfl (by decide)
 F_out := fn_at _ rfl S (code := 51) rfl (by decide)
 F_busy := fn_at _ rfl S (code := 58) rfl (by decide)
 F_locked := fn_at _ rfl S (code := 65) rfl (by decide)
 F_set := fn_at _ rfl S (code := 72) rfl (by decide)
 F_cancel := fn_at _ rfl S (code := 79) rfl (by decide)
 F_tick := fn_at _ rfl S (code := 86) rfl (by decide)
 F_enter := fn_at _ rfl S (code := 93) rfl (by decide)
 F_leave := fn_at _ rfl S (code := 100) rfl (by decide)
 F_move := fn_at _ rfl S (code := 107) rfl (by decide)
 F_clash := fn_at _ rfl S (code := 20) rfl (by decide)
 g_clash := (hg _).trans (by kernel_rfl)
 g_M := (hg _).trans (by kernel_rfl)
 b_set := (hg _).trans (by kernel_rfl)
 b_dict := (hg _).trans (by kernel_rfl)
 b_list := (hg _).trans (by kernel_rfl)
 b_len := (hg _).trans (by kernel_rfl)
 b_sorted := (hg _).trans (by kernel_rfl)
theorem rd_tup (S : says2 w h) {a : Addr} {vs : List Value} {Xs : List V} (e : (heapK w.params).lookup a = some (tupO vs)) (r : RdL (cxOf w h mg mb) (fun b => ∃ o, h.get? b = some o) h Xs vs) : Rd (cxOf w h mg mb) (fun b => ∃ o, h.get? b = some o) h (.tup Xs) (.ref a) :=
 .tup ⟨_, K_at S e⟩ ⟨0, K_at S e⟩ (by simpa using r)
theorem gv_secs (S : says2 w h) (hg : ∀ x, mg x = lkE globE x) : GV (cxOf w h mg mb) "_law_SECS" secsV := ⟨.ref 130, (hg _).trans (by kernel_rfl), rd_tup (a := 130) S rfl (.cons (.str _ _) (.cons (.str _ _) (.cons (.str _ _) (.cons (.str _ _) (.cons (.str _ _) .nil)))))⟩
theorem gv_signs (S : says2 w h) (hg : ∀ x, mg x = lkE globE x) : GV (cxOf w h mg mb) "_law_SIGNS" signsV := ⟨.ref 131, (hg _).trans (by kernel_rfl), rd_tup (a := 131) S rfl (.cons (.str _ _) (.cons (.str _ _) (.cons (.str _ _) (.cons (.str _ _) .nil))))⟩
theorem gv_spots (S : says2 w h) (hg : ∀ x, mg x = lkE globE x) : GV (cxOf w h mg mb) "_law_SPOTS" spotsV := ⟨.ref 132, (hg _).trans (by kernel_rfl), rd_tup (a := 132) S rfl (.cons (.str _ _) (.cons (.str _ _) (.cons (.str _ _) (.cons (.str _ _) (.cons (.str _ _) .nil)))))⟩
theorem gv_overs (S : says2 w h) (hg : ∀ x, mg x = lkE globE x) : GV (cxOf w h mg mb) "_law_OVERS" oversV := ⟨.ref 141, (hg _).trans (by kernel_rfl), rd_tup (a := 141) S rfl (.cons (rd_tup (a := 133) S rfl (.cons (.str _ _) .nil)) (.cons (rd_tup (a := 134) S rfl (.cons (.str _ _) .nil)) (.cons (rd_tup (a := 135) S rfl (.cons (.str _ _) (.cons (.str _ _) .nil))) (.cons (rd_tup (a := 136) S rfl (.cons (.str _ _) (.cons (.str _ _) .nil))) (.cons (rd_tup (a := 137) S rfl (.cons (.str _ _) .nil)) (.cons (rd_tup (a := 138) S rfl (.cons (.str _ _) (.cons (.str _ _) .nil))) (.cons (rd_tup (a := 139) S rfl (.cons (.str _ _) (.cons (.str _ _) (.cons (.str _ _) .nil)))) (.cons (rd_tup (a := 140) S rfl .nil) .nil))))))))⟩
theorem gv_needs (S : says2 w h) (hg : ∀ x, mg x = lkE globE x) : GV (cxOf w h mg mb) "_law_NEEDS" needsV := ⟨.ref 160, (hg _).trans (by kernel_rfl), rd_tup (a := 160) S rfl (.cons (rd_tup (a := 142) S rfl .nil) (.cons (rd_tup (a := 144) S rfl (.cons (rd_tup (a := 143) S rfl (.cons (.str _ _) (.cons (.str _ _) .nil))) .nil)) (.cons (rd_tup (a := 146) S rfl (.cons (rd_tup (a := 145) S rfl (.cons (.str _ _) (.cons (.str _ _) .nil))) .nil)) (.cons (rd_tup (a := 148) S rfl (.cons (rd_tup (a := 147) S rfl (.cons (.str _ _) (.cons (.str _ _) .nil))) .nil)) (.cons (rd_tup (a := 150) S rfl (.cons (rd_tup (a := 149) S rfl (.cons (.str _ _) (.cons (.str _ _) .nil))) .nil)) (.cons (rd_tup (a := 153) S rfl (.cons (rd_tup (a := 151) S rfl (.cons (.str _ _) (.cons (.str _ _) .nil))) (.cons (rd_tup (a := 152) S rfl (.cons (.str _ _) (.cons (.str _ _) .nil))) .nil))) (.cons (rd_tup (a := 156) S rfl (.cons (rd_tup (a := 154) S rfl (.cons (.str _ _) (.cons (.str _ _) .nil))) (.cons (rd_tup (a := 155) S rfl (.cons (.str _ _) (.cons (.str _ _) .nil))) .nil))) (.cons (rd_tup (a := 159) S rfl (.cons (rd_tup (a := 157) S rfl (.cons (.str _ _) (.cons (.str _ _) .nil))) (.cons (rd_tup (a := 158) S rfl (.cons (.str _ _) (.cons (.str _ _) .nil))) .nil))) .nil))))))))⟩
noncomputable def lcoreOf (S : says2 w h) (hg : ∀ x, mg x = lkE globE x) : LCore (cxOf w h mg mb) where
 a_layout := 167
 a_lclash := 172
 a_conf := 28
 a_due := 177
 a_trip := 182
 a_lamps := 187
 a_probe := 192
 a_runs := 199
 a_begin := 33
 a_act := 122
 a_aspects := 129
 F_layout := fn_at _ rfl S (code := 166) rfl (by decide)
 F_lclash := fn_at _ rfl S (code := 171) rfl (by decide)
 F_conf := fn_at _ rfl S (code := 27) rfl (by decide)
 F_due := fn_at _ rfl S (code := 176) rfl (by decide)
 F_trip := fn_at _ rfl S (code := 181) rfl (by decide)
 F_lamps := fn_at _ rfl S (code := 186) rfl (by decide)
 F_probe := fn_at _ rfl S (code := 191) rfl (by decide)
 F_runs := fn_at _ rfl S (code := 198) rfl (by decide)
 F_begin := fn_at _ rfl S (code := 32) rfl (by decide)
 F_act := fn_at _ rfl S (code := 121) rfl (by decide)
 F_aspects := fn_at _ rfl S (code := 128) rfl (by decide)
 g_layout := (hg _).trans (by kernel_rfl)
 g_lclash := (hg _).trans (by kernel_rfl)
 g_conf := (hg _).trans (by kernel_rfl)
 g_due := (hg _).trans (by kernel_rfl)
 g_trip := (hg _).trans (by kernel_rfl)
 g_lamps := (hg _).trans (by kernel_rfl)
 g_probe := (hg _).trans (by kernel_rfl)
 g_runs := (hg _).trans (by kernel_rfl)
 g_begin := (hg _).trans (by kernel_rfl)
 g_act := (hg _).trans (by kernel_rfl)
 g_aspects := (hg _).trans (by kernel_rfl)
 v_secs := gv_secs S hg
 v_signs := gv_signs S hg
 v_spots := gv_spots S hg
 v_overs := gv_overs S hg
 v_needs := gv_needs S hg
 b_list := (hg _).trans (by kernel_rfl)
 b_len := (hg _).trans (by kernel_rfl)
 b_dict := (hg _).trans (by kernel_rfl)
 b_sorted := (hg _).trans (by kernel_rfl)
 b_type := (hg _).trans (by kernel_rfl)
 b_int := (hg _).trans (by kernel_rfl)
theorem rm_caller : Rm 8 callerA := ⟨rfl, by show 4 + 300 + 800 < cLine; decide, by show 1 + claimMargin + 5 + 80 < recursionLimit; decide +kernel⟩
theorem ints_rd {c : Cx} {Z : Addr → Prop} {hh : Heap} : ∀ {vs : List Value} {ns : List Int}, IntsAre vs ns → RdL c Z hh (ns.map .int) vs
 | _, _, .nil => .nil
 | _, _, .cons n t r => .cons (.int n t) (ints_rd r)
theorem inv_of (S : says2 w h) (T1 : h.Ns mainGlobals mg) (T2 : h.Ns builtinsNs mb) (T3 : h.NoLimit) (T4 : ∀ x : Str, x ≠ "__name__" → mb x = bootBuiltins x) : Inv (cxOf w h mg mb) (fun b => ∃ o, h.get? b = some o) (fun _ => False) h :=
 ⟨fun b o e => ⟨⟨o, e⟩, e⟩, fun _ z => z, fun _ f => f.elim, fun _ _ f => f, S.2.2, ⟨T1, T2, T3, T4⟩⟩
theorem law_walk {s₁ : Shared} (S : says2 w s₁.heap) (T1 : s₁.heap.Ns mainGlobals mg) (T2 : s₁.heap.Ns builtinsNs mb) (T3 : s₁.heap.NoLimit) (T4 : ∀ x : Str, x ≠ "__name__" → mb x = bootBuiltins x) {fa l : Addr} (hmg : mg "law" = some (.ref fa)) {ns : List Int} {items : Array Value} {n : Nat}
  (hl : s₁.heap.get? l = some { cls := .type "list", data := .seq items n }) (hi : IntsAre items.toList ns) (hn : ns.length ≤ 63) {Q : Value → Shared → Prop} {E : Value → Shared → Prop}
  (hQ : ∀ h' tk dr, (∀ b o, s₁.heap.get? b = some o → h'.get? b = some o) → Q (.bool true) { s₁ with heap := h', toks := tk, drawn := dr }) : wpAny (model PySem.Challenge.pw_sx_r111_1 w) callerA (call (.ref fa) [.ref l]) Q E s₁ := by
 have hg : ∀ x, mg x = lkE globE x := ns_at (K_at (a := 3) S rfl) T1
 have hfa : fa = 204 := by
  have := (hg "law").symm.trans hmg
  have e : lkE globE "law" = some (.ref 204) := by kernel_rfl
  rw [e] at this; cases this; rfl
 subst hfa
 refine wpAny_mono (spec_law (c := cxOf w s₁.heap mg mb) (P := fun _ => False) (coreOf S hg) (lcoreOf S hg) (fn_at _ rfl S (code := 203) rfl (by decide)) rm_caller hn (inv_of S T1 T2 T3 T4) (.cons (.lst ⟨_, hl⟩ ⟨n, hl⟩ (ints_rd hi)) .nil) fun v Z' h' tk dr St r => ?_) (fun _ _ x => x) fun _ _ x => x.elim
 cases r
 exact hQ h' tk dr fun b o e => St.keepZ b o ⟨o, e⟩ e
end
end Mine
end
noncomputable section
set_option maxRecDepth 100000
namespace Mine
open PySem PySem.W PyProof.Rows
theorem well_list {P : Params} {h : Heap} {l : Addr} {ns : List Int} {vs : List Value} (w1 : Well P h (.ref l) (ofPy (.list (ns.map PyData.int)))) (hL : h.IsList l vs.toArray) : ∃ n, h.get? l = some { cls := .type "list", data := .seq vs.toArray n } := by
 have e : ofPy (.list (ns.map PyData.int)) = .list (ofPys (ns.map PyData.int)) := by simp only [ofPy]
 rw [e] at w1
 cases w1 with
 | list h1 h2 =>
  obtain ⟨o, ho, hc, n, hd⟩ := hL
  rw [h1] at ho; cases ho
  cases hd
  exact ⟨_, h1⟩
theorem walk_any {q : Program} {loose : List Str} {XP : (Str → Option Value) → Heap → Prop} {d : DefRec} {kwd : List (Str × Expr)} (hdn : d.name = "law") : WalkO q loose XP hook2.says PySem.Challenge.rw_sx_r111_1.row.toRowW d kwd (fun f vs => call f vs) := by
 intro w s₀ s₁ mg mb G Y fa o pm cd doc dV kV ho hd hcd hD hmg hg args vals as hpre hlay hrd hwl hlo
 refine Ground.open G ?_
 intro T B D TE TW
 wrow_args hpre hlay hrd hwl hlo
 rename_i ns _ _ _ _ _ _ _ l vs _ hL ra w1 r0 hI hr hc _
 obtain ⟨n, hobj⟩ := well_list w1 hL
 rw [hdn] at hmg
 refine law_walk Y T.g T.b T.nolimit T.builtins hmg hobj (by simpa using hI) (by omega) fun h' tk dr hk => ?_
 refine GoodW.toG ⟨.inl ⟨.bool true, .bool true, [], rfl, ?_, .bool _, ?_, ?_⟩, hk, rfl, hg⟩
 ·intro cls; rfl
 ·exact postW_of (X := true) (r := PySem.Challenge.rw_sx_r111_1.row.toRowW) (by first | rfl | decide | simp) (by first | rfl | (with_unfolding_all rfl) | simp) rfl
 ·intro hu; exact ⟨List.Pairwise.nil, fun a ha => by cases ha⟩
end Mine
end
noncomputable section
set_option maxRecDepth 100000
open PySem PySem.W PyProof.Rows
set_option maxHeartbeats 8000000 in
theorem PySem.Challenge.cw_sx_r111_1_holds : PySem.Challenge.rw_sx_r111_1.Holds := by
 w_on
 o_law
 o_head Mine.hook2
 case hw => w_witness2
 exact Mine.walk_any rfl
end
