import PyProof.Rows.All
import PyProof.Rows.News
import PyProof.DictWalks
import PyProof.Cells
import PyProof.ForAny
import PyProof.DictItems
import PyProof.CompFree
import PyProof.SetKind
import PyProof.TupleIter
import PyProof.Ns1
import PyProof.Rows.RowBridgeG
import PyProof.CodeObjX
import PyProof.Rules3
import PyProof.Calls
import PyProof.Rows.Frame
import PyProof.Rows.Globals
import PyProof.EvalArms
import PyProof.Rules2
import PyProof.LetGo
import PyProof.RulesAssignMore
import PyProof.NeKinds
import PyProof.PureInt
import PyProof.ListTruth
import PyProof.ListIndexNeg
import PyProof.TupleOps
import PyProof.ListOps
import PyProof.SetRoads
import PyProof.IsRules
import PyProof.DictStraight
import PyProof.Rows.IntRules
import PyProof.Rows.RuleB_floordiv
import PyProof.WalksMore
import PyProof.ListCopy
import PyProof.Methods
import PyProof.SetNew
import PyProof.SeqI2
import PyProof.TypeOfCall
import PyProof.Rows.Exc
import PyProof.Rows.SortStr
import PyProof.CallType
import PyProof.Rows.SetFrom
import KE.KDictOf
import PyProof.AttrMissSeq
import PyProof.DictList
import PyProof.CallRoads
import PyProof.MeetsSeq
import PyProof.MeetsDict
import PyProof.SeqRoads2
import PyProof.FactsAll.set_3
import PyProof.RulesDel
import PyProof.RulesDelMore
import PyProof.ListIndex
import PyProof.ObjNew
import PyProof.InstLoad
import PyProof.InstStoreFacts
import PyProof.Rows.PlainObj
import PyProof.SliceList
import PyProof.SliceSyntax
import PyProof.Rows.SortWalk
import PyProof.CollectWalk
import PyProof.ListNew
import PyProof.Rows.StrRules
import PyProof.Rows.StrMeet
import PyProof.GenCompD
import PyProof.RangeFor
import PyProof.StationsW
import PyProof.RulesTry
import PyProof.RulesRaise
import PyProof.PassesOwn
import PyProof.ExcFactsAll.ValueError
import Wide.All
import Open.Line
import OpenK.KWalk
import Wide.FinOn
import PySem.Challenge.RW_sx_r111_3
set_option Elab.async false
set_option linter.all false
noncomputable section
namespace Mine
theorem I11.{u0} {α:Sort u0} {p0:α→Prop} (x0:α) (a0:p0 x0):∃ x0,p0 x0:=⟨x0,a0⟩
theorem I21.{u0,u1} {α:Sort u0} {β:Sort u1} {p0:α→β→Prop} (x0:α) (x1:β) (a0:p0 x0 x1):∃ x0 x1,p0 x0 x1:=⟨x0,x1,a0⟩
theorem I31.{u0,u1,u2} {α:Sort u0} {β:Sort u1} {γ:Sort u2} {p0:α→β→γ→Prop} (x0:α) (x1:β) (x2:γ) (a0:p0 x0 x1 x2):∃ x0 x1 x2,p0 x0 x1 x2:=⟨x0,x1,x2,a0⟩
theorem I41.{u0,u1,u2,u3} {α:Sort u0} {β:Sort u1} {γ:Sort u2} {δ:Sort u3} {p0:α→β→γ→δ→Prop} (x0:α) (x1:β) (x2:γ) (x3:δ) (a0:p0 x0 x1 x2 x3):∃ x0 x1 x2 x3,p0 x0 x1 x2 x3:=⟨x0,x1,x2,x3,a0⟩
theorem I02  {p0 p1:Prop}  (a0:p0) (a1:p1):p0∧p1:=⟨a0,a1⟩
theorem I12.{u0} {α:Sort u0} {p0 p1:α→Prop} (x0:α) (a0:p0 x0) (a1:p1 x0):∃ x0,p0 x0∧p1 x0:=⟨x0,a0,a1⟩
theorem I22.{u0,u1} {α:Sort u0} {β:Sort u1} {p0 p1:α→β→Prop} (x0:α) (x1:β) (a0:p0 x0 x1) (a1:p1 x0 x1):∃ x0 x1,p0 x0 x1∧p1 x0 x1:=⟨x0,x1,a0,a1⟩
theorem I32.{u0,u1,u2} {α:Sort u0} {β:Sort u1} {γ:Sort u2} {p0 p1:α→β→γ→Prop} (x0:α) (x1:β) (x2:γ) (a0:p0 x0 x1 x2) (a1:p1 x0 x1 x2):∃ x0 x1 x2,p0 x0 x1 x2∧p1 x0 x1 x2:=⟨x0,x1,x2,a0,a1⟩
theorem I42.{u0,u1,u2,u3} {α:Sort u0} {β:Sort u1} {γ:Sort u2} {δ:Sort u3} {p0 p1:α→β→γ→δ→Prop} (x0:α) (x1:β) (x2:γ) (x3:δ) (a0:p0 x0 x1 x2 x3) (a1:p1 x0 x1 x2 x3):∃ x0 x1 x2 x3,p0 x0 x1 x2 x3∧p1 x0 x1 x2 x3:=⟨x0,x1,x2,x3,a0,a1⟩
theorem I52.{u0,u1,u2,u3,u4} {α:Sort u0} {β:Sort u1} {γ:Sort u2} {δ:Sort u3} {ε:Sort u4} {p0 p1:α→β→γ→δ→ε→Prop} (x0:α) (x1:β) (x2:γ) (x3:δ) (x4:ε) (a0:p0 x0 x1 x2 x3 x4) (a1:p1 x0 x1 x2 x3 x4):∃ x0 x1 x2 x3 x4,p0 x0 x1 x2 x3 x4∧p1 x0 x1 x2 x3 x4:=⟨x0,x1,x2,x3,x4,a0,a1⟩
theorem I03  {p0 p1 p2:Prop}  (a0:p0) (a1:p1) (a2:p2):p0∧p1∧p2:=⟨a0,a1,a2⟩
theorem I13.{u0} {α:Sort u0} {p0 p1 p2:α→Prop} (x0:α) (a0:p0 x0) (a1:p1 x0) (a2:p2 x0):∃ x0,p0 x0∧p1 x0∧p2 x0:=⟨x0,a0,a1,a2⟩
theorem I23.{u0,u1} {α:Sort u0} {β:Sort u1} {p0 p1 p2:α→β→Prop} (x0:α) (x1:β) (a0:p0 x0 x1) (a1:p1 x0 x1) (a2:p2 x0 x1):∃ x0 x1,p0 x0 x1∧p1 x0 x1∧p2 x0 x1:=⟨x0,x1,a0,a1,a2⟩
theorem I33.{u0,u1,u2} {α:Sort u0} {β:Sort u1} {γ:Sort u2} {p0 p1 p2:α→β→γ→Prop} (x0:α) (x1:β) (x2:γ) (a0:p0 x0 x1 x2) (a1:p1 x0 x1 x2) (a2:p2 x0 x1 x2):∃ x0 x1 x2,p0 x0 x1 x2∧p1 x0 x1 x2∧p2 x0 x1 x2:=⟨x0,x1,x2,a0,a1,a2⟩
theorem I43.{u0,u1,u2,u3} {α:Sort u0} {β:Sort u1} {γ:Sort u2} {δ:Sort u3} {p0 p1 p2:α→β→γ→δ→Prop} (x0:α) (x1:β) (x2:γ) (x3:δ) (a0:p0 x0 x1 x2 x3) (a1:p1 x0 x1 x2 x3) (a2:p2 x0 x1 x2 x3):∃ x0 x1 x2 x3,p0 x0 x1 x2 x3∧p1 x0 x1 x2 x3∧p2 x0 x1 x2 x3:=⟨x0,x1,x2,x3,a0,a1,a2⟩
theorem I04  {p0 p1 p2 p3:Prop}  (a0:p0) (a1:p1) (a2:p2) (a3:p3):p0∧p1∧p2∧p3:=⟨a0,a1,a2,a3⟩
theorem I14.{u0} {α:Sort u0} {p0 p1 p2 p3:α→Prop} (x0:α) (a0:p0 x0) (a1:p1 x0) (a2:p2 x0) (a3:p3 x0):∃ x0,p0 x0∧p1 x0∧p2 x0∧p3 x0:=⟨x0,a0,a1,a2,a3⟩
theorem I24.{u0,u1} {α:Sort u0} {β:Sort u1} {p0 p1 p2 p3:α→β→Prop} (x0:α) (x1:β) (a0:p0 x0 x1) (a1:p1 x0 x1) (a2:p2 x0 x1) (a3:p3 x0 x1):∃ x0 x1,p0 x0 x1∧p1 x0 x1∧p2 x0 x1∧p3 x0 x1:=⟨x0,x1,a0,a1,a2,a3⟩
theorem I34.{u0,u1,u2} {α:Sort u0} {β:Sort u1} {γ:Sort u2} {p0 p1 p2 p3:α→β→γ→Prop} (x0:α) (x1:β) (x2:γ) (a0:p0 x0 x1 x2) (a1:p1 x0 x1 x2) (a2:p2 x0 x1 x2) (a3:p3 x0 x1 x2):∃ x0 x1 x2,p0 x0 x1 x2∧p1 x0 x1 x2∧p2 x0 x1 x2∧p3 x0 x1 x2:=⟨x0,x1,x2,a0,a1,a2,a3⟩
theorem I44.{u0,u1,u2,u3} {α:Sort u0} {β:Sort u1} {γ:Sort u2} {δ:Sort u3} {p0 p1 p2 p3:α→β→γ→δ→Prop} (x0:α) (x1:β) (x2:γ) (x3:δ) (a0:p0 x0 x1 x2 x3) (a1:p1 x0 x1 x2 x3) (a2:p2 x0 x1 x2 x3) (a3:p3 x0 x1 x2 x3):∃ x0 x1 x2 x3,p0 x0 x1 x2 x3∧p1 x0 x1 x2 x3∧p2 x0 x1 x2 x3∧p3 x0 x1 x2 x3:=⟨x0,x1,x2,x3,a0,a1,a2,a3⟩
theorem I05  {p0 p1 p2 p3 p4:Prop}  (a0:p0) (a1:p1) (a2:p2) (a3:p3) (a4:p4):p0∧p1∧p2∧p3∧p4:=⟨a0,a1,a2,a3,a4⟩
theorem I25.{u0,u1} {α:Sort u0} {β:Sort u1} {p0 p1 p2 p3 p4:α→β→Prop} (x0:α) (x1:β) (a0:p0 x0 x1) (a1:p1 x0 x1) (a2:p2 x0 x1) (a3:p3 x0 x1) (a4:p4 x0 x1):∃ x0 x1,p0 x0 x1∧p1 x0 x1∧p2 x0 x1∧p3 x0 x1∧p4 x0 x1:=⟨x0,x1,a0,a1,a2,a3,a4⟩
theorem I35.{u0,u1,u2} {α:Sort u0} {β:Sort u1} {γ:Sort u2} {p0 p1 p2 p3 p4:α→β→γ→Prop} (x0:α) (x1:β) (x2:γ) (a0:p0 x0 x1 x2) (a1:p1 x0 x1 x2) (a2:p2 x0 x1 x2) (a3:p3 x0 x1 x2) (a4:p4 x0 x1 x2):∃ x0 x1 x2,p0 x0 x1 x2∧p1 x0 x1 x2∧p2 x0 x1 x2∧p3 x0 x1 x2∧p4 x0 x1 x2:=⟨x0,x1,x2,a0,a1,a2,a3,a4⟩
theorem I45.{u0,u1,u2,u3} {α:Sort u0} {β:Sort u1} {γ:Sort u2} {δ:Sort u3} {p0 p1 p2 p3 p4:α→β→γ→δ→Prop} (x0:α) (x1:β) (x2:γ) (x3:δ) (a0:p0 x0 x1 x2 x3) (a1:p1 x0 x1 x2 x3) (a2:p2 x0 x1 x2 x3) (a3:p3 x0 x1 x2 x3) (a4:p4 x0 x1 x2 x3):∃ x0 x1 x2 x3,p0 x0 x1 x2 x3∧p1 x0 x1 x2 x3∧p2 x0 x1 x2 x3∧p3 x0 x1 x2 x3∧p4 x0 x1 x2 x3:=⟨x0,x1,x2,x3,a0,a1,a2,a3,a4⟩
theorem I65.{u0,u1,u2,u3,u4,u5} {α:Sort u0} {β:Sort u1} {γ:Sort u2} {δ:Sort u3} {ε:Sort u4} {ζ:Sort u5} {p0 p1 p2 p3 p4:α→β→γ→δ→ε→ζ→Prop} (x0:α) (x1:β) (x2:γ) (x3:δ) (x4:ε) (x5:ζ) (a0:p0 x0 x1 x2 x3 x4 x5) (a1:p1 x0 x1 x2 x3 x4 x5) (a2:p2 x0 x1 x2 x3 x4 x5) (a3:p3 x0 x1 x2 x3 x4 x5) (a4:p4 x0 x1 x2 x3 x4 x5):∃ x0 x1 x2 x3 x4 x5,p0 x0 x1 x2 x3 x4 x5∧p1 x0 x1 x2 x3 x4 x5∧p2 x0 x1 x2 x3 x4 x5∧p3 x0 x1 x2 x3 x4 x5∧p4 x0 x1 x2 x3 x4 x5:=⟨x0,x1,x2,x3,x4,x5,a0,a1,a2,a3,a4⟩
theorem I06  {p0 p1 p2 p3 p4 p5:Prop}  (a0:p0) (a1:p1) (a2:p2) (a3:p3) (a4:p4) (a5:p5):p0∧p1∧p2∧p3∧p4∧p5:=⟨a0,a1,a2,a3,a4,a5⟩
theorem I48.{u0,u1,u2,u3} {α:Sort u0} {β:Sort u1} {γ:Sort u2} {δ:Sort u3} {p0 p1 p2 p3 p4 p5 p6 p7:α→β→γ→δ→Prop} (x0:α) (x1:β) (x2:γ) (x3:δ) (a0:p0 x0 x1 x2 x3) (a1:p1 x0 x1 x2 x3) (a2:p2 x0 x1 x2 x3) (a3:p3 x0 x1 x2 x3) (a4:p4 x0 x1 x2 x3) (a5:p5 x0 x1 x2 x3) (a6:p6 x0 x1 x2 x3) (a7:p7 x0 x1 x2 x3):∃ x0 x1 x2 x3,p0 x0 x1 x2 x3∧p1 x0 x1 x2 x3∧p2 x0 x1 x2 x3∧p3 x0 x1 x2 x3∧p4 x0 x1 x2 x3∧p5 x0 x1 x2 x3∧p6 x0 x1 x2 x3∧p7 x0 x1 x2 x3:=⟨x0,x1,x2,x3,a0,a1,a2,a3,a4,a5,a6,a7⟩
theorem I510.{u0,u1,u2,u3,u4} {α:Sort u0} {β:Sort u1} {γ:Sort u2} {δ:Sort u3} {ε:Sort u4} {p0 p1 p2 p3 p4 p5 p6 p7 p8 p9:α→β→γ→δ→ε→Prop} (x0:α) (x1:β) (x2:γ) (x3:δ) (x4:ε) (a0:p0 x0 x1 x2 x3 x4) (a1:p1 x0 x1 x2 x3 x4) (a2:p2 x0 x1 x2 x3 x4) (a3:p3 x0 x1 x2 x3 x4) (a4:p4 x0 x1 x2 x3 x4) (a5:p5 x0 x1 x2 x3 x4) (a6:p6 x0 x1 x2 x3 x4) (a7:p7 x0 x1 x2 x3 x4) (a8:p8 x0 x1 x2 x3 x4) (a9:p9 x0 x1 x2 x3 x4):∃ x0 x1 x2 x3 x4,p0 x0 x1 x2 x3 x4∧p1 x0 x1 x2 x3 x4∧p2 x0 x1 x2 x3 x4∧p3 x0 x1 x2 x3 x4∧p4 x0 x1 x2 x3 x4∧p5 x0 x1 x2 x3 x4∧p6 x0 x1 x2 x3 x4∧p7 x0 x1 x2 x3 x4∧p8 x0 x1 x2 x3 x4∧p9 x0 x1 x2 x3 x4:=⟨x0,x1,x2,x3,x4,a0,a1,a2,a3,a4,a5,a6,a7,a8,a9⟩
theorem E11.{u0} {α:Sort u0} {p0:α→Prop} {G:Prop} (h:∃ x0,p0 x0) (k:∀ x0,p0 x0→G):G:=h.elim k
theorem E21.{u0,u1} {α:Sort u0} {β:Sort u1} {p0:α→β→Prop} {G:Prop} (h:∃ x0 x1,p0 x0 x1) (k:∀ x0 x1,p0 x0 x1→G):G:=h.elim fun x h=>E11 h (k x)
theorem E31.{u0,u1,u2} {α:Sort u0} {β:Sort u1} {γ:Sort u2} {p0:α→β→γ→Prop} {G:Prop} (h:∃ x0 x1 x2,p0 x0 x1 x2) (k:∀ x0 x1 x2,p0 x0 x1 x2→G):G:=h.elim fun x h=>E21 h (k x)
theorem E41.{u0,u1,u2,u3} {α:Sort u0} {β:Sort u1} {γ:Sort u2} {δ:Sort u3} {p0:α→β→γ→δ→Prop} {G:Prop} (h:∃ x0 x1 x2 x3,p0 x0 x1 x2 x3) (k:∀ x0 x1 x2 x3,p0 x0 x1 x2 x3→G):G:=h.elim fun x h=>E31 h (k x)
theorem E51.{u0,u1,u2,u3,u4} {α:Sort u0} {β:Sort u1} {γ:Sort u2} {δ:Sort u3} {ε:Sort u4} {p0:α→β→γ→δ→ε→Prop} {G:Prop} (h:∃ x0 x1 x2 x3 x4,p0 x0 x1 x2 x3 x4) (k:∀ x0 x1 x2 x3 x4,p0 x0 x1 x2 x3 x4→G):G:=h.elim fun x h=>E41 h (k x)
theorem E02  {p0 p1:Prop} {G:Prop} (h:p0∧p1) (k:p0→p1→G):G:=k h.1 h.2
theorem E12.{u0} {α:Sort u0} {p0 p1:α→Prop} {G:Prop} (h:∃ x0,p0 x0∧p1 x0) (k:∀ x0,p0 x0→p1 x0→G):G:=h.elim fun x h=>E02 h (k x)
theorem E22.{u0,u1} {α:Sort u0} {β:Sort u1} {p0 p1:α→β→Prop} {G:Prop} (h:∃ x0 x1,p0 x0 x1∧p1 x0 x1) (k:∀ x0 x1,p0 x0 x1→p1 x0 x1→G):G:=h.elim fun x h=>E12 h (k x)
theorem E32.{u0,u1,u2} {α:Sort u0} {β:Sort u1} {γ:Sort u2} {p0 p1:α→β→γ→Prop} {G:Prop} (h:∃ x0 x1 x2,p0 x0 x1 x2∧p1 x0 x1 x2) (k:∀ x0 x1 x2,p0 x0 x1 x2→p1 x0 x1 x2→G):G:=h.elim fun x h=>E22 h (k x)
theorem E42.{u0,u1,u2,u3} {α:Sort u0} {β:Sort u1} {γ:Sort u2} {δ:Sort u3} {p0 p1:α→β→γ→δ→Prop} {G:Prop} (h:∃ x0 x1 x2 x3,p0 x0 x1 x2 x3∧p1 x0 x1 x2 x3) (k:∀ x0 x1 x2 x3,p0 x0 x1 x2 x3→p1 x0 x1 x2 x3→G):G:=h.elim fun x h=>E32 h (k x)
theorem E52.{u0,u1,u2,u3,u4} {α:Sort u0} {β:Sort u1} {γ:Sort u2} {δ:Sort u3} {ε:Sort u4} {p0 p1:α→β→γ→δ→ε→Prop} {G:Prop} (h:∃ x0 x1 x2 x3 x4,p0 x0 x1 x2 x3 x4∧p1 x0 x1 x2 x3 x4) (k:∀ x0 x1 x2 x3 x4,p0 x0 x1 x2 x3 x4→p1 x0 x1 x2 x3 x4→G):G:=h.elim fun x h=>E42 h (k x)
theorem E03  {p0 p1 p2:Prop} {G:Prop} (h:p0∧p1∧p2) (k:p0→p1→p2→G):G:=k h.1 h.2.1 h.2.2
theorem E13.{u0} {α:Sort u0} {p0 p1 p2:α→Prop} {G:Prop} (h:∃ x0,p0 x0∧p1 x0∧p2 x0) (k:∀ x0,p0 x0→p1 x0→p2 x0→G):G:=h.elim fun x h=>E03 h (k x)
theorem E23.{u0,u1} {α:Sort u0} {β:Sort u1} {p0 p1 p2:α→β→Prop} {G:Prop} (h:∃ x0 x1,p0 x0 x1∧p1 x0 x1∧p2 x0 x1) (k:∀ x0 x1,p0 x0 x1→p1 x0 x1→p2 x0 x1→G):G:=h.elim fun x h=>E13 h (k x)
theorem E33.{u0,u1,u2} {α:Sort u0} {β:Sort u1} {γ:Sort u2} {p0 p1 p2:α→β→γ→Prop} {G:Prop} (h:∃ x0 x1 x2,p0 x0 x1 x2∧p1 x0 x1 x2∧p2 x0 x1 x2) (k:∀ x0 x1 x2,p0 x0 x1 x2→p1 x0 x1 x2→p2 x0 x1 x2→G):G:=h.elim fun x h=>E23 h (k x)
theorem E43.{u0,u1,u2,u3} {α:Sort u0} {β:Sort u1} {γ:Sort u2} {δ:Sort u3} {p0 p1 p2:α→β→γ→δ→Prop} {G:Prop} (h:∃ x0 x1 x2 x3,p0 x0 x1 x2 x3∧p1 x0 x1 x2 x3∧p2 x0 x1 x2 x3) (k:∀ x0 x1 x2 x3,p0 x0 x1 x2 x3→p1 x0 x1 x2 x3→p2 x0 x1 x2 x3→G):G:=h.elim fun x h=>E33 h (k x)
theorem E53.{u0,u1,u2,u3,u4} {α:Sort u0} {β:Sort u1} {γ:Sort u2} {δ:Sort u3} {ε:Sort u4} {p0 p1 p2:α→β→γ→δ→ε→Prop} {G:Prop} (h:∃ x0 x1 x2 x3 x4,p0 x0 x1 x2 x3 x4∧p1 x0 x1 x2 x3 x4∧p2 x0 x1 x2 x3 x4) (k:∀ x0 x1 x2 x3 x4,p0 x0 x1 x2 x3 x4→p1 x0 x1 x2 x3 x4→p2 x0 x1 x2 x3 x4→G):G:=h.elim fun x h=>E43 h (k x)
theorem E04  {p0 p1 p2 p3:Prop} {G:Prop} (h:p0∧p1∧p2∧p3) (k:p0→p1→p2→p3→G):G:=k h.1 h.2.1 h.2.2.1 h.2.2.2
theorem E14.{u0} {α:Sort u0} {p0 p1 p2 p3:α→Prop} {G:Prop} (h:∃ x0,p0 x0∧p1 x0∧p2 x0∧p3 x0) (k:∀ x0,p0 x0→p1 x0→p2 x0→p3 x0→G):G:=h.elim fun x h=>E04 h (k x)
theorem E24.{u0,u1} {α:Sort u0} {β:Sort u1} {p0 p1 p2 p3:α→β→Prop} {G:Prop} (h:∃ x0 x1,p0 x0 x1∧p1 x0 x1∧p2 x0 x1∧p3 x0 x1) (k:∀ x0 x1,p0 x0 x1→p1 x0 x1→p2 x0 x1→p3 x0 x1→G):G:=h.elim fun x h=>E14 h (k x)
theorem E34.{u0,u1,u2} {α:Sort u0} {β:Sort u1} {γ:Sort u2} {p0 p1 p2 p3:α→β→γ→Prop} {G:Prop} (h:∃ x0 x1 x2,p0 x0 x1 x2∧p1 x0 x1 x2∧p2 x0 x1 x2∧p3 x0 x1 x2) (k:∀ x0 x1 x2,p0 x0 x1 x2→p1 x0 x1 x2→p2 x0 x1 x2→p3 x0 x1 x2→G):G:=h.elim fun x h=>E24 h (k x)
theorem E44.{u0,u1,u2,u3} {α:Sort u0} {β:Sort u1} {γ:Sort u2} {δ:Sort u3} {p0 p1 p2 p3:α→β→γ→δ→Prop} {G:Prop} (h:∃ x0 x1 x2 x3,p0 x0 x1 x2 x3∧p1 x0 x1 x2 x3∧p2 x0 x1 x2 x3∧p3 x0 x1 x2 x3) (k:∀ x0 x1 x2 x3,p0 x0 x1 x2 x3→p1 x0 x1 x2 x3→p2 x0 x1 x2 x3→p3 x0 x1 x2 x3→G):G:=h.elim fun x h=>E34 h (k x)
theorem E05  {p0 p1 p2 p3 p4:Prop} {G:Prop} (h:p0∧p1∧p2∧p3∧p4) (k:p0→p1→p2→p3→p4→G):G:=k h.1 h.2.1 h.2.2.1 h.2.2.2.1 h.2.2.2.2
theorem E15.{u0} {α:Sort u0} {p0 p1 p2 p3 p4:α→Prop} {G:Prop} (h:∃ x0,p0 x0∧p1 x0∧p2 x0∧p3 x0∧p4 x0) (k:∀ x0,p0 x0→p1 x0→p2 x0→p3 x0→p4 x0→G):G:=h.elim fun x h=>E05 h (k x)
theorem E25.{u0,u1} {α:Sort u0} {β:Sort u1} {p0 p1 p2 p3 p4:α→β→Prop} {G:Prop} (h:∃ x0 x1,p0 x0 x1∧p1 x0 x1∧p2 x0 x1∧p3 x0 x1∧p4 x0 x1) (k:∀ x0 x1,p0 x0 x1→p1 x0 x1→p2 x0 x1→p3 x0 x1→p4 x0 x1→G):G:=h.elim fun x h=>E15 h (k x)
theorem E35.{u0,u1,u2} {α:Sort u0} {β:Sort u1} {γ:Sort u2} {p0 p1 p2 p3 p4:α→β→γ→Prop} {G:Prop} (h:∃ x0 x1 x2,p0 x0 x1 x2∧p1 x0 x1 x2∧p2 x0 x1 x2∧p3 x0 x1 x2∧p4 x0 x1 x2) (k:∀ x0 x1 x2,p0 x0 x1 x2→p1 x0 x1 x2→p2 x0 x1 x2→p3 x0 x1 x2→p4 x0 x1 x2→G):G:=h.elim fun x h=>E25 h (k x)
theorem E45.{u0,u1,u2,u3} {α:Sort u0} {β:Sort u1} {γ:Sort u2} {δ:Sort u3} {p0 p1 p2 p3 p4:α→β→γ→δ→Prop} {G:Prop} (h:∃ x0 x1 x2 x3,p0 x0 x1 x2 x3∧p1 x0 x1 x2 x3∧p2 x0 x1 x2 x3∧p3 x0 x1 x2 x3∧p4 x0 x1 x2 x3) (k:∀ x0 x1 x2 x3,p0 x0 x1 x2 x3→p1 x0 x1 x2 x3→p2 x0 x1 x2 x3→p3 x0 x1 x2 x3→p4 x0 x1 x2 x3→G):G:=h.elim fun x h=>E35 h (k x)
theorem E55.{u0,u1,u2,u3,u4} {α:Sort u0} {β:Sort u1} {γ:Sort u2} {δ:Sort u3} {ε:Sort u4} {p0 p1 p2 p3 p4:α→β→γ→δ→ε→Prop} {G:Prop} (h:∃ x0 x1 x2 x3 x4,p0 x0 x1 x2 x3 x4∧p1 x0 x1 x2 x3 x4∧p2 x0 x1 x2 x3 x4∧p3 x0 x1 x2 x3 x4∧p4 x0 x1 x2 x3 x4) (k:∀ x0 x1 x2 x3 x4,p0 x0 x1 x2 x3 x4→p1 x0 x1 x2 x3 x4→p2 x0 x1 x2 x3 x4→p3 x0 x1 x2 x3 x4→p4 x0 x1 x2 x3 x4→G):G:=h.elim fun x h=>E45 h (k x)
theorem E65.{u0,u1,u2,u3,u4,u5} {α:Sort u0} {β:Sort u1} {γ:Sort u2} {δ:Sort u3} {ε:Sort u4} {ζ:Sort u5} {p0 p1 p2 p3 p4:α→β→γ→δ→ε→ζ→Prop} {G:Prop} (h:∃ x0 x1 x2 x3 x4 x5,p0 x0 x1 x2 x3 x4 x5∧p1 x0 x1 x2 x3 x4 x5∧p2 x0 x1 x2 x3 x4 x5∧p3 x0 x1 x2 x3 x4 x5∧p4 x0 x1 x2 x3 x4 x5) (k:∀ x0 x1 x2 x3 x4 x5,p0 x0 x1 x2 x3 x4 x5→p1 x0 x1 x2 x3 x4 x5→p2 x0 x1 x2 x3 x4 x5→p3 x0 x1 x2 x3 x4 x5→p4 x0 x1 x2 x3 x4 x5→G):G:=h.elim fun x h=>E55 h (k x)
theorem E06  {p0 p1 p2 p3 p4 p5:Prop} {G:Prop} (h:p0∧p1∧p2∧p3∧p4∧p5) (k:p0→p1→p2→p3→p4→p5→G):G:=k h.1 h.2.1 h.2.2.1 h.2.2.2.1 h.2.2.2.2.1 h.2.2.2.2.2
theorem E16.{u0} {α:Sort u0} {p0 p1 p2 p3 p4 p5:α→Prop} {G:Prop} (h:∃ x0,p0 x0∧p1 x0∧p2 x0∧p3 x0∧p4 x0∧p5 x0) (k:∀ x0,p0 x0→p1 x0→p2 x0→p3 x0→p4 x0→p5 x0→G):G:=h.elim fun x h=>E06 h (k x)
theorem E26.{u0,u1} {α:Sort u0} {β:Sort u1} {p0 p1 p2 p3 p4 p5:α→β→Prop} {G:Prop} (h:∃ x0 x1,p0 x0 x1∧p1 x0 x1∧p2 x0 x1∧p3 x0 x1∧p4 x0 x1∧p5 x0 x1) (k:∀ x0 x1,p0 x0 x1→p1 x0 x1→p2 x0 x1→p3 x0 x1→p4 x0 x1→p5 x0 x1→G):G:=h.elim fun x h=>E16 h (k x)
theorem E36.{u0,u1,u2} {α:Sort u0} {β:Sort u1} {γ:Sort u2} {p0 p1 p2 p3 p4 p5:α→β→γ→Prop} {G:Prop} (h:∃ x0 x1 x2,p0 x0 x1 x2∧p1 x0 x1 x2∧p2 x0 x1 x2∧p3 x0 x1 x2∧p4 x0 x1 x2∧p5 x0 x1 x2) (k:∀ x0 x1 x2,p0 x0 x1 x2→p1 x0 x1 x2→p2 x0 x1 x2→p3 x0 x1 x2→p4 x0 x1 x2→p5 x0 x1 x2→G):G:=h.elim fun x h=>E26 h (k x)
theorem E09  {p0 p1 p2 p3 p4 p5 p6 p7 p8:Prop} {G:Prop} (h:p0∧p1∧p2∧p3∧p4∧p5∧p6∧p7∧p8) (k:p0→p1→p2→p3→p4→p5→p6→p7→p8→G):G:=k h.1 h.2.1 h.2.2.1 h.2.2.2.1 h.2.2.2.2.1 h.2.2.2.2.2.1 h.2.2.2.2.2.2.1 h.2.2.2.2.2.2.2.1 h.2.2.2.2.2.2.2.2
theorem E19.{u0} {α:Sort u0} {p0 p1 p2 p3 p4 p5 p6 p7 p8:α→Prop} {G:Prop} (h:∃ x0,p0 x0∧p1 x0∧p2 x0∧p3 x0∧p4 x0∧p5 x0∧p6 x0∧p7 x0∧p8 x0) (k:∀ x0,p0 x0→p1 x0→p2 x0→p3 x0→p4 x0→p5 x0→p6 x0→p7 x0→p8 x0→G):G:=h.elim fun x h=>E09 h (k x)
theorem E29.{u0,u1} {α:Sort u0} {β:Sort u1} {p0 p1 p2 p3 p4 p5 p6 p7 p8:α→β→Prop} {G:Prop} (h:∃ x0 x1,p0 x0 x1∧p1 x0 x1∧p2 x0 x1∧p3 x0 x1∧p4 x0 x1∧p5 x0 x1∧p6 x0 x1∧p7 x0 x1∧p8 x0 x1) (k:∀ x0 x1,p0 x0 x1→p1 x0 x1→p2 x0 x1→p3 x0 x1→p4 x0 x1→p5 x0 x1→p6 x0 x1→p7 x0 x1→p8 x0 x1→G):G:=h.elim fun x h=>E19 h (k x)
theorem E39.{u0,u1,u2} {α:Sort u0} {β:Sort u1} {γ:Sort u2} {p0 p1 p2 p3 p4 p5 p6 p7 p8:α→β→γ→Prop} {G:Prop} (h:∃ x0 x1 x2,p0 x0 x1 x2∧p1 x0 x1 x2∧p2 x0 x1 x2∧p3 x0 x1 x2∧p4 x0 x1 x2∧p5 x0 x1 x2∧p6 x0 x1 x2∧p7 x0 x1 x2∧p8 x0 x1 x2) (k:∀ x0 x1 x2,p0 x0 x1 x2→p1 x0 x1 x2→p2 x0 x1 x2→p3 x0 x1 x2→p4 x0 x1 x2→p5 x0 x1 x2→p6 x0 x1 x2→p7 x0 x1 x2→p8 x0 x1 x2→G):G:=h.elim fun x h=>E29 h (k x)
theorem E49.{u0,u1,u2,u3} {α:Sort u0} {β:Sort u1} {γ:Sort u2} {δ:Sort u3} {p0 p1 p2 p3 p4 p5 p6 p7 p8:α→β→γ→δ→Prop} {G:Prop} (h:∃ x0 x1 x2 x3,p0 x0 x1 x2 x3∧p1 x0 x1 x2 x3∧p2 x0 x1 x2 x3∧p3 x0 x1 x2 x3∧p4 x0 x1 x2 x3∧p5 x0 x1 x2 x3∧p6 x0 x1 x2 x3∧p7 x0 x1 x2 x3∧p8 x0 x1 x2 x3) (k:∀ x0 x1 x2 x3,p0 x0 x1 x2 x3→p1 x0 x1 x2 x3→p2 x0 x1 x2 x3→p3 x0 x1 x2 x3→p4 x0 x1 x2 x3→p5 x0 x1 x2 x3→p6 x0 x1 x2 x3→p7 x0 x1 x2 x3→p8 x0 x1 x2 x3→G):G:=h.elim fun x h=>E39 h (k x)
theorem E59.{u0,u1,u2,u3,u4} {α:Sort u0} {β:Sort u1} {γ:Sort u2} {δ:Sort u3} {ε:Sort u4} {p0 p1 p2 p3 p4 p5 p6 p7 p8:α→β→γ→δ→ε→Prop} {G:Prop} (h:∃ x0 x1 x2 x3 x4,p0 x0 x1 x2 x3 x4∧p1 x0 x1 x2 x3 x4∧p2 x0 x1 x2 x3 x4∧p3 x0 x1 x2 x3 x4∧p4 x0 x1 x2 x3 x4∧p5 x0 x1 x2 x3 x4∧p6 x0 x1 x2 x3 x4∧p7 x0 x1 x2 x3 x4∧p8 x0 x1 x2 x3 x4) (k:∀ x0 x1 x2 x3 x4,p0 x0 x1 x2 x3 x4→p1 x0 x1 x2 x3 x4→p2 x0 x1 x2 x3 x4→p3 x0 x1 x2 x3 x4→p4 x0 x1 x2 x3 x4→p5 x0 x1 x2 x3 x4→p6 x0 x1 x2 x3 x4→p7 x0 x1 x2 x3 x4→p8 x0 x1 x2 x3 x4→G):G:=h.elim fun x h=>E49 h (k x)
theorem E010  {p0 p1 p2 p3 p4 p5 p6 p7 p8 p9:Prop} {G:Prop} (h:p0∧p1∧p2∧p3∧p4∧p5∧p6∧p7∧p8∧p9) (k:p0→p1→p2→p3→p4→p5→p6→p7→p8→p9→G):G:=k h.1 h.2.1 h.2.2.1 h.2.2.2.1 h.2.2.2.2.1 h.2.2.2.2.2.1 h.2.2.2.2.2.2.1 h.2.2.2.2.2.2.2.1 h.2.2.2.2.2.2.2.2.1 h.2.2.2.2.2.2.2.2.2
theorem E110.{u0} {α:Sort u0} {p0 p1 p2 p3 p4 p5 p6 p7 p8 p9:α→Prop} {G:Prop} (h:∃ x0,p0 x0∧p1 x0∧p2 x0∧p3 x0∧p4 x0∧p5 x0∧p6 x0∧p7 x0∧p8 x0∧p9 x0) (k:∀ x0,p0 x0→p1 x0→p2 x0→p3 x0→p4 x0→p5 x0→p6 x0→p7 x0→p8 x0→p9 x0→G):G:=h.elim fun x h=>E010 h (k x)
theorem E210.{u0,u1} {α:Sort u0} {β:Sort u1} {p0 p1 p2 p3 p4 p5 p6 p7 p8 p9:α→β→Prop} {G:Prop} (h:∃ x0 x1,p0 x0 x1∧p1 x0 x1∧p2 x0 x1∧p3 x0 x1∧p4 x0 x1∧p5 x0 x1∧p6 x0 x1∧p7 x0 x1∧p8 x0 x1∧p9 x0 x1) (k:∀ x0 x1,p0 x0 x1→p1 x0 x1→p2 x0 x1→p3 x0 x1→p4 x0 x1→p5 x0 x1→p6 x0 x1→p7 x0 x1→p8 x0 x1→p9 x0 x1→G):G:=h.elim fun x h=>E110 h (k x)
theorem E310.{u0,u1,u2} {α:Sort u0} {β:Sort u1} {γ:Sort u2} {p0 p1 p2 p3 p4 p5 p6 p7 p8 p9:α→β→γ→Prop} {G:Prop} (h:∃ x0 x1 x2,p0 x0 x1 x2∧p1 x0 x1 x2∧p2 x0 x1 x2∧p3 x0 x1 x2∧p4 x0 x1 x2∧p5 x0 x1 x2∧p6 x0 x1 x2∧p7 x0 x1 x2∧p8 x0 x1 x2∧p9 x0 x1 x2) (k:∀ x0 x1 x2,p0 x0 x1 x2→p1 x0 x1 x2→p2 x0 x1 x2→p3 x0 x1 x2→p4 x0 x1 x2→p5 x0 x1 x2→p6 x0 x1 x2→p7 x0 x1 x2→p8 x0 x1 x2→p9 x0 x1 x2→G):G:=h.elim fun x h=>E210 h (k x)
theorem E410.{u0,u1,u2,u3} {α:Sort u0} {β:Sort u1} {γ:Sort u2} {δ:Sort u3} {p0 p1 p2 p3 p4 p5 p6 p7 p8 p9:α→β→γ→δ→Prop} {G:Prop} (h:∃ x0 x1 x2 x3,p0 x0 x1 x2 x3∧p1 x0 x1 x2 x3∧p2 x0 x1 x2 x3∧p3 x0 x1 x2 x3∧p4 x0 x1 x2 x3∧p5 x0 x1 x2 x3∧p6 x0 x1 x2 x3∧p7 x0 x1 x2 x3∧p8 x0 x1 x2 x3∧p9 x0 x1 x2 x3) (k:∀ x0 x1 x2 x3,p0 x0 x1 x2 x3→p1 x0 x1 x2 x3→p2 x0 x1 x2 x3→p3 x0 x1 x2 x3→p4 x0 x1 x2 x3→p5 x0 x1 x2 x3→p6 x0 x1 x2 x3→p7 x0 x1 x2 x3→p8 x0 x1 x2 x3→p9 x0 x1 x2 x3→G):G:=h.elim fun x h=>E310 h (k x)
theorem E510.{u0,u1,u2,u3,u4} {α:Sort u0} {β:Sort u1} {γ:Sort u2} {δ:Sort u3} {ε:Sort u4} {p0 p1 p2 p3 p4 p5 p6 p7 p8 p9:α→β→γ→δ→ε→Prop} {G:Prop} (h:∃ x0 x1 x2 x3 x4,p0 x0 x1 x2 x3 x4∧p1 x0 x1 x2 x3 x4∧p2 x0 x1 x2 x3 x4∧p3 x0 x1 x2 x3 x4∧p4 x0 x1 x2 x3 x4∧p5 x0 x1 x2 x3 x4∧p6 x0 x1 x2 x3 x4∧p7 x0 x1 x2 x3 x4∧p8 x0 x1 x2 x3 x4∧p9 x0 x1 x2 x3 x4) (k:∀ x0 x1 x2 x3 x4,p0 x0 x1 x2 x3 x4→p1 x0 x1 x2 x3 x4→p2 x0 x1 x2 x3 x4→p3 x0 x1 x2 x3 x4→p4 x0 x1 x2 x3 x4→p5 x0 x1 x2 x3 x4→p6 x0 x1 x2 x3 x4→p7 x0 x1 x2 x3 x4→p8 x0 x1 x2 x3 x4→p9 x0 x1 x2 x3 x4→G):G:=h.elim fun x h=>E410 h (k x)
theorem R02  {p0 p1:Prop} {G:Prop} (k:p0→p1→G) (h:p0∧p1):G:=E02 h k
theorem R12.{u0} {α:Sort u0} {p0 p1:α→Prop} {G:Prop} (k:∀ x0,p0 x0→p1 x0→G) (h:∃ x0,p0 x0∧p1 x0):G:=E12 h k
theorem R22.{u0,u1} {α:Sort u0} {β:Sort u1} {p0 p1:α→β→Prop} {G:Prop} (k:∀ x0 x1,p0 x0 x1→p1 x0 x1→G) (h:∃ x0 x1,p0 x0 x1∧p1 x0 x1):G:=E22 h k
theorem R32.{u0,u1,u2} {α:Sort u0} {β:Sort u1} {γ:Sort u2} {p0 p1:α→β→γ→Prop} {G:Prop} (k:∀ x0 x1 x2,p0 x0 x1 x2→p1 x0 x1 x2→G) (h:∃ x0 x1 x2,p0 x0 x1 x2∧p1 x0 x1 x2):G:=E32 h k
theorem R13.{u0} {α:Sort u0} {p0 p1 p2:α→Prop} {G:Prop} (k:∀ x0,p0 x0→p1 x0→p2 x0→G) (h:∃ x0,p0 x0∧p1 x0∧p2 x0):G:=E13 h k
theorem R23.{u0,u1} {α:Sort u0} {β:Sort u1} {p0 p1 p2:α→β→Prop} {G:Prop} (k:∀ x0 x1,p0 x0 x1→p1 x0 x1→p2 x0 x1→G) (h:∃ x0 x1,p0 x0 x1∧p1 x0 x1∧p2 x0 x1):G:=E23 h k
theorem R24.{u0,u1} {α:Sort u0} {β:Sort u1} {p0 p1 p2 p3:α→β→Prop} {G:Prop} (k:∀ x0 x1,p0 x0 x1→p1 x0 x1→p2 x0 x1→p3 x0 x1→G) (h:∃ x0 x1,p0 x0 x1∧p1 x0 x1∧p2 x0 x1∧p3 x0 x1):G:=E24 h k
theorem R34.{u0,u1,u2} {α:Sort u0} {β:Sort u1} {γ:Sort u2} {p0 p1 p2 p3:α→β→γ→Prop} {G:Prop} (k:∀ x0 x1 x2,p0 x0 x1 x2→p1 x0 x1 x2→p2 x0 x1 x2→p3 x0 x1 x2→G) (h:∃ x0 x1 x2,p0 x0 x1 x2∧p1 x0 x1 x2∧p2 x0 x1 x2∧p3 x0 x1 x2):G:=E34 h k
theorem R25.{u0,u1} {α:Sort u0} {β:Sort u1} {p0 p1 p2 p3 p4:α→β→Prop} {G:Prop} (k:∀ x0 x1,p0 x0 x1→p1 x0 x1→p2 x0 x1→p3 x0 x1→p4 x0 x1→G) (h:∃ x0 x1,p0 x0 x1∧p1 x0 x1∧p2 x0 x1∧p3 x0 x1∧p4 x0 x1):G:=E25 h k
theorem oz {n i:Nat} (h:n - i=0) (h':i≤n):i=n:=Nat.le_antisymm h' (Nat.le_of_sub_eq_zero h)
theorem dec1 {n i:Nat} (h:i < n):n + 1 - (i + 1) < n + 1 - i:=Nat.sub_lt_sub_left (Nat.lt_succ_of_lt h) (Nat.lt_succ_self i)
theorem oe {n i:Nat} (h:i≤n) (h':¬ i < n):i=n:=Nat.le_antisymm h (Nat.le_of_not_lt h')
theorem ol {n i k:Nat} (h:n - i=k + 1):i < n:=Nat.lt_of_sub_eq_succ h
theorem os {n i k:Nat} (h:n - i=k + 1):n - (i + 1)=k:=by rw [Nat.sub_succ,h]; rfl
end Mine
end
noncomputable section
namespace Mine
open PySem
structure Cx where
 prog:Program
 w:World
 G:Heap
 mg:Str→Option Value
 mb:Str→Option Value
noncomputable abbrev Cx.M (c:Cx):Model:=model c.prog c.w
noncomputable abbrev Cx.K (c:Cx):KeyKind c.prog c.w Str:=PySem.strKind c.prog c.w
inductive All2 {α β:Type} (R:α→β→Prop):List α→List β→Prop
 | nil:All2 R [] []
 | cons {a b as bs}:R a b→All2 R as bs→All2 R (a::as) (b::bs)
theorem All2.length {α β:Type} {R:α→β→Prop} {as:List α} {bs:List β} (h:All2 R as bs):as.length=bs.length:=by
 induction h with
 | nil=>rfl
 | cons _ _ ih=>simp [ih]
theorem All2.append {α β:Type} {R:α→β→Prop} {as as':List α} {bs bs':List β} (h:All2 R as bs) (h':All2 R as' bs'):All2 R (as++as') (bs++bs'):=by
 induction h with
 | nil=>exact h'
 | cons h1 _ ih=>exact .cons h1 ih
theorem All2.get {α β:Type} {R:α→β→Prop} {as:List α} {bs:List β} (h:All2 R as bs):∀ (i:Nat) (a:α),as[i]?=some a→∃ b,bs[i]?=some b∧R a b:=by
 induction h with
 | nil=>intro i a hi; simp at hi
 | cons h1 _ ih =>
  intro i a hi
  cases i with
  | zero=>simp at hi; subst hi; exact (I12 _ (by simp) h1)
  | succ i=>simp at hi; refine E12 (ih i a hi) fun b hb hr=>?_; exact (I12 b (by simpa using hb) hr)
theorem All2.get' {α β:Type} {R:α→β→Prop} {as:List α} {bs:List β} (h:All2 R as bs):∀ (i:Nat) (b:β),bs[i]?=some b→∃ a,as[i]?=some a∧R a b:=by
 induction h with
 | nil=>intro i a hi; simp at hi
 | cons h1 _ ih =>
  intro i a hi
  cases i with
  | zero=>simp at hi; subst hi; exact (I12 _ (by simp) h1)
  | succ i=>simp at hi; refine E12 (ih i a hi) fun b hb hr=>?_; exact (I12 b (by simpa using hb) hr)
noncomputable def PTup (h:Heap) (a:Addr) (items:Array Value):Prop:=∃ n,h.get? a=some { cls:=.type "tuple", data:=.seq items n }
theorem PTup.isTuple {h:Heap} {a:Addr} {items:Array Value} (x:PTup h a items):h.IsTuple a items:=let ⟨n,e⟩:=x; (I13 _ e rfl (I11 n rfl))
theorem PTup.at {h h':Heap} {a:Addr} {items:Array Value} (x:PTup h a items) (hk:∀ o,h.get? a=some o→h'.get? a=some o):PTup h' a items:=let ⟨n,e⟩:=x; ⟨n,hk _ e⟩
inductive V where
 | none
 | bool (b:Bool)
 | int (i:Int)
 | str (s:Str)
 | tup (xs:List V)
 | lst (xs:List V)
 | dct (es:List (Str×V))
 | set (xs:List Str)
 | typ (n:String)
 | ref (a:Addr)
 | view (x:V)
noncomputable def SetL (c:Cx) (h:Heap) (a:Addr) (xs:List Str):Prop :=
 ∃ o es ep t ks,h.get? a=some o∧o.ExactSet∧o.data=.set es ep t
  ∧ All2 (fun (e:Int×Value) k=>c.K.is k e.2=true∧e.1=c.K.hash k∧e.2.scannable=true) es.toList ks
  ∧ ks.Perm xs∧xs.Nodup∧es.size < scanBound∧t.fits es.size=true
  ∧ (t.led=true∨c.w.params.followText "set-order" = true)∧(es.size≠0→t.plain=false)
mutual
inductive Rd (c:Cx) (Z:Addr→Prop) (h:Heap):V→Value→Prop
 | none:Rd c Z h .none .none
 | bool (b):Rd c Z h (.bool b) (.bool b)
 | int (i t):Rd c Z h (.int i) (.int i t)
 | str (s t):Rd c Z h (.str s) (.str s t)
 | typ (n):Rd c Z h (.typ n) (.type n)
 | ref (a):Rd c Z h (.ref a) (.ref a)
 | tup {a xs items}:Z a→PTup h a items→RdL c Z h xs items.toList→Rd c Z h (.tup xs) (.ref a)
 | lst {a xs items}:Z a→h.PlainList a items→RdL c Z h xs items.toList→Rd c Z h (.lst xs) (.ref a)
 | dct {a es kvs ep}:Z a→(a == sysModules)=false→h.DictAt c.K a kvs ep→kvs.map (·.1)=es.map (·.1)→RdL c Z h (es.map (·.2)) (kvs.map (·.2))→Rd c Z h (.dct es) (.ref a)
 | set {a xs}:Z a→SetL c h a xs→Rd c Z h (.set xs) (.ref a)
 | view {a x d}:Z a→h.IsItemsView a d→Rd c Z h x (.ref d)→Rd c Z h (.view x) (.ref a)
inductive RdL (c:Cx) (Z:Addr→Prop) (h:Heap):List V→List Value→Prop
 | nil:RdL c Z h [] []
 | cons {x v xs vs}:Rd c Z h x v→RdL c Z h xs vs→RdL c Z h (x::xs) (v::vs)
end
section
variable {c:Cx} {Z:Addr→Prop} {h:Heap} {v:Value} {C:Value→Prop}
@[elab_as_elim] theorem Rd.bool_elim {b:Bool} (r:Rd c Z h (.bool b) v) (k:C (.bool b)):C v:=by cases r; exact k
@[elab_as_elim] theorem Rd.int_elim {i:Int} (r:Rd c Z h (.int i) v) (k:∀ t,C (.int i t)):C v:=by cases r; exact k _
@[elab_as_elim] theorem Rd.str_elim {s:Str} (r:Rd c Z h (.str s) v) (k:∀ t,C (.str s t)):C v:=by cases r; exact k _
@[elab_as_elim] theorem Rd.typ_elim {n:String} (r:Rd c Z h (.typ n) v) (k:C (.type n)):C v:=by cases r; exact k
@[elab_as_elim] theorem Rd.ref_elim {a:Addr} (r:Rd c Z h (.ref a) v) (k:C (.ref a)):C v:=by cases r; exact k
@[elab_as_elim] theorem Rd.tup_elim {xs:List V} (r:Rd c Z h (.tup xs) v) (k:∀ a items,Z a→PTup h a items→RdL c Z h xs items.toList→C (.ref a)):C v:=by
 cases r with | tup x y z=>exact k _ _ x y z
@[elab_as_elim] theorem Rd.lst_elim {xs:List V} (r:Rd c Z h (.lst xs) v) (k:∀ a items,Z a→h.PlainList a items→RdL c Z h xs items.toList→C (.ref a)):C v:=by
 cases r with | lst x y z=>exact k _ _ x y z
@[elab_as_elim] theorem Rd.dct_elim {es:List (Str×V)} (r:Rd c Z h (.dct es) v) (k:∀ a kvs ep,Z a→(a == sysModules)=false→h.DictAt c.K a kvs ep→kvs.map (·.1)=es.map (·.1)→RdL c Z h (es.map (·.2)) (kvs.map (·.2))→C (.ref a)):C v:=by
 cases r with | dct x y z p q=>exact k _ _ _ x y z p q
end
theorem RdL.ind {c Z h} {M:List V→List Value→Prop} (h0:M [] []) (h1:∀ {x v xs vs},Rd c Z h x v→RdL c Z h xs vs→M xs vs→M (x::xs) (v::vs)) {xs vs} (r:RdL c Z h xs vs):M xs vs :=
 RdL.rec (motive_1:=fun qa qb qc=>True) (motive_2:=fun xs vs qa=>M xs vs) trivial (fun qa=>trivial) (fun qa qb=>trivial) (fun qa qb=>trivial) (fun qa=>trivial) (fun qa=>trivial) (fun qa qb qc qd=>trivial) (fun qa qb qc qd=>trivial) (fun qa qb qc qd qe qf=>trivial) (fun qa qb=>trivial) (fun qa qb qc qd=>trivial) h0 (fun a b qa ih=>h1 a b ih) r
theorem RdL.length {c Z h xs vs} (r:RdL c Z h xs vs):xs.length=vs.length:=r.ind (M:=fun xs vs=>xs.length=vs.length) rfl fun qa qb ih=>congrArg (· + 1) ih
theorem RdL.append {c Z h xs vs ys us} (r:RdL c Z h xs vs) (t:RdL c Z h ys us):RdL c Z h (xs++ys) (vs++us):=r.ind (M:=fun xs vs=>RdL c Z h (xs++ys) (vs++us)) t fun a qa ih=>.cons a ih
theorem RdL.get {c Z h xs vs} (r:RdL c Z h xs vs):∀ (i:Nat) x,xs[i]?=some x→∃ v,vs[i]?=some v∧Rd c Z h x v :=
 r.ind (M:=fun xs vs=>∀ (i:Nat) x,xs[i]?=some x→∃ v,vs[i]?=some v∧Rd c Z h x v) (fun i x e=>by rw [List.getElem?_nil] at e; cases e) fun a qa ih i x e=>by
  cases i with
  | zero=>rw [List.getElem?_cons_zero] at e ⊢; cases e; exact I12 _ rfl a
  | succ i=>rw [List.getElem?_cons_succ] at e ⊢; exact ih i x e
theorem RdL.get' {c Z h xs vs} (r:RdL c Z h xs vs):∀ (i:Nat) v,vs[i]?=some v→∃ x,xs[i]?=some x∧Rd c Z h x v :=
 r.ind (M:=fun xs vs=>∀ (i:Nat) v,vs[i]?=some v→∃ x,xs[i]?=some x∧Rd c Z h x v) (fun i x e=>by rw [List.getElem?_nil] at e; cases e) fun a qa ih i x e=>by
  cases i with
  | zero=>rw [List.getElem?_cons_zero] at e ⊢; cases e; exact I12 _ rfl a
  | succ i=>rw [List.getElem?_cons_succ] at e ⊢; exact ih i x e
theorem RdL.drop {c Z h xs vs} (r:RdL c Z h xs vs):∀ n,RdL c Z h (xs.drop n) (vs.drop n) :=
 r.ind (M:=fun xs vs=>∀ n,RdL c Z h (xs.drop n) (vs.drop n)) (fun n=>by rw [List.drop_nil,List.drop_nil]; exact .nil) fun a b ih n=>by
  cases n with
  | zero=>exact .cons a b
  | succ n=>exact ih n
theorem RdL.take {c Z h xs vs} (r:RdL c Z h xs vs):∀ n,RdL c Z h (xs.take n) (vs.take n) :=
 r.ind (M:=fun xs vs=>∀ n,RdL c Z h (xs.take n) (vs.take n)) (fun n=>by rw [List.take_nil,List.take_nil]; exact .nil) fun a qa ih n=>by
  cases n with
  | zero=>exact .nil
  | succ n=>exact .cons a (ih n)
theorem SetL.keep {c:Cx} {h h':Heap} {a:Addr} {xs:List Str} (x:SetL c h a xs) (e:∀ o,h.get? a=some o→h'.get? a=some o):SetL c h' a xs :=
 E52 x fun o es ep t ks h1 r=>I52 o es ep t ks (e _ h1) r
theorem Rd.keep {c:Cx} {Z Z':Addr→Prop} {h h':Heap} (hZ:∀ b,Z b→Z' b) (hk:∀ b o,Z b→h.get? b=some o→h'.get? b=some o) {x v} (r:Rd c Z h x v):Rd c Z' h' x v :=
 Rd.rec (motive_1:=fun x v qa=>Rd c Z' h' x v) (motive_2:=fun xs vs qa=>RdL c Z' h' xs vs) .none .bool .int .str .typ .ref (fun z ht qa ih=>.tup (hZ _ z) (ht.at fun o=>hk _ o z) ih) (fun z ht qa ih=>.lst (hZ _ z) (ht.at fun o=>hk _ o z) ih)
  (fun z hs ht e qa ih=>.dct (hZ _ z) hs (E22 ht fun o es ho q=>I22 o es (hk _ o z ho) q) e ih) (fun z ht=>.set (hZ _ z) (ht.keep fun o=>hk _ o z)) (fun z ht qa ih=>.view (hZ _ z) (E12 ht fun o ho q=>I12 o (hk _ o z ho) q) ih) .nil (fun qa qb a b=>.cons a b) r
theorem RdL.keep {c:Cx} {Z Z':Addr→Prop} {h h':Heap} (hZ:∀ b,Z b→Z' b) (hk:∀ b o,Z b→h.get? b=some o→h'.get? b=some o) {xs vs} (r:RdL c Z h xs vs):RdL c Z' h' xs vs:=r.ind (M:=fun xs vs=>RdL c Z' h' xs vs) .nil fun a qa ih=>.cons (a.keep hZ hk) ih
inductive O where
 | lst (xs:List V)
 | dct (es:List (Str×V))
 | set (xs:List Str)
 | inst (C d:Addr)
 | ns (es:List (Str×V))
noncomputable def RdO (c:Cx) (Z:Addr→Prop) (h:Heap) (a:Addr):O→Prop
 | .lst xs=>∃ items,h.PlainList a items∧RdL c Z h xs items.toList
 | .dct es=>∃ kvs ep,(a == sysModules)=false∧h.DictAt c.K a kvs ep∧kvs.map (·.1)=es.map (·.1)∧RdL c Z h (es.map (·.2)) (kvs.map (·.2))
 | .set xs=>SetL c h a xs
 | .inst C d=>d≠a∧∃ o,h.get? a=some o∧o.cls=.ref C∧(∀ k,o.data≠.cls k)∧o.dict=some d
 | .ns es=>∃ mA,h.Ns1 a mA∧(∀ x,es.lookup x=none→mA x=none)∧∀ x X,es.lookup x=some X→∃ v,mA x=some v∧Rd c Z h X v
theorem RdO.keep {c:Cx} {Z Z':Addr→Prop} {h h':Heap} {a:Addr} (hZ:∀ b,Z b→Z' b) (hk:∀ b o,Z b→h.get? b=some o→h'.get? b=some o) (ha:∀ o,h.get? a=some o→h'.get? a=some o) :
  ∀ {o:O},RdO c Z h a o→RdO c Z' h' a o
 | .lst xs,⟨items,hp,r⟩=>(I12 items (hp.at ha) (r.keep hZ hk))
 | .dct es,⟨kvs,ep,hs,hd,e,r⟩=>(I24 kvs ep hs (let ⟨o,es,ho,q⟩:=hd; (I22 o es (ha o ho) q)) e (r.keep hZ hk))
 | .set xs,x=>SetL.keep x ha
 | .inst C d,⟨n,o,x,q⟩=>(I02 n (I12 o (ha _ x) q))
 | .ns es,⟨mA,h1,h2,h3⟩=>(I13 mA (h1.at ha) h2 (fun x X e=>let ⟨v,e1,r⟩:=h3 x X e; (I12 v e1 (r.keep hZ hk))))
theorem RdO.some {c:Cx} {Z:Addr→Prop} {h:Heap} {a:Addr}:∀ {o:O},RdO c Z h a o→∃ ob,h.get? a=some ob
 | .lst xs,h=>E12 h fun items hp qa=>E11 hp fun n e=>⟨_,e⟩
 | .dct es,h=>E24 h fun kvs ep qa hd qb qc=>E22 hd fun o es' ho qa=>⟨o,ho⟩
 | .set xs,h=>E52 h fun o qa qb qc qd ho qe=>⟨o,ho⟩
 | .inst C d,h=>E02 h fun qa h=>E12 h fun o x qa=>⟨o,x⟩
 | .ns es,h=>E12 h fun qa hn qb=>E32 hn fun o qa qb ho qc=>⟨o,ho⟩
end Mine
end
noncomputable section
namespace Mine
open PySem
noncomputable def Kp (h h':Heap):Prop:=∀ b o,h.get? b=some o→h'.get? b=some o
theorem Kp.refl (h:Heap):Kp h h:=fun qa qb e=>e
theorem Kp.trans {h₁ h₂ h₃:Heap} (x:Kp h₁ h₂) (y:Kp h₂ h₃):Kp h₁ h₃:=fun b o e=>y b o (x b o e)
theorem Kp.push (h:Heap) (o:Obj):Kp h (h.push o):=fun qa qb e=>Heap.get?_push_of_some _ e
theorem fresh_none (h:Heap) (a:Addr) (ha:h.objs.size≤a):h.get? a=none:=by
 cases e:h.get? a with
 | none=>rfl
 | some o=>exact absurd (Heap.lt_size e) (Nat.not_lt.mpr ha)
noncomputable def tabs:List (Addr×Addr):=[(187,183),(202,200),(207,205),(236,234)]
noncomputable def isT (b:Addr):Prop:=∃ q∈tabs,q.2=b
noncomputable def IsTab (h:Heap) (q:Addr×Addr):Prop:=∃ ps,h.IsCode q.1 q.2 ps∧h.TableAt q.1 q.2 ps
theorem code_at {h h':Heap} {c P:Addr} {ps:Array Value} (x:h.IsCode c P ps) (k1:∀ o,h.get? c=some o→h'.get? c=some o) (k2:∀ o,h.get? P=some o→h'.get? P=some o):h'.IsCode c P ps :=
 Exists.imp (fun o=>Exists.imp fun vs=>Exists.imp fun file=>Exists.imp fun tf=>Exists.imp fun flags=>Exists.imp fun tg=>Exists.imp fun inF=>Exists.imp fun text=>Exists.imp fun tt=>Exists.imp fun op=>And.imp (k1 o) (And.imp_right (And.imp_right (And.imp_right (And.imp_right (And.imp_right (And.imp_right (And.imp_left (k2 op))))))))) x
theorem IsTab.at {h h':Heap} {q:Addr×Addr} (x:IsTab h q) (k1:∀ o,h.get? q.1=some o→h'.get? q.1=some o) (k2:∀ o,h.get? q.2=some o→h'.get? q.2=some o):IsTab h' q :=
 Exists.imp (fun ps=>And.imp (fun y=>code_at y k1 k2) (And.imp (Exists.imp fun o=>Exists.imp fun vs=>And.imp_left (k1 o)) (k2 _))) x
theorem IsTab.kp {h h':Heap} {q:Addr×Addr} (x:IsTab h q) (hk:Kp h h'):IsTab h' q:=x.at (fun o=>hk _ o) fun o=>hk _ o
theorem IsTab.obj {h:Heap} {q:Addr×Addr} (x:IsTab h q):∃ ps,h.get? q.2=some { cls:=.none,data:=.fields ps }:=let ⟨ps,_,_,t⟩:=x; ⟨ps,t⟩
structure St where
 loc:List (Str×V)
 hp:List (Addr×O)
noncomputable def HasVar (env:Env) (h:Heap) (x:Str) (v:Value):Prop :=
 (env.kindOf x=some .local∧∃ m,h.Ns env.locals m∧m x=some v) ∨
 ((env.kindOf x=some .cell∨env.kindOf x=some .free)∧∃ cl,env.cells.lookup x=some cl∧h.IsCell cl (some v))
noncomputable def OwnA (env:Env) (b:Addr):Prop:=b=env.locals∨∃ x,env.kindOf x=some .cell∧env.cells.lookup x=some b
structure TopOk (c:Cx):Prop where
 g:c.G.Ns mainGlobals c.mg
 b:c.G.Ns builtinsNs c.mb
 nolimit:c.G.NoLimit
 blt:∀ x:Str,x ≠ "__name__" → c.mb x=bootBuiltins x
structure Inv (c:Cx) (Z P:Addr→Prop) (h:Heap):Prop where
 ground:∀ b o,c.G.get? b=some o→Z b∧h.get? b=some o
 exZ:∀ b,Z b→∃ o,h.get? b=some o
 exP:∀ b,P b→∃ o,h.get? b=some o
 off:∀ b,Z b→¬ P b
 sys:Z sysModules
 top:TopOk c
 tp:∀ q∈tabs,P q.2
 tab:∀ q∈tabs,Z q.1∧IsTab h q
theorem Inv.nT {c:Cx} {Z P:Addr→Prop} {h:Heap} (I:Inv c Z P h) {b:Addr} (hb:¬ P b):¬ isT b:=fun ⟨q,hq,e⟩=>hb (e▸I.tp q hq)
theorem Inv.nTo {c:Cx} {Z P:Addr→Prop} {h:Heap} (I:Inv c Z P h) {b:Addr} (hb:∀ ps,h.get? b≠some { cls:=.none,data:=.fields ps }):¬ isT b:=fun ⟨q,hq,e⟩=>let ⟨ps,x⟩:=(I.tab q hq).2.obj; hb ps (e▸x)
theorem Inv.nT0 {c:Cx} {Z P:Addr→Prop} {h:Heap} (I:Inv c Z P h) {b:Addr} (hb:h.get? b=none):¬ isT b:=I.nTo fun qa e=>by rw [hb] at e; cases e
theorem Inv.nTc {c:Cx} {Z P:Addr→Prop} {h:Heap} (I:Inv c Z P h) {b:Addr} {v:Option Value} (hb:h.IsCell b v):¬ isT b:=I.nTo fun qa e=>by
 obtain ⟨o,ho,hd⟩:=hb
 rw [e] at ho; cases ho; cases hd
theorem Inv.tabAt {c:Cx} {Z P:Addr→Prop} {h h':Heap} (I:Inv c Z P h) (kZ:∀ b o,Z b→h.get? b=some o→h'.get? b=some o) (kT:∀ b o,isT b→h.get? b=some o→h'.get? b=some o):∀ q∈tabs,IsTab h' q :=
 fun q hq=>(I.tab q hq).2.at (fun o=>kZ _ o (I.tab q hq).1) fun o=>kT _ o ⟨q,hq,rfl⟩
structure HpR (c:Cx) (Z P:Addr→Prop) (h:Heap) (hp:List (Addr×O)):Prop where
 obj:∀ a o,(a,o)∈hp→RdO c Z h a o∧¬ Z a∧¬ P a
 nodup:(hp.map (·.1)).Nodup
structure Rel (c:Cx) (Z P:Addr→Prop) (env:Env) (σ:St) (h:Heap):Prop where
 inv:Inv c Z P h
 fn:env.scope.kind=.function
 gl:env.globals=mainGlobals
 bl:env.builtins=builtinsNs
 ns:∃ m,h.Ns env.locals m
 cells:∀ x,env.kindOf x=some .cell→∃ cl v,env.cells.lookup x=some cl∧h.IsCell cl v
 inj:∀ x y cl,env.kindOf x=some .cell→env.kindOf y=some .cell→env.cells.lookup x=some cl→env.cells.lookup y=some cl→x=y
 cellL:∀ x cl,env.kindOf x=some .cell→env.cells.lookup x=some cl→cl≠env.locals
 freeP:∀ x cl,env.kindOf x=some .free→env.cells.lookup x=some cl→P cl
 own:∀ b,OwnA env b→¬ Z b∧¬ P b
 vars:∀ x X,σ.loc.lookup x=some X→∃ v,HasVar env h x v∧Rd c Z h X v
 hp:HpR c Z P h σ.hp
 hpOff:∀ a o,(a,o)∈σ.hp→¬ OwnA env a
structure GB (x x':Array GenState):Prop where
 size:x.size≤x'.size
 bare:PyProof.Rows.AllBare x→PyProof.Rows.AllBare x'
theorem GB.refl (x:Array GenState):GB x x:=⟨Nat.le_refl _,fun h=>h⟩
theorem GB.trans {x y z:Array GenState} (a:GB x y) (b:GB y z):GB x z:=⟨Nat.le_trans a.size b.size,fun h=>b.bare (a.bare h)⟩
@[reducible] noncomputable def cr (s:Shared):Heap×Array GenState×OsState:=(s.heap,s.gens,s.os)
structure Step (Z P:Addr→Prop) (x:Heap×Array GenState×OsState) (Z':Addr→Prop) (x':Heap×Array GenState×OsState):Prop where
 grow:∀ b,Z b→Z' b
 keepZ:∀ b o,Z b→x.1.get? b=some o→x'.1.get? b=some o
 keepP:∀ b o,P b→¬ isT b→x.1.get? b=some o→x'.1.get? b=some o
 keepT:∀ q∈tabs,IsTab x.1 q→IsTab x'.1 q
 os:x'.2.2=x.2.2
 gens:GB x.2.1 x'.2.1
theorem Step.refl (Z P:Addr→Prop) (x:Heap×Array GenState×OsState):Step Z P x Z x:=⟨fun qa z=>z,fun qa qb qc e=>e,fun qa qb qc qd e=>e,fun qa qb t=>t,rfl,GB.refl _⟩
theorem Step.trans {Z P:Addr→Prop} {s s' s'':Heap×Array GenState×OsState} {Z' Z''} (x:Step Z P s Z' s') (y:Step Z' P s' Z'' s''):Step Z P s Z'' s'' :=
 ⟨fun b z=>y.grow b (x.grow b z),fun b o z e=>y.keepZ b o (x.grow b z) (x.keepZ b o z e),fun b o z n e=>y.keepP b o z n (x.keepP b o z n e),fun q hq t=>y.keepT q hq (x.keepT q hq t),y.os.trans x.os,x.gens.trans y.gens⟩
theorem Step.kp {Z P:Addr→Prop} {s:Shared} {h':Heap} (hk:Kp s.heap h'):Step Z P (cr s) Z (cr { s with heap:=h' }):=⟨fun qa z=>z,fun b o qa e=>hk b o e,fun b o qa qb e=>hk b o e,fun qa qb t=>t.kp hk,rfl,GB.refl _⟩
theorem Rd.step {c:Cx} {Z P:Addr→Prop} {s s':Shared} {Z'} {x v} (r:Rd c Z s.heap x v) (S:Step Z P (cr s) Z' (cr s')):Rd c Z' s'.heap x v:=r.keep S.grow S.keepZ
theorem RdL.step {c:Cx} {Z P:Addr→Prop} {s s':Shared} {Z'} {x v} (r:RdL c Z s.heap x v) (S:Step Z P (cr s) Z' (cr s')):RdL c Z' s'.heap x v:=r.keep S.grow S.keepZ
theorem Rd.kp {c:Cx} {Z:Addr→Prop} {h h':Heap} {x v} (r:Rd c Z h x v) (hk:Kp h h'):Rd c Z h' x v:=r.keep (fun qa z=>z) fun b o qa e=>hk b o e
theorem RdL.kp {c:Cx} {Z:Addr→Prop} {h h':Heap} {x v} (r:RdL c Z h x v) (hk:Kp h h'):RdL c Z h' x v:=r.keep (fun qa z=>z) fun b o qa e=>hk b o e
theorem Rd.more {c:Cx} {Z Z':Addr→Prop} {h:Heap} {x v} (r:Rd c Z h x v) (hZ:∀ b,Z b→Z' b):Rd c Z' h x v:=r.keep hZ fun b o qa e=>e
theorem RdL.more {c:Cx} {Z Z':Addr→Prop} {h:Heap} {x v} (r:RdL c Z h x v) (hZ:∀ b,Z b→Z' b):RdL c Z' h x v:=r.keep hZ fun b o qa e=>e
theorem HasVar.keep {env:Env} {h h':Heap} {x:Str} {v:Value} (H:HasVar env h x v)
  (hL:∀ o,h.get? env.locals=some o→h'.get? env.locals=some o) (hC:∀ cl o,env.cells.lookup x=some cl→h.get? cl=some o→h'.get? cl=some o):HasVar env h' x v:=by
 rcases H with ⟨k,m,⟨o,es,ep,ho,r⟩,hm⟩ | ⟨k,cl,hcl,⟨o,ho,hd⟩⟩
 ·exact .inl (I02 k (I12 m (I32 o es ep (hL _ ho) r) hm))
 ·exact .inr (I02 k (I12 cl hcl (I12 o (hC cl o hcl ho) hd)))
theorem Rel.new {c:Cx} {Z P:Addr→Prop} {env:Env} {σ:St} {h h':Heap} (R:Rel c Z P env σ h) (hk:Kp h h') {N:Addr→Prop}
  (hN:∀ b,N b→h.get? b=none∧∃ o,h'.get? b=some o):Rel c (fun b=>Z b∨N b) P env σ h' where
 inv:=⟨fun b o e=>⟨.inl (R.inv.ground b o e).1,hk _ _ (R.inv.ground b o e).2⟩,fun b z=>z.elim (fun z=>let ⟨o,e⟩:=R.inv.exZ b z; ⟨o,hk _ _ e⟩) fun n=>(hN b n).2,
  fun b p=>let ⟨o,e⟩:=R.inv.exP b p; ⟨o,hk _ _ e⟩,fun b z p=>z.elim (fun z=>R.inv.off b z p) fun n=>by
   (obtain ⟨o,e⟩:=R.inv.exP b p
    rw [(hN b n).1] at e; cases e),.inl R.inv.sys,R.inv.top,R.inv.tp,fun q hq=>⟨.inl (R.inv.tab q hq).1,(R.inv.tab q hq).2.kp hk⟩⟩
 fn:=R.fn
 gl:=R.gl
 bl:=R.bl
 ns:=let ⟨m,hm⟩:=R.ns; ⟨m,hm.keeps hk⟩
 cells:=fun x hx=>let ⟨cl,v,h1,h2⟩:=R.cells x hx; (I22 cl v h1 (h2.keeps hk))
 inj:=R.inj
 cellL:=R.cellL
 freeP:=R.freeP
 own:=fun b hb=>by
  refine ⟨fun z=>z.elim (R.own b hb).1 fun n=>?_,(R.own b hb).2⟩
  rcases hb with rfl | ⟨x,h1,h2⟩
  ·refine E42 R.ns fun m o es ep ho qa=>?_
   rw [(hN _ n).1] at ho; cases ho
  ·refine E22 (R.cells x h1) fun cl v h3 z3=>?_; obtain ⟨o,ho,_⟩:=z3
   rw [h2] at h3; cases h3
   rw [(hN _ n).1] at ho; cases ho
 vars:=fun x X e=>let ⟨v,hv,r⟩:=R.vars x X e; (I12 v (hv.keep (fun o=>hk _ o) (fun cl o qa=>hk cl o)) (r.keep (fun qa z=>.inl z) fun b o qa e=>hk b o e))
 hp:=by
  refine ⟨fun a o ha=>?_,R.hp.nodup⟩
  refine E03 (R.hp.obj a o ha) fun h1 h2 h3=>?_
  refine (I03 (h1.keep (fun qa z=>.inl z) (fun b o qa e=>hk b o e) (fun o=>hk a o)) (fun z=>z.elim h2 fun n=>?_) h3)
  obtain ⟨ob,e⟩:=h1.some
  rw [(hN _ n).1] at e; cases e
 hpOff:=R.hpOff
theorem Rel.kp {c:Cx} {Z P:Addr→Prop} {env:Env} {σ:St} {h h':Heap} (R:Rel c Z P env σ h) (hk:Kp h h'):Rel c Z P env σ h':=by
 have:=R.new hk (N:=fun qa=>False) (fun qa f=>f.elim)
 have e:(fun b=>Z b∨False)=Z:=by funext b; simp
 rwa [e] at this
theorem Step.new {Z P:Addr→Prop} {s:Shared} {h':Heap} (hk:Kp s.heap h') (N:Addr→Prop):Step Z P (cr s) (fun b=>Z b∨N b) (cr { s with heap:=h' }) :=
 ⟨fun qa z=>.inl z,fun b o qa e=>hk b o e,fun b o qa qb e=>hk b o e,fun qa qb t=>t.kp hk,rfl,GB.refl _⟩
noncomputable def Fin {α β:Type} (c:Cx) (P:Addr→Prop) (env:Env) (R:(Addr→Prop)→Heap→β→α→Prop) (k:β→St→Prop) (Z:Addr→Prop) (s:Shared) (a:α) (s':Shared):Prop :=
 ∃ Z' b σ',Step Z P (cr s) Z' (cr s')∧Rel c Z' P env σ' s'.heap∧R Z' s'.heap b a∧k b σ'
theorem Fin.after {α β:Type} {c:Cx} {P:Addr→Prop} {env:Env} {R:(Addr→Prop)→Heap→β→α→Prop} {k:β→St→Prop} {Z Z₁:Addr→Prop} {s s₁:Shared} {a:α} {s':Shared}
  (S:Step Z P (cr s) Z₁ (cr s₁)) (f:Fin c P env R k Z₁ s₁ a s'):Fin c P env R k Z s a s' :=
 E32 f fun Z' b σ' S' r=>I32 Z' b σ' (S.trans S') r
structure AOk (A:Around):Prop where
 handled:A.handled=none
 units:A.units + 300 < cLine
 depth:A.depth + 5 < recursionLimit
structure Rm (n:Nat) (A:Around):Prop where
 handled:A.handled=none
 units:A.units + 300 + 100 * n < cLine
 depth:A.depth + 5 + 10 * n < recursionLimit
theorem Rm.ok {n:Nat} {A:Around} (h:Rm n A):AOk A:=⟨h.handled,Nat.lt_of_le_of_lt (Nat.le_add_right _ _) h.units,Nat.lt_of_le_of_lt (Nat.le_add_right _ _) h.depth⟩
theorem Rm.ar {a b c d n:Nat} (h:b≤d):a + b + c + d * n≤a + c + d * (n + 1):=by
 rw [Nat.mul_succ,Nat.add_right_comm a b c,Nat.add_assoc (a + c),Nat.add_comm b]; exact Nat.add_le_add_left (Nat.add_le_add_left h _) _
theorem Rm.deeper {n:Nat} {A:Around} (h:Rm (n + 1) A) (env:Env):Rm n (A.deeper env) :=
 ⟨h.handled,Nat.lt_of_le_of_lt (Rm.ar (by decide)) h.units,Nat.lt_of_le_of_lt (Rm.ar (by decide)) h.depth⟩
structure WP {α β:Type} (c:Cx) (A:Around) (env:Env) (σ:St) (t:Sem α) (R:(Addr→Prop)→Heap→β→α→Prop) (k:β→St→Prop):Prop where
 run:AOk A→∀ Z P s,Rel c Z P env σ s.heap→wpAny c.M A t (Fin c P env R k Z s) (fun qa qb=>False) s
noncomputable def RV (c:Cx) (Z:Addr→Prop) (h:Heap) (X:V) (v:Value):Prop:=Rd c Z h X v
noncomputable def RB (_:Addr→Prop) (_:Heap) (b:Bool) (a:Bool):Prop:=a=b
noncomputable def RU (_:Addr→Prop) (_:Heap) (_:Unit) (_:Unit):Prop:=True
inductive FV where
 | next | brk | cont
 | ret (x:V)
inductive RF (c:Cx) (Z:Addr→Prop) (h:Heap):FV→Flow→Prop
 | next:RF c Z h .next .next
 | brk:RF c Z h .brk .brk
 | cont:RF c Z h .cont .cont
 | ret {x v}:Rd c Z h x v→RF c Z h (.ret x) (.ret v)
noncomputable def WE (c:Cx) (A:Around) (env:Env) (σ:St) (e:Expr) (k:V→St→Prop):Prop:=WP c A env σ (eval e env) (RV c) k
noncomputable def WT (c:Cx) (A:Around) (env:Env) (σ:St) (e:Expr) (k:Bool→St→Prop):Prop:=WP c A env σ (isTrue e env (eval e env)) RB k
noncomputable def WEs (c:Cx) (A:Around) (env:Env) (σ:St) (pos:Pos) (es:List Expr) (k:List V→St→Prop):Prop :=
 WP c A env σ (spliced (backTo pos (starEach es env))) (fun Z h xs vs=>RdL c Z h xs vs) k
noncomputable def WA (c:Cx) (A:Around) (env:Env) (σ:St) (t:Expr) (X:V) (k:St→Prop):Prop :=
 AOk A→∀ Z P s v,Rel c Z P env σ s.heap→Rd c Z s.heap X v→wpAny c.M A (assign t env v) (Fin c P env RU (fun qa=>k) Z s) (fun qa qb=>False) s
noncomputable def WS (c:Cx) (A:Around) (env:Env) (σ:St) (st:Stmt) (k:FV→St→Prop):Prop:=WP c A env σ (exec st env) (RF c) k
noncomputable def WSs (c:Cx) (A:Around) (env:Env) (σ:St) (sts:List Stmt) (k:FV→St→Prop):Prop:=WP c A env σ (execs sts env) (RF c) k
theorem wp_then {α β:Type} {c:Cx} {A:Around} {env:Env} {σ:St} {t:Sem α} {R:(Addr→Prop)→Heap→β→α→Prop} {k:β→St→Prop} (h:WP c A env σ t R k) (hA:AOk A) {Z P:Addr→Prop} {s:Shared} (R₀:Rel c Z P env σ s.heap) {Q:α→Shared→Prop} {E:Value→Shared→Prop}
  (n:∀ Z₁ s₁ b σ₁ a,Step Z P (cr s) Z₁ (cr s₁)→Rel c Z₁ P env σ₁ s₁.heap→R Z₁ s₁.heap b a→k b σ₁→Q a s₁):wpAny c.M A t Q E s:=by
 refine wpAny_mono (h.run hA Z P s R₀) ?_ fun qa qb x=>x.elim
 exact fun a s₁=>R34 fun Z₁ b σ₁ S r q kk=>n Z₁ s₁ b σ₁ a S r q kk
theorem wp_thenB {c:Cx} {A:Around} {env:Env} {σ:St} {t:Sem Bool} {k:Bool→St→Prop} (h:WP c A env σ t RB k) (hA:AOk A) {Z P:Addr→Prop} {s:Shared} (R₀:Rel c Z P env σ s.heap) {Q:Bool→Shared→Prop} {E:Value→Shared→Prop}
  (n:∀ Z₁ s₁ b σ₁,Step Z P (cr s) Z₁ (cr s₁)→Rel c Z₁ P env σ₁ s₁.heap→k b σ₁→Q b s₁):wpAny c.M A t Q E s :=
 wp_then h hA R₀ fun Z₁ s₁ b σ₁ a S r q kk=>by cases q; exact n Z₁ s₁ _ σ₁ S r kk
theorem wa_then {c:Cx} {A:Around} {env:Env} {σ:St} {t:Expr} {X:V} {k:St→Prop} (h:WA c A env σ t X k) (hA:AOk A) {Z P:Addr→Prop} {s:Shared} (R₀:Rel c Z P env σ s.heap) {v:Value} (rv:RV c Z s.heap X v) {Q:Unit→Shared→Prop} {E:Value→Shared→Prop}
  (n:∀ Z₁ s₁ σ₁,Step Z P (cr s) Z₁ (cr s₁)→Rel c Z₁ P env σ₁ s₁.heap→k σ₁→Q () s₁):wpAny c.M A (assign t env v) Q E s:=by
 refine wpAny_mono (h hA Z P s v R₀ rv) ?_ fun qa qb x=>x.elim
 exact fun qa s₁=>R34 fun Z₁ b σ₁ S r q kk=>n Z₁ s₁ σ₁ S r kk
theorem fin_mk {α β:Type} {c:Cx} {P:Addr→Prop} {env:Env} {R:(Addr→Prop)→Heap→β→α→Prop} {k:β→St→Prop} {Z Z':Addr→Prop} {s s':Shared} {b:β} {a:α} {σ':St}
  (S:Step Z P (cr s) Z' (cr s')) (R':Rel c Z' P env σ' s'.heap) (r:R Z' s'.heap b a) (kk:k b σ'):Fin c P env R k Z s a s':=(I34 Z' b σ' S R' r kk)
noncomputable def Res (c:Cx) (A:Around) (Z:Addr→Prop) (s:Shared) (t:Sem Value) (r:V):Prop :=
 ∀ Q E,(∀ v h' tk dr (N:Addr→Prop),Kp s.heap h'→(∀ b,N b→s.heap.get? b=none∧∃ o,h'.get? b=some o)→Rd c (fun b=>Z b∨N b) h' r v→Q v { s with heap:=h',toks:=tk,drawn:=dr }) →
  wpAny c.M A t Q E s
theorem Res.pure {c:Cx} {A:Around} {Z:Addr→Prop} {s:Shared} {t:Sem Value} {r:V}
  (h:∀ (Q:Value→Shared→Prop) E,(∀ v tk,Rd c Z s.heap r v→Q v { s with toks:=tk })→wpAny c.M A t Q E s):Res c A Z s t r:=fun Q E hQ =>
 h Q E fun v tk r=>hQ v s.heap tk s.drawn (fun qa=>False) (Kp.refl _) (fun qa f=>f.elim) (r.more fun qa z=>.inl z)
theorem Res.fin {c:Cx} {A:Around} {P:Addr→Prop} {env:Env} {σ:St} {Z Z₀:Addr→Prop} {s s₁:Shared} {t:Sem Value} {r:V} {k:V→St→Prop}
  (S:Step Z₀ P (cr s) Z (cr s₁)) (R:Rel c Z P env σ s₁.heap) (hr:Res c A Z s₁ t r) (hk:k r σ) :
  wpAny c.M A t (Fin c P env (RV c) k Z₀ s) (fun qa qb=>False) s₁ :=
 hr _ _ fun v h' tk dr N hkp hN rd=>(I34 _ r σ (S.trans (Step.new hkp N)) (R.new hkp hN) rd hk)
end Mine
end
noncomputable section
namespace Mine
open PySem
noncomputable def setL:List (Str×V)→Str→V→List (Str×V)
 | [],x,X=>[(x,X)]
 | (y,Y)::r,x,X=>if y == x then (x,X)::r else (y,Y)::setL r x X
theorem lookup_setL (l:List (Str×V)) (x:Str) (X:V) (y:Str):(setL l x X).lookup y=if y=x then some X else l.lookup y:=by
 induction l with
 | nil =>
  simp only [setL,List.lookup_cons,List.lookup_nil]
  by_cases h:y=x
  ·simp [h]
  ·have:(y == x)=false:=by simpa using h
   simp [this,h]
 | cons p r ih =>
  obtain ⟨z,W⟩:=p
  unfold setL
  by_cases hz:z=x
  ·subst hz
   simp only [beq_self_eq_true,if_true,List.lookup_cons]
   by_cases h:y=z
   ·simp [h]
   ·have:(y == z)=false:=by simpa using h
    simp [this,h]
  ·have hz':(z == x)=false:=by simpa using hz
   simp only [hz',Bool.false_eq_true,if_false,List.lookup_cons,ih]
   by_cases h:y=z
   ·subst h; simp [hz]
   ·have:(y == z)=false:=by simpa using h
    simp [this]
@[reducible] noncomputable def St.set (σ:St) (x:Str) (X:V):St:=⟨setL σ.loc x X,σ.hp⟩
section
variable {c:Cx} {A:Around} {env:Env} {σ:St} {Z P:Addr→Prop} {h h':Heap}
theorem Rel.own_changed (R:Rel c Z P env σ h) {b:Addr} (hb:OwnA env b) (hs:Heap.SameBut b h h') {σ':St}
  (hns:∃ m,h'.Ns env.locals m) (hcells:∀ x,env.kindOf x=some .cell→∃ cl v,env.cells.lookup x=some cl∧h'.IsCell cl v)
  (hhp:σ'.hp=σ.hp) (hvars:∀ x X,σ'.loc.lookup x=some X→∃ v,HasVar env h' x v∧Rd c Z h' X v):Rel c Z P env σ' h' where
 inv:=⟨fun a o e=>⟨(R.inv.ground a o e).1,hs.extBut a o (fun e'=>(R.own b hb).1 (e'▸(R.inv.ground a o e).1)) (R.inv.ground a o e).2⟩,
  fun a z=>let ⟨o,e⟩:=R.inv.exZ a z; ⟨o,hs.extBut a o (fun e'=>(R.own b hb).1 (e'▸z)) e⟩,
  fun a p=>let ⟨o,e⟩:=R.inv.exP a p; ⟨o,hs.extBut a o (fun e'=>(R.own b hb).2 (e'▸p)) e⟩,R.inv.off,R.inv.sys,R.inv.top,R.inv.tp,fun q hq=>⟨(R.inv.tab q hq).1,R.inv.tabAt (fun a o z e=>hs.extBut a o (fun e'=>(R.own b hb).1 (e'▸z)) e) (fun a o t e=>hs.extBut a o (fun e'=>R.inv.nT (R.own b hb).2 (e'▸t)) e) q hq⟩⟩
 fn:=R.fn
 gl:=R.gl
 bl:=R.bl
 ns:=hns
 cells:=hcells
 inj:=R.inj
 cellL:=R.cellL
 freeP:=R.freeP
 own:=R.own
 vars:=hvars
 hp:=⟨fun a o ha=>by
  rw [hhp] at ha
  refine E03 (R.hp.obj a o ha) fun h1 h2 h3=>?_
  exact (I03 (h1.keep (fun qa z=>z) (fun a' o' z e=>hs.extBut a' o' (fun e'=>(R.own b hb).1 (e'▸z)) e) (fun o' e=>hs.extBut a o' (fun e'=>R.hpOff a o ha (e'▸hb)) e)) h2 h3),
  by rw [hhp]; exact R.hp.nodup⟩
 hpOff:=fun a o ha=>R.hpOff a o (hhp▸ha)
theorem Rel.step_own {s:Shared} (R:Rel c Z P env σ s.heap) {b:Addr} (hb:OwnA env b) (hs:Heap.SameBut b s.heap h'):Step Z P (cr s) Z (cr { s with heap:=h' }) :=
 ⟨fun qa z=>z,fun a o z e=>hs.extBut a o (fun e'=>(R.own b hb).1 (e'▸z)) e,fun a o p qa e=>hs.extBut a o (fun e'=>(R.own b hb).2 (e'▸p)) e,fun q hq qa=>R.inv.tabAt (fun a o z e=>hs.extBut a o (fun e'=>(R.own b hb).1 (e'▸z)) e) (fun a o t e=>hs.extBut a o (fun e'=>R.inv.nT (R.own b hb).2 (e'▸t)) e) q hq,rfl,GB.refl _⟩
theorem Rd.own_changed {X:V} {v:Value} (R:Rel c Z P env σ h) {b:Addr} (hb:OwnA env b) (hs:Heap.SameBut b h h') (r:Rd c Z h X v):Rd c Z h' X v :=
 r.keep (fun qa z=>z) fun a o z e=>hs.extBut a o (fun e'=>(R.own b hb).1 (e'▸z)) e
theorem store_var {x:Str} {X:V} {v:Value} {s:Shared} {Q:Unit→Shared→Prop} {E:Value→Shared→Prop} (R:Rel c Z P env σ s.heap) (hk:env.kindOf x=some .local∨env.kindOf x=some .cell) (r:Rd c Z s.heap X v)
  (h:∀ h' tk,Step Z P (cr s) Z (cr { s with heap:=h' })→Rel c Z P env (σ.set x X) h'→Q () { s with heap:=h',toks:=tk }):wpAny c.M A (storeName env x v) Q E s:=by
 rcases hk with hk | hk
 ·obtain ⟨m,hm⟩:=R.ns
  refine wpAny_storeName_local hk hm (fun h' hn hs=>?_) (by rw [R.fn]; rfl)
  have hb:OwnA env env.locals:=.inl rfl
  refine h h' _ (R.step_own hb hs) (R.own_changed hb hs ⟨_,hn⟩ ?_ rfl ?_)
  ·intro y hy
   refine E22 (R.cells y hy) fun cl u h1 h2=>?_
   exact (I22 cl u h1 (h2.sameBut hs (R.cellL y cl hy h1)))
  ·intro y Y e
   rw [lookup_setL] at e
   by_cases hyx:y=x
   ·subst hyx
    simp only [if_true,Option.some.injEq] at e; subst e
    exact (I12 v (.inl (I02 hk (I12 _ hn (by simp)))) (r.own_changed R hb hs))
   ·simp only [if_neg hyx] at e
    refine E12 (R.vars y Y e) fun u hu ru=>?_
    refine (I12 u ?_ (ru.own_changed R hb hs))
    rcases hu with ⟨k1,m',hm',hm1⟩ | ⟨k1,cl,h1,h2⟩
    ·refine .inl (I02 k1 (I12 _ hn ?_))
     simp only [if_neg hyx]
     refine E34 hm fun o es ep ho hd hsk hf=>?_; clear hm
     refine E34 hm' fun o' es' ep' ho' hd' hsk' hf'=>?_; clear hm'
     rw [ho] at ho'; cases ho'
     rw [hd] at hd'; cases hd'
     rw [← hf,hf']; exact hm1
    ·refine .inr (I02 k1 (I12 cl h1 (h2.sameBut hs ?_)))
     intro e'
     rcases k1 with k1 | k1
     ·exact R.cellL y cl k1 h1 e'
     ·exact (R.own env.locals hb).2 (e'▸R.freeP y cl k1 h1)
 ·refine E22 (R.cells x hk) fun cl u h1 h2=>?_
  refine wpAny_storeName_cell R.fn hk h1 h2 fun h' hc hs=>?_
  have hb:OwnA env cl:=.inr (I12 x hk h1)
  refine h h' s.toks (R.step_own hb hs) (R.own_changed hb hs ?_ ?_ rfl ?_)
  ·obtain ⟨m,hm⟩:=R.ns
   exact ⟨m,hm.sameBut hs (fun e=>R.cellL x cl hk h1 e.symm)⟩
  ·intro y hy
   by_cases hyx:y=x
   ·subst hyx; exact (I22 cl _ h1 hc)
   ·refine E22 (R.cells y hy) fun cl' u' h1' h2'=>?_
    refine (I22 cl' u' h1' (h2'.sameBut hs fun e=>hyx (R.inj y x cl hy hk (e▸h1') h1)))
  ·intro y Y e
   rw [lookup_setL] at e
   by_cases hyx:y=x
   ·subst hyx
    simp only [if_true,Option.some.injEq] at e; subst e
    exact (I12 v (.inr (I02 (.inl hk) (I12 cl h1 hc))) (r.own_changed R hb hs))
   ·simp only [if_neg hyx] at e
    refine E12 (R.vars y Y e) fun u hu ru=>?_
    refine (I12 u ?_ (ru.own_changed R hb hs))
    rcases hu with ⟨k1,m',hm',hm1⟩ | ⟨k1,cl',h1',h2'⟩
    ·exact .inl (I02 k1 (I12 m' (hm'.sameBut hs (fun e=>R.cellL x cl hk h1 e.symm)) hm1))
    ·refine .inr (I02 k1 (I12 cl' h1' (h2'.sameBut hs fun e=>?_)))
     rcases k1 with k1 | k1
     ·exact hyx (R.inj y x cl k1 hk (e▸h1') h1)
     ·exact (R.own cl hb).2 (e▸R.freeP y cl' k1 h1')
end
section
variable {c:Cx} {A:Around} {env:Env} {σ:St}
theorem wE_Name {x:Str} {pos:Pos} {X:V} {k:V→St→Prop} (hx:σ.loc.lookup x=some X) (h:k X σ) (hd:(x == ("__debug__" : Str))=false:=by decide)
  (hn:(x == ("__classdict__" : Str))=false:=by decide):WE c A env σ (.Name x pos) k:=by
 refine WP.mk fun hA Z P s R=>?_
 refine E12 (R.vars x X hx) fun v hv r=>?_
 have fin:Fin c P env (RV c) k Z s v s:=(fin_mk (Step.refl ..) R r h)
 refine wpAny_Name ?_ hd
 rcases hv with ⟨k1,m,hm,hm1⟩ | ⟨k1 | k1,cl,h1,h2⟩
 ·exact wpAny_loadName_local R.fn k1 hm hm1 fin
 ·exact wpAny_loadName_cell R.fn k1 h1 h2 fin
 ·exact wpAny_loadName_free R.fn k1 h1 h2 fin hn
theorem wA_Name {x:Str} {pos:Pos} {X:V} {k:St→Prop} (hk:env.kindOf x=some .local∨env.kindOf x=some .cell) (h:k (σ.set x X)):WA c A env σ (.Name x pos) X k:=by
 intro hA Z P s v R r
 exact wpAny_assign_Name (store_var R hk r fun h' tk S R'=>(fin_mk (b:=()) S R' trivial h))
theorem wE_int {i:Int} {n:Nat} {pos:Pos} {k:V→St→Prop} (h:k (.int i) σ):WE c A env σ (.Constant (.int i) n pos) k:=by
 refine WP.mk fun hA Z P s R=>?_
 exact wpAny_Constant_int (fin_mk (Step.refl ..) R (.int _ _) h)
theorem wE_str {x:Str} {n:Nat} {pos:Pos} {k:V→St→Prop} (h:k (.str x) σ):WE c A env σ (.Constant (.str x) n pos) k:=by
 refine WP.mk fun hA Z P s R=>?_
 exact Calls.Constant_str (fin_mk (Step.refl ..) R (.str _ _) h)
theorem wE_bool {b:Bool} {n:Nat} {pos:Pos} {k:V→St→Prop} (h:k (.bool b) σ):WE c A env σ (.Constant (.bool b) n pos) k:=by
 refine WP.mk fun hA Z P s R=>?_
 rw [arm_eval_Constant]
 exact wpAny_pure (fin_mk (Step.refl ..) R (.bool _) h)
theorem wEs_nil {pos:Pos} {k:List V→St→Prop} (h:k [] σ):WEs c A env σ pos [] k:=by
 refine WP.mk fun hA Z P s R=>?_
 exact Calls.spliced_nil (fin_mk (Step.refl ..) R .nil h)
theorem wEs_cons {pos:Pos} {e:Expr} {rest:List Expr} {k:List V→St→Prop} (h:WE c A env σ e fun X σ₁=>WEs c A env σ₁ pos rest fun Xs σ₂=>k (X::Xs) σ₂)
  (he:starEach (e::rest) env=(false,eval e env)::starEach rest env:=by rfl):WEs c A env σ pos (e::rest) k:=by
 refine WP.mk fun hA Z P s R=>?_
 rw [he]
 refine Calls.spliced_cons (wp_then h hA R fun Z₁ s₁ X σ₁ v S₁ R₁ r₁ k₁=>?_)
 refine wp_then k₁ hA R₁ fun Z₂ s₂ Xs σ₂ vs S₂ R₂ r₂ k₂=>?_
 exact (fin_mk (S₁.trans S₂) R₂ (.cons (r₁.step S₂) r₂) k₂)
theorem new_one {h:Heap} {o:Obj} (hf:o.isFreed=false:=by rfl):∀ b,b=h.objs.size→h.get? b=none∧∃ o',(h.push o).get? b=some o':=by
 rintro b rfl
 exact (I02 (fresh_none h _ (Nat.le_refl _)) (I11 _ (Heap.get?_push_size _ hf)))
theorem wE_Tuple {es:List Expr} {n:Nat} {pos:Pos} {k:V→St→Prop} (h:WEs c A env σ pos es fun Xs σ₁=>Xs.length≤sizeLine∧k (.tup Xs) σ₁):WE c A env σ (.Tuple es n pos) k:=by
 refine WP.mk fun hA Z P s R=>?_
 refine wpAny_Tuple_spliced (wp_then h hA R fun Z₁ s₁ Xs σ₁ vs S₁ R₁ r₁ kk=>?_)
 obtain ⟨hsz,k₁⟩:=kk
 refine ⟨by rw [← r₁.length]; exact hsz,?_⟩
 have hk:=Kp.push s₁.heap { cls:=.type "tuple", data:=.seq vs.toArray }
 refine (fin_mk (S₁.trans (Step.new hk (fun b=>b=s₁.heap.objs.size))) (R₁.new hk new_one) (.tup (.inr rfl) ⟨0,Heap.get?_push_size _ rfl⟩ ?_) k₁)
 simpa using r₁.keep (fun qa z=>.inl z) (fun b o qa e=>hk b o e)
theorem wE_List {es:List Expr} {pos:Pos} {k:V→St→Prop} (h:WEs c A env σ pos es fun Xs σ₁=>Xs.length≤sizeLine∧k (.lst Xs) σ₁):WE c A env σ (.List es pos) k:=by
 refine WP.mk fun hA Z P s R=>?_
 refine wpAny_List_spliced (wp_then h hA R fun Z₁ s₁ Xs σ₁ vs S₁ R₁ r₁ kk=>?_)
 obtain ⟨hsz,k₁⟩:=kk
 refine ⟨by rw [← r₁.length]; exact hsz,?_⟩
 have hk:=Kp.push s₁.heap { cls:=.type "list", data:=.seq vs.toArray }
 refine (fin_mk (S₁.trans (Step.new hk (fun b=>b=s₁.heap.objs.size))) (R₁.new hk new_one) (.lst (.inr rfl) ⟨0,Heap.get?_push_size _ rfl⟩ ?_) k₁)
 simpa using r₁.keep (fun qa z=>.inl z) (fun b o qa e=>hk b o e)
noncomputable def BinV (c:Cx) (A:Around) (hp:List (Addr×O)) (op:Operator) (X Y r:V):Prop :=
 AOk A→∀ Z P s x y,HpR c Z P s.heap hp→Rd c Z s.heap X x→Rd c Z s.heap Y y→Res c A Z s (binaryOp op x y) r
noncomputable def CmpV (c:Cx) (A:Around) (hp:List (Addr×O)) (op:CmpOp) (X Y:V) (b:Bool):Prop :=
 AOk A→∀ Z P s x y,HpR c Z P s.heap hp→Rd c Z s.heap X x→Rd c Z s.heap Y y→∀ Q E,(∀ tk,Q (.bool b) { s with toks:=tk })→wpAny c.M A (compareOp op x y) Q E s
noncomputable def TruthV (c:Cx) (A:Around) (hp:List (Addr×O)) (X:V) (b:Bool):Prop :=
 AOk A→∀ Z P s x,HpR c Z P s.heap hp→Rd c Z s.heap X x→∀ Q E,(∀ tk,Q b { s with toks:=tk })→wpAny c.M A (truthy x) Q E s
noncomputable def ItemV (c:Cx) (A:Around) (hp:List (Addr×O)) (X Y r:V):Prop :=
 AOk A→∀ Z P s x y,HpR c Z P s.heap hp→Rd c Z s.heap X x→Rd c Z s.heap Y y→(∀ Q E,Q false s→wpAny c.M A (getitemInPython x) Q E s)∧Res c A Z s (getItem x y) r
theorem wE_BinOp {l r:Expr} {op:Operator} {pos:Pos} {k:V→St→Prop} (h:WE c A env σ l fun X σ₁=>WE c A env σ₁ r fun Y σ₂=>∃ w,BinV c A σ₂.hp op X Y w∧k w σ₂) :
  WE c A env σ (.BinOp l op r pos) k:=by
 refine WP.mk fun hA Z P s R=>?_
 rw [arm_eval_BinOp]
 refine wpAny_bind (wp_then h hA R fun Z₁ s₁ X σ₁ v₁ S₁ R₁ r₁ k₁=>?_)
 refine wpAny_bind (wpAny_holding (wp_then k₁ hA R₁ fun Z₂ s₂ Y σ₂ v₂ S₂ R₂ r₂ kk=>?_))
 refine E12 kk fun w hw k₂=>?_; clear kk
 refine wpAny_bind (wpAny_standAt (wpAny_operateT ?_))
 exact Res.fin (S₁.trans S₂) R₂ (hw hA Z₂ P _ v₁ v₂ R₂.hp (r₁.step S₂) r₂) k₂
theorem wT_Compare {l r:Expr} {op:CmpOp} {pos:Pos} {k:Bool→St→Prop} (h:WE c A env σ l fun X σ₁=>WE c A env σ₁ r fun Y σ₂=>∃ b,CmpV c A σ₂.hp op X Y b∧k b σ₂)
  (hm:behindInMarks op r=false:=by rfl):WT c A env σ (.Compare l [op] [r] pos) k:=by
 refine WP.mk fun hA Z P s R=>?_
 refine wpAny_isTrue_Compare1 (wp_then h hA R fun Z₁ s₁ X σ₁ v₁ S₁ R₁ r₁ k₁=>?_) hm
 refine wp_then k₁ hA R₁ fun Z₂ s₂ Y σ₂ v₂ S₂ R₂ r₂ kk=>?_
 refine E12 kk fun b hb k₂=>?_; clear kk
 exact hb hA Z₂ P s₂ v₁ v₂ R₂.hp (r₁.step S₂) r₂ _ _ fun tk=>wpAny_truthy_bool (fin_mk (S₁.trans S₂) R₂ rfl k₂)
theorem wT_Not {x:Expr} {pos:Pos} {k:Bool→St→Prop} (h:WT c A env σ x fun b σ₁=>k (!b) σ₁):WT c A env σ (.UnaryOp .Not x pos) k:=by
 refine WP.mk fun hA Z P s R=>?_
 refine wpAny_isTrue_Not (wp_thenB h hA R fun Z₁ s₁ b σ₁ S₁ R₁ k₁=>?_)
 exact (fin_mk S₁ R₁ rfl k₁)
theorem wT_plain {e:Expr} {k:Bool→St→Prop} (h:WE c A env σ e fun X σ₁=>∃ b,TruthV c A σ₁.hp X b∧k b σ₁)
  (he:isTrue e env (eval e env)=(do let v ← eval e env; standAt e.pos; holding [v] (truthy v)):=by rfl):WT c A env σ e k:=by
 refine WP.mk fun hA Z P s R=>?_
 refine wpAny_isTrue_value (wp_then h hA R fun Z₁ s₁ X σ₁ v₁ S₁ R₁ r₁ kk=>?_) he
 refine E12 kk fun b hb k₁=>?_; clear kk
 exact hb hA Z₁ P s₁ v₁ R₁.hp r₁ _ _ fun tk=>(fin_mk S₁ R₁ rfl k₁)
noncomputable def WAll (c:Cx) (A:Around) (env:Env) (σ:St) (op:BoolOp) (es:List Expr) (k:Bool→St→Prop):Prop:=WP c A env σ (allTrue op es env) RB k
theorem wT_BoolOp {op:BoolOp} {es:List Expr} {pos:Pos} {k:Bool→St→Prop} (h:WAll c A env σ op es k):WT c A env σ (.BoolOp op es pos) k:=by
 refine WP.mk fun hA Z P s R=>?_
 exact wpAny_isTrue_BoolOp (h.run hA Z P s R)
theorem wAll_nil {op:BoolOp} {k:Bool→St→Prop} (h:k (op == .And) σ):WAll c A env σ op [] k:=by
 refine WP.mk fun hA Z P s R=>?_
 rw [arm_allTrue_nil]
 exact wpAny_pure (fin_mk (Step.refl ..) R rfl h)
theorem wAll_and {e:Expr} {es:List Expr} {k:Bool→St→Prop} (h:WT c A env σ e fun b σ₁=>if b then WAll c A env σ₁ .And es k else k false σ₁):WAll c A env σ .And (e::es) k:=by
 refine WP.mk fun hA Z P s R=>?_
 rw [arm_allTrue_cons]
 refine wpAny_bind (wp_thenB h hA R fun Z₁ s₁ b σ₁ S₁ R₁ k₁=>?_)
 cases b with
 | false=>exact wpAny_pure (fin_mk S₁ R₁ rfl k₁)
 | true=>exact wpAny_mono (k₁.run hA Z₁ P _ R₁) (fun qa qb f=>Fin.after S₁ f) fun qa qb x=>x
theorem wAll_or {e:Expr} {es:List Expr} {k:Bool→St→Prop} (h:WT c A env σ e fun b σ₁=>if b then k true σ₁ else WAll c A env σ₁ .Or es k):WAll c A env σ .Or (e::es) k:=by
 refine WP.mk fun hA Z P s R=>?_
 rw [arm_allTrue_cons]
 refine wpAny_bind (wp_thenB h hA R fun Z₁ s₁ b σ₁ S₁ R₁ k₁=>?_)
 cases b with
 | true=>exact wpAny_pure (fin_mk S₁ R₁ rfl k₁)
 | false=>exact wpAny_mono (k₁.run hA Z₁ P _ R₁) (fun qa qb f=>Fin.after S₁ f) fun qa qb x=>x
theorem wE_IfExp {t b o:Expr} {pos:Pos} {k:V→St→Prop} (h:WT c A env σ t fun x σ₁=>if x then WE c A env σ₁ b k else WE c A env σ₁ o k):WE c A env σ (.IfExp t b o pos) k:=by
 refine WP.mk fun hA Z P s R=>?_
 refine wpAny_IfExp (wp_thenB h hA R fun Z₁ s₁ x σ₁ S₁ R₁ k₁=>?_)
 cases x with
 | true=>exact wpAny_mono (k₁.run hA Z₁ P _ R₁) (fun qa qb f=>Fin.after S₁ f) fun qa qb x=>x
 | false=>exact wpAny_mono (k₁.run hA Z₁ P _ R₁) (fun qa qb f=>Fin.after S₁ f) fun qa qb x=>x
theorem wE_Sub {v i:Expr} {pos:Pos} {k:V→St→Prop} (h:WE c A env σ v fun X σ₁=>WE c A env σ₁ i fun Y σ₂=>∃ w,ItemV c A σ₂.hp X Y w∧k w σ₂)
  (hs:∀ o j,subscripted i false o j=operate [o,j] (getItem o j):=by intros; rfl):WE c A env σ (.Subscript v i pos) k:=by
 refine WP.mk fun hA Z P s R=>?_
 rw [arm_eval_Subscript]
 refine wpAny_bind (wp_then h hA R fun Z₁ s₁ X σ₁ v₁ S₁ R₁ r₁ k₁=>?_)
 refine wpAny_bind (wpAny_holding (wp_then k₁ hA R₁ fun Z₂ s₂ Y σ₂ v₂ S₂ R₂ r₂ kk=>?_))
 refine E12 kk fun w hw k₂=>?_; clear kk
 obtain ⟨hg,hw⟩:=hw hA Z₂ P s₂ v₁ v₂ R₂.hp (r₁.step S₂) r₂
 refine wpAny_bind (wpAny_standAt (wpAny_bind (hg _ _ ?_)))
 rw [hs]
 refine wpAny_bind (wpAny_operateT (wpAny_mono (Res.fin (S₁.trans S₂) R₂ hw k₂) ?_ fun qa qb x=>x))
 intro u s' f
 exact wpAny_bind (wpAny_letTemporaryGo (wpAny_pure f))
end
end Mine
end
noncomputable section
namespace Mine
open PySem PySem.SeqAt
inductive Ty where
 | none | int | str
 | tup (ts:List Ty)
 | lst (t:Ty)
mutual
noncomputable def Ty.dep:Ty→Nat
 | .tup ts=>1 + Ty.depL ts
 | .lst t=>1 + t.dep
 | _=>0
noncomputable def Ty.depL:List Ty→Nat
 | []=>0
 | t::r=>t.dep + Ty.depL r
end
mutual
inductive HT:Ty→V→Prop
 | none:HT .none .none
 | int (i):HT .int (.int i)
 | str (s):HT .str (.str s)
 | tup {ts xs}:HTs ts xs→HT (.tup ts) (.tup xs)
 | lst {t xs}:(∀ x∈xs,HT t x)→HT (.lst t) (.lst xs)
inductive HTs:List Ty→List V→Prop
 | nil:HTs [] []
 | cons {t ts x xs}:HT t x→HTs ts xs→HTs (t::ts) (x::xs)
end
theorem isList_fun {h:Heap} {a:Addr} {i j:Array Value} (x:h.IsList a i) (y:h.IsList a j):i=j:=by
 refine E13 x fun o ho qa y0=>E11 y0 fun n hd=>?_; clear x
 refine E13 y fun o' ho' qa y0=>E11 y0 fun n' hd'=>?_; clear y
 rw [ho] at ho'; cases ho'; rw [hd] at hd'; cases hd'; rfl
theorem isTuple_fun {h:Heap} {a:Addr} {i j:Array Value} (x:h.IsTuple a i) (y:h.IsTuple a j):i=j:=by
 refine E13 x fun o ho qa y0=>E11 y0 fun n hd=>?_; clear x
 refine E13 y fun o' ho' qa y0=>E11 y0 fun n' hd'=>?_; clear y
 rw [ho] at ho'; cases ho'; rw [hd] at hd'; cases hd'; rfl
theorem RdL.inv0 {c:Cx} {Z:Addr→Prop} {h:Heap} {xs:List V} (r:RdL c Z h xs []):xs=[]:=by cases r; rfl
theorem RdL.inv1 {c:Cx} {Z:Addr→Prop} {h:Heap} {xs:List V} {v:Value} {vs:List Value} (r:RdL c Z h xs (v::vs)):∃ x ys,xs=x::ys∧Rd c Z h x v∧RdL c Z h ys vs:=by cases r; exact I23 _ _ rfl ‹_› ‹_›
theorem list_rdFun {c:Cx} {Z:Addr→Prop} {h:Heap} {t:Ty} (ih:∀ X Y v,HT t X→HT t Y→Rd c Z h X v→Rd c Z h Y v→X=Y) :
  ∀ {vs:List Value} {xs ys:List V},(∀ x∈xs,HT t x)→(∀ y∈ys,HT t y)→RdL c Z h xs vs→RdL c Z h ys vs→xs=ys
 | [],_,_,_,_,r,q=>r.inv0.trans q.inv0.symm
 | _::_,_,_,hx,hy,r,q=>E23 r.inv1 fun x xs e1 a b=>E23 q.inv1 fun y ys e2 a' b'=>by
  subst e1; subst e2
  rw [ih _ _ _ (hx _ (.head _)) (hy _ (.head _)) a a',list_rdFun ih (fun x m=>hx x (.tail _ m)) (fun x m=>hy x (.tail _ m)) b b']
theorem HT.int_inv {X:V} (h:HT .int X):∃ i,X=.int i:=by cases h; exact ⟨_,rfl⟩
theorem HT.str_inv {X:V} (h:HT .str X):∃ i,X=.str i:=by cases h; exact ⟨_,rfl⟩
theorem HT.none_inv {X:V} (h:HT .none X):X=.none:=by cases h; rfl
theorem HT.tup_inv {X:V} {ts:List Ty} (h:HT (.tup ts) X):∃ xs,X=.tup xs∧HTs ts xs:=by cases h; exact I12 _ rfl ‹_›
theorem HT.lst_inv {X:V} {t:Ty} (h:HT (.lst t) X):∃ xs,X=.lst xs∧∀ x∈xs,HT t x:=by cases h; exact I12 _ rfl ‹_›
theorem HTs.inv0 {xs:List V} (h:HTs [] xs):xs=[]:=by cases h; rfl
theorem HTs.inv1 {xs:List V} {t:Ty} {ts:List Ty} (h:HTs (t::ts) xs):∃ x ys,xs=x::ys∧HT t x∧HTs ts ys:=by cases h; exact I23 _ _ rfl ‹_› ‹_›
theorem Rd.tup_inv {c:Cx} {Z:Addr→Prop} {h:Heap} {xs:List V} {v:Value} (r:Rd c Z h (.tup xs) v):∃ a items,v=.ref a∧PTup h a items∧RdL c Z h xs items.toList:=Rd.tup_elim r fun a items qa p r=>I23 a items rfl p r
theorem Rd.lst_inv {c:Cx} {Z:Addr→Prop} {h:Heap} {xs:List V} {v:Value} (r:Rd c Z h (.lst xs) v):∃ a items,v=.ref a∧h.PlainList a items∧RdL c Z h xs items.toList:=Rd.lst_elim r fun a items qa p r=>I23 a items rfl p r
theorem Rd.int_inv {c:Cx} {Z:Addr→Prop} {h:Heap} {i:Int} {v:Value} (r:Rd c Z h (.int i) v):∃ t,v=.int i t:=Rd.int_elim r fun t=>⟨t,rfl⟩
theorem Rd.str_inv {c:Cx} {Z:Addr→Prop} {h:Heap} {i:Str} {v:Value} (r:Rd c Z h (.str i) v):∃ t,v=.str i t:=Rd.str_elim r fun t=>⟨t,rfl⟩
mutual
theorem rdFun {c:Cx} {Z:Addr→Prop} {h:Heap}:∀ (T:Ty) X Y v,HT T X→HT T Y→Rd c Z h X v→Rd c Z h Y v→X=Y
 | .none,_,_,_,hx,hy,_,_=>hx.none_inv.trans hy.none_inv.symm
 | .int,X,Y,v,hx,hy,r,q=>E11 hx.int_inv fun i e1=>E11 hy.int_inv fun j e2=>by
  subst e1; subst e2
  exact E11 r.int_inv fun t e3=>E11 q.int_inv fun u e4=>congrArg V.int (Value.int.inj (e3.symm.trans e4)).1
 | .str,X,Y,v,hx,hy,r,q=>E11 hx.str_inv fun i e1=>E11 hy.str_inv fun j e2=>by
  subst e1; subst e2
  exact E11 r.str_inv fun t e3=>E11 q.str_inv fun u e4=>congrArg V.str (Value.str.inj (e3.symm.trans e4)).1
 | .tup ts,X,Y,v,hx,hy,r,q=>E12 hx.tup_inv fun xs e1 hx'=>E12 hy.tup_inv fun ys e2 hy'=>by
  subst e1; subst e2
  exact E23 r.tup_inv fun a i e3 p1 r=>E23 q.tup_inv fun b j e4 p2 q=>by
   have e5:=Value.ref.inj (e3.symm.trans e4)
   subst e5
   have e6:=isTuple_fun p1.isTuple p2.isTuple
   subst e6
   exact congrArg V.tup (rdFuns ts _ _ _ hx' hy' r q)
 | .lst t,X,Y,v,hx,hy,r,q=>E12 hx.lst_inv fun xs e1 hx'=>E12 hy.lst_inv fun ys e2 hy'=>by
  subst e1; subst e2
  exact E23 r.lst_inv fun a i e3 p1 r=>E23 q.lst_inv fun b j e4 p2 q=>by
   have e5:=Value.ref.inj (e3.symm.trans e4)
   subst e5
   have e6:=isList_fun p1.isList p2.isList
   subst e6
   exact congrArg V.lst (list_rdFun (rdFun t) hx' hy' r q)
theorem rdFuns {c:Cx} {Z:Addr→Prop} {h:Heap}:∀ (T:List Ty) X Y v,HTs T X→HTs T Y→RdL c Z h X v→RdL c Z h Y v→X=Y
 | [],_,_,_,hx,hy,_,_=>hx.inv0.trans hy.inv0.symm
 | t::ts,X,Y,v,hx,hy,r,q=>E23 hx.inv1 fun x xs e1 h1 h2=>E23 hy.inv1 fun y ys e2 h3 h4=>by
  subst e1; subst e2
  cases r with | cons r r'=>cases q with | cons q q' =>
  rw [rdFun t _ _ _ h1 h3 r q,rdFuns ts _ _ _ h2 h4 r' q']
end
theorem HTs.length {ts xs}:HTs ts xs→ts.length=xs.length
 | .nil=>rfl
 | .cons _ r=>by simp [r.length]
theorem all_get_iff {xs ys:List V} (hl:xs.length=ys.length):(∀ j,j < xs.length→xs[j]?=ys[j]?)↔xs=ys:=by
 constructor
 ·intro h
  apply List.ext_getElem? 
  intro j
  by_cases hj:j < xs.length
  ·exact h j hj
  ·rw [List.getElem?_eq_none (Nat.le_of_not_lt hj),List.getElem?_eq_none (hl▸Nat.le_of_not_lt hj)]
 ·rintro rfl j _; rfl
open Classical in
theorem eq_items {xs ys:List V} {n:Nat} (hl:xs.length=ys.length) (hn:n=xs.length) {b:Bool} (hb:b=true↔xs=ys) :
  (List.range n).all (fun j=>decide (xs[j]?=ys[j]?))=b:=by
 have h1:((List.range n).all (fun j=>decide (xs[j]?=ys[j]?))=true)↔xs=ys:=by
  rw [← all_get_iff hl,List.all_eq_true]
  subst hn
  constructor
  ·intro h j hj; exact of_decide_eq_true (h j (List.mem_range.mpr hj))
  ·intro h j hj; exact decide_eq_true (h j (List.mem_range.mp hj))
 cases b with
 | true=>exact h1.mpr (hb.mp rfl)
 | false =>
  cases hh:(List.range n).all (fun j=>decide (xs[j]?=ys[j]?)) with
  | false=>rfl
  | true=>exact absurd (hb.mpr (h1.mp hh)) (by simp)
theorem bool_of_iff {a b:Bool} {p:Prop} (ha:a=true↔p) (hb:b=true↔p):a=b:=by
 cases a <;> cases b <;> simp_all
noncomputable def Both (A:Around) (s:Shared) (x y:Value) (b:Bool):Prop:=RcAt A s x y b∧RcNeAt A s x y (!b)∧EqAt A s x y b
theorem HTs_get {ts:List Ty} {xs:List V} (h:HTs ts xs):∀ (j:Nat) (t:Ty),ts[j]?=some t→∃ x,xs[j]?=some x∧HT t x:=by
 induction ts generalizing xs with
 | nil=>intro j t e; simp at e
 | cons t0 ts ih =>
  cases h with
  | cons a b =>
   intro j t e
   cases j with
   | zero=>simp at e; subst e; exact (I12 _ (by simp) a)
   | succ j=>simp at e; refine E12 (ih b j t e) fun x hx r=>?_; exact (I12 x (by simpa using hx) r)
theorem sle {a n:Nat} (h:1 + a≤n + 1):a≤n:=by
 rw [Nat.add_comm] at h; exact Nat.le_of_succ_le_succ h
theorem u250 {a:Nat} (h:a + 300 < cLine):a + 250 < cLine:=Nat.lt_of_le_of_lt (Nat.add_le_add_left (by decide) a) h
theorem depL_get {ts:List Ty} {j:Nat} {t:Ty} (h:ts[j]?=some t):t.dep≤Ty.depL ts:=by
 induction ts generalizing j with
 | nil=>simp at h
 | cons t0 ts ih =>
  cases j with
  | zero=>simp at h; subst h; exact Nat.le_add_right _ _
  | succ j=>simp at h; exact Nat.le_trans (ih h) (Nat.le_add_left _ _)
theorem eq_none {c:Cx} {Z:Addr→Prop} {s:Shared} {A:Around} {X Y x y b} (hX:HT .none X) (hY:HT .none Y) (rX:Rd c Z s.heap X x) (rY:Rd c Z s.heap Y y) (hb:b=true↔X=Y):Both A s x y b:=by
 cases hX; cases hY; cases rX; cases rY; simp at hb; subst hb; exact (I03 RcAt.none_none RcNeAt.none_none (EqAt.same _))
theorem eq_int {c:Cx} {Z:Addr→Prop} {s:Shared} {A:Around} {X Y x y b} (hX:HT .int X) (hY:HT .int Y) (rX:Rd c Z s.heap X x) (rY:Rd c Z s.heap Y y) (hb:b=true↔X=Y):Both A s x y b:=by
 cases hX with | int i=>cases hY with | int j=>cases rX with | int _ t=>cases rY with | int _ u =>
 have:b=(i == j):=bool_of_iff hb (by simp)
 subst this
 exact (I03 (RcAt.int_int _ _ _ _) (RcNeAt.int_int _ _ _ _) (EqAt.int_int _ _ _ _))
theorem eq_str {c:Cx} {Z:Addr→Prop} {s:Shared} {A:Around} {X Y x y b} (hX:HT .str X) (hY:HT .str Y) (rX:Rd c Z s.heap X x) (rY:Rd c Z s.heap Y y) (hb:b=true↔X=Y):Both A s x y b:=by
 cases hX with | str i=>cases hY with | str j=>cases rX with | str _ t=>cases rY with | str _ u =>
 have:b=(i == j):=bool_of_iff hb (by simp)
 subst this
 exact (I03 (RcAt.str_str _ _ _ _) (RcNeAt.str_str _ _ _ _) (EqAt.str_str _ _ _ _))
open Classical in
theorem eqTy {c:Cx} {Z:Addr→Prop} {s:Shared}:∀ (n:Nat) (T:Ty) (A:Around),T.dep≤n→A.units + n < cLine→∀ X Y x y b,HT T X→HT T Y→Rd c Z s.heap X x→Rd c Z s.heap Y y→(b=true↔X=Y)→Both A s x y b:=by
 intro n
 induction n with
 | zero =>
  intro T A hT hA X Y x y b hX hY rX rY hb
  cases T with
  | none=>exact eq_none hX hY rX rY hb
  | int=>exact eq_int hX hY rX rY hb
  | str=>exact eq_str hX hY rX rY hb
  | tup ts=>exact absurd (Nat.le_trans (Nat.le_add_right 1 _) hT) (by decide)
  | lst t=>exact absurd (Nat.le_trans (Nat.le_add_right 1 _) hT) (by decide)
 | succ n ih =>
  intro T A hT hA X Y x y b hX hY rX rY hb
  have hu:A.units < cLine:=Nat.lt_of_le_of_lt (Nat.le_add_right _ _) hA
  cases T with
  | none=>exact eq_none hX hY rX rY hb
  | int=>exact eq_int hX hY rX rY hb
  | str=>exact eq_str hX hY rX rY hb
  | lst t =>
   have hT':t.dep≤n:=sle hT
   cases hX with | lst hx=>cases hY with | lst hy =>
   cases rX with | lst z1 i1 r1=>cases rY with | lst z2 i2 r2 =>
   rename_i xs ys a1 items1 a2 items2
   have l1:=r1.length
   have l2:=r2.length
   simp only [Array.length_toList] at l1 l2
   have hb':b=true↔xs=ys:=by simpa using hb
   have key:RcAt A s (.ref a1) (.ref a2) b∧RcNeAt A s (.ref a1) (.ref a2) (!b):=by
    by_cases hl:xs.length=ys.length
    ·have he:∀ j (h1:j < items1.size) (h2:j < items2.size),EqAt A.in1 s items1[j] items2[j] (decide (xs[j]?=ys[j]?)):=by
      intro j h1 h2
      refine E12 (r1.get' j items1[j] (by simp [h1])) fun u hu ru=>?_
      refine E12 (r2.get' j items2[j] (by simp [h2])) fun v hv rv=>?_
      refine (ih t A.in1 hT' (show A.units + 1 + n < cLine by rw [Nat.add_assoc,Nat.add_comm 1]; exact hA) u v _ _ _ (hx u (List.mem_of_getElem? hu)) (hy v (List.mem_of_getElem? hv)) ru rv ?_).2.2
      rw [hu,hv]; simp
     have e1:=eq_items (n:=items1.size) hl l1.symm hb'
     have hs:=l1.symm.trans (hl.trans l2)
     have h1:=RcAt.lists i1.isList i2.isList hs hu he
     have h2:=RcNeAt.lists i1.isList i2.isList hs hu he
     rw [e1] at h1 h2
     exact ⟨h1,h2⟩
    ·have:b=false:=by
      cases b with
      | false=>rfl
      | true=>exact absurd (congrArg List.length (hb'.mp rfl)) hl
     subst this
     have hne:(items1.size != items2.size)=true:=bne_iff_ne.mpr fun e=>hl (l1.trans (e.trans l2.symm))
     exact ⟨RcAt.lists_lengths i1.isList i2.isList hne hu,RcNeAt.lists_lengths i1.isList i2.isList hne hu⟩
   refine (I03 (key.1) (key.2) ?_)
   by_cases ha:a1=a2
   ·subst ha
    have:b=true:=hb.mpr (rdFun _ _ _ _ (.lst hx) (.lst hy) (.lst z1 i1 r1) (.lst z2 i2 r2))
    subst this; exact EqAt.same _
   ·exact EqAt.of_refs ha key.1
  | tup ts =>
   have hT':Ty.depL ts≤n:=sle hT
   cases hX with | tup hx=>cases hY with | tup hy =>
   cases rX with | tup z1 i1 r1=>cases rY with | tup z2 i2 r2 =>
   rename_i xs ys a1 items1 a2 items2
   have l1:=r1.length
   have l2:=r2.length
   have l3:=hx.length
   have l4:=hy.length
   simp only [Array.length_toList] at l1 l2
   have hb':b=true↔xs=ys:=by simpa using hb
   have key:RcAt A s (.ref a1) (.ref a2) b∧RcNeAt A s (.ref a1) (.ref a2) (!b):=by
    have hl:xs.length=ys.length:=l3.symm.trans l4
    have he:∀ j (h1:j < items1.size) (h2:j < items2.size),EqAt A.in1 s items1[j] items2[j] (decide (xs[j]?=ys[j]?)):=by
     intro j h1 h2
     refine E12 (r1.get' j items1[j] (by simp [h1])) fun u hu ru=>?_
     refine E12 (r2.get' j items2[j] (by simp [h2])) fun v hv rv=>?_
     have hj:j < ts.length:=by rw [l3,l1]; exact h1
     have ht:ts[j]?=some ts[j]:=by simp [hj]
     refine E12 (HTs_get hx j _ ht) fun u' hu' tu=>?_
     refine E12 (HTs_get hy j _ ht) fun v' hv' tv=>?_
     rw [hu] at hu'; cases hu'
     rw [hv] at hv'; cases hv'
     refine (ih ts[j] A.in1 (Nat.le_trans (depL_get ht) hT') (show A.units + 1 + n < cLine by rw [Nat.add_assoc,Nat.add_comm 1]; exact hA) u v _ _ _ tu tv ru rv ?_).2.2
     rw [hu,hv]; simp
    have hs:=l1.symm.trans (hl.trans l2)
    have e1:=eq_items (n:=min items1.size items2.size) hl (by rw [← hs,Nat.min_self]; exact l1.symm) hb'
    have h1:=RcAt.tuples i1.isTuple i2.isTuple hu he
    have h2:=RcNeAt.tuples i1.isTuple i2.isTuple hu he
    have e2:(items1.size == items2.size)=true:=beq_iff_eq.mpr hs
    rw [e1,e2,Bool.and_true] at h1 h2
    exact ⟨h1,h2⟩
   refine (I03 (key.1) (key.2) ?_)
   by_cases ha:a1=a2
   ·subst ha
    have:b=true:=hb.mpr (rdFun _ _ _ _ (.tup hx) (.tup hy) (.tup z1 i1 r1) (.tup z2 i2 r2))
    subst this; exact EqAt.same _
   ·exact EqAt.of_refs ha key.1
section
variable {c:Cx} {A:Around} {hp:List (Addr×O)}
theorem cmp_eq {T:Ty} {X Y:V} {b:Bool} (hX:HT T X) (hY:HT T Y) (hb:b=true↔X=Y) (hT:T.dep≤250:=by decide):CmpV c A hp .Eq X Y b:=by
 intro hA Z P s x y _ rX rY Q E h
 have:=h s.toks
 exact (eqTy 250 T A hT (u250 hA.units) X Y x y b hX hY rX rY hb).1 c.prog c.w E Q this
theorem cmp_ne {T:Ty} {X Y:V} {b:Bool} (hX:HT T X) (hY:HT T Y) (hb:b=true↔X=Y) (hT:T.dep≤250:=by decide):CmpV c A hp .NotEq X Y (!b):=by
 intro hA Z P s x y _ rX rY Q E h
 have:=h s.toks
 exact (eqTy 250 T A hT (u250 hA.units) X Y x y b hX hY rX rY hb).2.1 c.prog c.w E Q this
open Classical in
theorem in_any {T:Ty} {X:V} {xs:List V} {items:Array Value} {Z:Addr→Prop} {s:Shared} {x:Value} (hT:T.dep≤249) (hA:A.units + 250 < cLine) (hX:HT T X) (hxs:∀ y∈xs,HT T y) (rX:Rd c Z s.heap X x) (r:RdL c Z s.heap xs items.toList) {b:Bool} (hb:b=true↔X∈xs) :
  ∃ e:Value→Bool,(∀ y,y∈items→EqAt A.in1 s y x (e y))∧items.any e=b:=by
 refine (I12 (fun y=>decide (∃ Y,Rd c Z s.heap Y y∧HT T Y∧Y=X)) ?_ ?_)
 ·intro y hy
  obtain ⟨j,hj,rfl⟩:=Array.mem_iff_getElem.mp hy
  refine E12 (r.get' j items[j] (by simp [hj])) fun Y hY rY=>?_
  have tY:=hxs Y (List.mem_of_getElem? hY)
  refine (eqTy 249 T A.in1 hT (show A.units + 1 + 249 < cLine from hA) Y X _ _ _ tY hX rY rX ?_).2.2
  simp only [decide_eq_true_eq]
  constructor
  ·refine R13 fun Y' rY' tY' e=>?_
   rw [← e]; exact rdFun T _ _ _ tY tY' rY rY'
  ·intro e; exact (I13 Y rY tY e)
 ·refine bool_of_iff ?_ hb
  rw [Array.any_eq_true]
  constructor
  ·rintro ⟨j,hj,h⟩
   refine E13 (of_decide_eq_true h) fun Y rY tY e=>?_
   refine E12 (r.get' j items[j] (by simp [hj])) fun Y' hY' rY'=>?_
   have tY':=hxs Y' (List.mem_of_getElem? hY')
   have:=rdFun T _ _ _ tY tY' rY rY'
   subst this; subst e
   exact List.mem_of_getElem? hY'
  ·intro hm
   obtain ⟨j,hj⟩:=List.mem_iff_getElem?.mp hm
   refine E12 (r.get j X hj) fun v hv rv=>?_
   have hj':j < items.size:=by
    have:=(List.getElem?_eq_some_iff.mp hv).1
    simpa using this
   refine ⟨j,hj',decide_eq_true ⟨X,?_,hX,rfl⟩⟩
   have e:items.toList[j]?=some items[j]:=by simp [hj']
   rw [e] at hv; cases hv; exact rv
theorem cmp_in_lst {T:Ty} {X:V} {xs:List V} {b:Bool} (hX:HT T X) (hxs:∀ y∈xs,HT T y) (hb:b=true↔X∈xs) (hT:T.dep≤249:=by decide):CmpV c A hp .In X (.lst xs) b:=by
 intro hA Z P s x y _ rX rY Q E h
 cases rY with | lst z i r =>
 refine E12 (in_any (A:=A) hT (u250 hA.units) hX hxs rX r hb) fun e he hb'=>?_
 subst hb'
 exact in_listAt e i.isList he (h s.toks)
theorem cmp_notin_lst {T:Ty} {X:V} {xs:List V} {b:Bool} (hX:HT T X) (hxs:∀ y∈xs,HT T y) (hb:b=true↔X∈xs) (hT:T.dep≤249:=by decide):CmpV c A hp .NotIn X (.lst xs) (!b):=by
 intro hA Z P s x y _ rX rY Q E h
 cases rY with | lst z i r =>
 refine E12 (in_any (A:=A) hT (u250 hA.units) hX hxs rX r hb) fun e he hb'=>?_
 subst hb'
 exact notIn_listAt e i.isList he (h s.toks)
end
end Mine
end
noncomputable section
namespace Mine
open PySem PySem.SeqAt
section
variable {c:Cx} {A:Around} {hp:List (Addr×O)}
theorem truth_bool {b:Bool}:TruthV c A hp (.bool b) b:=by
 intro hA Z P s x _ r Q E h
 first | refine Rd.int_elim r fun qa=>?_ | refine Rd.ref_elim r ?_ | refine Rd.str_elim r fun qa=>?_ | refine Rd.bool_elim r ?_ | refine Rd.typ_elim r ?_ | cases r
 exact wpAny_truthy_bool (h s.toks)
theorem truth_int {i:Int}:TruthV c A hp (.int i) (i != 0):=by
 intro hA Z P s x _ r Q E h
 first | refine Rd.int_elim r fun qa=>?_ | refine Rd.ref_elim r ?_ | refine Rd.str_elim r fun qa=>?_ | refine Rd.bool_elim r ?_ | refine Rd.typ_elim r ?_ | cases r
 exact PySem.P.truthy_int (h s.toks)
theorem truth_own {a:Addr} {xs:List V} {b:Bool} (ha:(a,O.lst xs)∈hp) (hb:b=!xs.isEmpty) (hl:xs.length≤sizeLine):TruthV c A hp (.ref a) b:=by
 intro hA Z P s x H r Q E h
 first | refine Rd.int_elim r fun qa=>?_ | refine Rd.ref_elim r ?_ | refine Rd.str_elim r fun qa=>?_ | refine Rd.bool_elim r ?_ | refine Rd.typ_elim r ?_ | cases r
 refine E12 ((H.obj a _ ha).1) fun items hi r=>?_
 have l:=r.length
 simp only [Array.length_toList] at l
 refine wpAny_truthy_list hi.isList (by rw [sizeLine_eq] at hl; omega) ?_
 have e:(!items.isEmpty)=b:=by
  rw [hb]
  cases xs with
  | nil =>
   have:items.size=0:=by simpa using l.symm
   simp [Array.isEmpty,this]
  | cons y ys =>
   have:items.size≠0:=by rw [← l]; simp
   simp [Array.isEmpty,this]
 rw [e]
 exact h _
theorem bin_add_int {i j:Int}:BinV c A hp .Add (.int i) (.int j) (.int (i + j)):=by
 intro hA Z P s x y _ rX rY
 first | refine Rd.int_elim rX fun qa=>?_ | refine Rd.ref_elim rX ?_ | refine Rd.str_elim rX fun qa=>?_ | refine Rd.bool_elim rX ?_ | refine Rd.typ_elim rX ?_ | cases rX
 first | refine Rd.int_elim rY fun qa=>?_ | refine Rd.ref_elim rY ?_ | refine Rd.str_elim rY fun qa=>?_ | refine Rd.bool_elim rY ?_ | refine Rd.typ_elim rY ?_ | cases rY
 exact Res.pure fun Q E h=>PySem.P.add_int (h _ _ (.int _ _))
theorem bin_sub_int {i j:Int}:BinV c A hp .Sub (.int i) (.int j) (.int (i - j)):=by
 intro hA Z P s x y _ rX rY
 first | refine Rd.int_elim rX fun qa=>?_ | refine Rd.ref_elim rX ?_ | refine Rd.str_elim rX fun qa=>?_ | refine Rd.bool_elim rX ?_ | refine Rd.typ_elim rX ?_ | cases rX
 first | refine Rd.int_elim rY fun qa=>?_ | refine Rd.ref_elim rY ?_ | refine Rd.str_elim rY fun qa=>?_ | refine Rd.bool_elim rY ?_ | refine Rd.typ_elim rY ?_ | cases rY
 exact Res.pure fun Q E h=>PySem.P.sub_int (h _ _ (.int _ _))
theorem bin_add_lst {xs ys:List V} (hsz:xs.length + ys.length≤sizeLine):BinV c A hp .Add (.lst xs) (.lst ys) (.lst (xs++ys)):=by
 intro hA Z P s x y _ rX rY
 cases rX with | lst z1 i1 r1=>cases rY with | lst z2 i2 r2 =>
 rename_i a1 items1 a2 items2
 intro Q E h
 have l1:=r1.length
 have l2:=r2.length
 simp only [Array.length_toList] at l1 l2
 obtain ⟨n1,ho1⟩:=i1
 obtain ⟨n2,ho2⟩:=i2
 have hk:=Kp.push s.heap { cls:=.type "list", data:=.seq (items1++items2) }
 refine PySem.P.add_list ho1 ho2 (h _ _ s.toks s.drawn (fun b=>b=s.heap.objs.size) hk new_one (.lst (.inr rfl) ⟨0,Heap.get?_push_size _ rfl⟩ ?_)) (by omega)
 simpa using (r1.append r2).keep (fun qa z=>.inl z) (fun b o qa e=>hk b o e)
theorem cmp_lt_int {i j:Int}:CmpV c A hp .Lt (.int i) (.int j) (decide (i < j)):=by
 intro hA Z P s x y _ rX rY Q E h
 first | refine Rd.int_elim rX fun qa=>?_ | refine Rd.ref_elim rX ?_ | refine Rd.str_elim rX fun qa=>?_ | refine Rd.bool_elim rX ?_ | refine Rd.typ_elim rX ?_ | cases rX
 first | refine Rd.int_elim rY fun qa=>?_ | refine Rd.ref_elim rY ?_ | refine Rd.str_elim rY fun qa=>?_ | refine Rd.bool_elim rY ?_ | refine Rd.typ_elim rY ?_ | cases rY
 exact PySem.P.lt_int (h s.toks)
theorem cmp_gt_int {i j:Int}:CmpV c A hp .Gt (.int i) (.int j) (decide (i > j)):=by
 intro hA Z P s x y _ rX rY Q E h
 first | refine Rd.int_elim rX fun qa=>?_ | refine Rd.ref_elim rX ?_ | refine Rd.str_elim rX fun qa=>?_ | refine Rd.bool_elim rX ?_ | refine Rd.typ_elim rX ?_ | cases rX
 first | refine Rd.int_elim rY fun qa=>?_ | refine Rd.ref_elim rY ?_ | refine Rd.str_elim rY fun qa=>?_ | refine Rd.bool_elim rY ?_ | refine Rd.typ_elim rY ?_ | cases rY
 exact PySem.P.gt_int (h s.toks)
end
end Mine
end
noncomputable section
namespace Mine
open PySem PySem.SeqAt
section
variable {c:Cx} {A:Around} {hp:List (Addr×O)}
theorem bin_mod_int {i j:Int} (hj:j≠0):BinV c A hp .Mod (.int i) (.int j) (.int (i.fmod j)):=by
 intro hA Z P s x y _ rX rY
 first | refine Rd.int_elim rX fun qa=>?_ | refine Rd.ref_elim rX ?_ | refine Rd.str_elim rX fun qa=>?_ | refine Rd.bool_elim rX ?_ | refine Rd.typ_elim rX ?_ | cases rX
 first | refine Rd.int_elim rY fun qa=>?_ | refine Rd.ref_elim rY ?_ | refine Rd.str_elim rY fun qa=>?_ | refine Rd.bool_elim rY ?_ | refine Rd.typ_elim rY ?_ | cases rY
 exact Res.pure fun Q E h=>PyProof.Rows.mod_int hj (h _ _ (.int _ _))
theorem gip {s:Shared} {v:Value} {T id:String} {Q:Bool→Shared→Prop} {E:Value→Shared→Prop} (hT:s.TypeIs v T) (hl:typeLookup (.type T) "__getitem__" = pure (some (.builtin id))) (hv:v≠.builtin "sys.modules#opaque") (h:Q false s) :
  wpAny c.M A (getitemInPython v) Q E s:=by
 rw [getitemInPython_of_ne hv]
 exact wpAny_bind (wpAny_specialOf hT hl (wpAny_pure h))
theorem item_tup {xs:List V} {i:Int} {r:V} (h0:0≤i) (h1:i < 2 ^ 62) (hr:xs[i.toNat]?=some r):ItemV c A hp (.tup xs) (.int i) r:=by
 intro hA Z P s x y _ rX rY
 refine Rd.tup_elim rX fun a items z ht rs=>?_
 refine Rd.int_elim rY fun t=>?_
 refine ⟨fun Q E h=>gip (T:="tuple") ht.isTuple.typeIs F.slot_tuple_getitem.lookup (by intro e; cases e) h,?_⟩
 refine E12 (rs.get _ _ hr) fun v hv rv=>?_
 have hlt:i.toNat < items.size:=by
  have:=(List.getElem?_eq_some_iff.mp hv).1
  simpa using this
 refine Res.pure fun Q E h=>?_
 obtain ⟨n,ho⟩:=ht
 refine PySem.P.getItem_tuple (k:=i.toNat) ho (Int.le_trans (by decide) h0) (Int.lt_trans h1 (by decide)) ?_ (by simpa using hv) (by simpa using h v s.toks rv)
 unfold seqIndex?
 simp only [Int.not_lt.mpr h0,if_false]
 rw [if_pos]
 simp only [Bool.and_eq_true,decide_eq_true_eq]
 exact ⟨h0,(Int.toNat_lt h0).mp hlt⟩
theorem item_lst {xs:List V} {i:Int} {r:V} (h0:0≤i) (h1:i < 2 ^ 62) (hr:xs[i.toNat]?=some r):ItemV c A hp (.lst xs) (.int i) r:=by
 intro hA Z P s x y _ rX rY
 refine Rd.lst_elim rX fun a items z ht rs=>?_
 refine Rd.int_elim rY fun t=>?_
 refine ⟨fun Q E h=>gip (T:="list") ht.isList.typeIs list_getitem_lookup (by intro e; cases e) h,?_⟩
 refine E12 (rs.get _ _ hr) fun v hv rv=>?_
 refine Res.pure fun Q E h=>?_
 exact wpAny_getItem_list ht.isList h0 (Int.lt_trans h1 (by decide)) (by simpa using hv) (by simpa using h v s.toks rv)
theorem item_own {a:Addr} {xs:List V} {i:Int} {r:V} (ha:(a,O.lst xs)∈hp) (h0:0≤i) (h1:i < 2 ^ 62) (hr:xs[i.toNat]?=some r):ItemV c A hp (.ref a) (.int i) r:=by
 intro hA Z P s x y H rX rY
 first | refine Rd.int_elim rX fun qa=>?_ | refine Rd.ref_elim rX ?_ | refine Rd.str_elim rX fun qa=>?_ | refine Rd.bool_elim rX ?_ | refine Rd.typ_elim rX ?_ | cases rX
 first | refine Rd.int_elim rY fun qa=>?_ | refine Rd.ref_elim rY ?_ | refine Rd.str_elim rY fun qa=>?_ | refine Rd.bool_elim rY ?_ | refine Rd.typ_elim rY ?_ | cases rY
 refine E12 ((H.obj a _ ha).1) fun items ht rs=>?_
 refine ⟨fun Q E h=>gip (T:="list") ht.isList.typeIs list_getitem_lookup (by intro e; cases e) h,?_⟩
 refine E12 (rs.get _ _ hr) fun v hv rv=>?_
 refine Res.pure fun Q E h=>?_
 exact wpAny_getItem_list ht.isList h0 (Int.lt_trans h1 (by decide)) (by simpa using hv) (by simpa using h v s.toks rv)
noncomputable def dget (es:List (Str×V)) (k:Str):Option V:=(es.find? fun e=>decide (e.1=k)).map (·.2)
theorem dget_cons (e:Str×V) (es:List (Str×V)) (k:Str):dget (e::es) k=if e.1=k then some e.2 else dget es k:=by
 unfold dget
 rw [List.find?_cons]
 by_cases h:e.1=k <;> simp [h]
theorem valueAt_cons {K:Type} [DecidableEq K] (e:K×Value) (kvs:List (K×Value)) (k:K):valueAt (e::kvs) k=if e.1=k then some e.2 else valueAt kvs k:=by
 unfold valueAt
 rw [List.find?_cons]
 by_cases h:e.1=k <;> simp [h]
theorem dget_rd {c:Cx} {Z:Addr→Prop} {h:Heap}:∀ {es:List (Str×V)} {kvs:List (Str×Value)},kvs.map (·.1)=es.map (·.1)→RdL c Z h (es.map (·.2)) (kvs.map (·.2))→∀ k,
  (dget es k=none∧valueAt kvs k=none)∨(∃ X v,dget es k=some X∧valueAt kvs k=some v∧Rd c Z h X v)
 | [],[],_,_,k=>.inl ⟨rfl,rfl⟩
 | [],_::_,e,_,_=>by simp at e
 | _::_,[],e,_,_=>by simp at e
 | (k1,X)::es,(k2,v)::kvs,e,r,k=>by
  simp only [List.map_cons,List.cons.injEq] at e
  obtain ⟨e1,e2⟩:=e
  subst e1
  simp only [List.map_cons] at r
  cases r with | cons r1 r2 =>
  rw [dget_cons,valueAt_cons]
  by_cases h:k2=k
  ·simp only [h,if_true]; exact .inr (I23 X v rfl rfl r1)
  ·simp only [h,if_false]; exact dget_rd e2 r2 k
theorem isSome_dget {c:Cx} {Z:Addr→Prop} {h:Heap} {es:List (Str×V)} {kvs:List (Str×Value)} (e:kvs.map (·.1)=es.map (·.1)) (r:RdL c Z h (es.map (·.2)) (kvs.map (·.2))) (k:Str):(valueAt kvs k).isSome=(dget es k).isSome:=by
 rcases dget_rd e r k with ⟨h1,h2⟩ | ⟨X,v,h1,h2,_⟩ <;> simp [h1,h2]
theorem cmp_in_dct {k:Str} {es:List (Str×V)}:CmpV c A hp .In (.str k) (.dct es) (dget es k).isSome:=by
 intro hA Z P s x y _ rX rY Q E h
 refine Rd.str_elim rX fun t=>?_
 refine Rd.dct_elim rY fun a kvs ep z hs hd e r=>?_
 refine wpAny_in_of (knd:=c.K) (strKind_is _ _ k t) hs hd.dictOf.mapOf ?_
 rw [isSome_dget e r]; exact h _
theorem cmp_in_odct {a:Addr} {k:Str} {es:List (Str×V)} (ha:(a,O.dct es)∈hp):CmpV c A hp .In (.str k) (.ref a) (dget es k).isSome:=by
 intro hA Z P s x y H rX rY Q E h
 refine Rd.str_elim rX fun t=>?_
 refine Rd.ref_elim rY ?_
 refine E24 ((H.obj a _ ha).1) fun kvs ep hs hd e r=>?_
 refine wpAny_in_of (knd:=c.K) (strKind_is _ _ k t) hs hd.dictOf.mapOf ?_
 rw [isSome_dget e r]; exact h _
theorem cmp_notin_odct {a:Addr} {k:Str} {es:List (Str×V)} (ha:(a,O.dct es)∈hp):CmpV c A hp .NotIn (.str k) (.ref a) (!(dget es k).isSome):=by
 intro hA Z P s x y H rX rY Q E h
 refine Rd.str_elim rX fun t=>?_
 refine Rd.ref_elim rY ?_
 refine E24 ((H.obj a _ ha).1) fun kvs ep hs hd e r=>?_
 refine wpAny_notIn_of (knd:=c.K) (strKind_is _ _ k t) hs hd.dictOf.mapOf ?_
 rw [isSome_dget e r]; exact h _
theorem item_dct {k:Str} {es:List (Str×V)} {X:V} (hX:dget es k=some X):ItemV c A hp (.dct es) (.str k) X:=by
 intro hA Z P s x y _ rX rY
 refine Rd.str_elim rY fun t=>?_
 refine Rd.dct_elim rX fun a kvs ep z hs hd e r=>?_
 refine ⟨fun Q E h=>gip (T:="dict") hd.dictOf.typeIs F.slot_dict_getitem.lookup (by intro e; cases e) h,?_⟩
 rcases dget_rd e r k with ⟨h1,h2⟩ | ⟨X',v,h1,h2,rv⟩
 ·rw [hX] at h1; cases h1
 ·rw [hX] at h1; cases h1
  exact Res.pure fun Q E h=>wpAny_getItem_of (knd:=c.K) (strKind_is _ _ k t) hd.dictOf.mapOf h2 (h _ _ rv)
theorem item_odct {a:Addr} {k:Str} {es:List (Str×V)} {X:V} (ha:(a,O.dct es)∈hp) (hX:dget es k=some X):ItemV c A hp (.ref a) (.str k) X:=by
 intro hA Z P s x y H rX rY
 refine Rd.str_elim rY fun t=>?_
 refine Rd.ref_elim rX ?_
 refine E24 ((H.obj a _ ha).1) fun kvs ep hs hd e r=>?_
 refine ⟨fun Q E h=>gip (T:="dict") hd.dictOf.typeIs F.slot_dict_getitem.lookup (by intro e; cases e) h,?_⟩
 rcases dget_rd e r k with ⟨h1,h2⟩ | ⟨X',v,h1,h2,rv⟩
 ·rw [hX] at h1; cases h1
 ·rw [hX] at h1; cases h1
  exact Res.pure fun Q E h=>wpAny_getItem_of (knd:=c.K) (strKind_is _ _ k t) hd.dictOf.mapOf h2 (h _ _ rv)
end
end Mine
end
noncomputable section
namespace Mine
open PySem PySem.SeqAt
theorem All2.perm {α β:Type} {R:α→β→Prop} {l l':List α} (p:List.Perm l' l):∀ {ks:List β},All2 R l ks→∃ ks',All2 R l' ks'∧ks'.Perm ks:=by
 induction p with
 | nil=>intro ks h; exact (I12 ks h (.refl _))
 | cons x _ ih =>
  intro ks h
  cases h with | cons a b =>
  refine E12 (ih b) fun ks' h1 h2=>?_
  exact (I12 (_::ks') (.cons a h1) (h2.cons _))
 | swap x y l =>
  intro ks h
  cases h with | cons a b=>cases b with | cons a' b' =>
  exact (I12 (_::_::_) (.cons a' (.cons a b')) (.swap _ _ _))
 | trans _ _ ih1 ih2 =>
  intro ks h
  refine E12 (ih2 h) fun k1 h1 p1=>?_
  refine E12 (ih1 h1) fun k2 h2 p2=>?_
  exact (I12 k2 h2 (p2.trans p1))
theorem All2.mem {α β:Type} {R:α→β→Prop} {l:List α} {ks:List β} (h:All2 R l ks) {a:α} (ha:a∈l):∃ b∈ks,R a b:=by
 induction h with
 | nil=>cases ha
 | cons r _ ih =>
  rcases List.mem_cons.mp ha with rfl | ha
  ·exact (I12 _ (.head _) r)
  ·refine E12 (ih ha) fun b hb hr=>?_; exact (I12 b (.tail _ hb) hr)
theorem All2.mem' {α β:Type} {R:α→β→Prop} {l:List α} {ks:List β} (h:All2 R l ks) {b:β} (hb:b∈ks):∃ a∈l,R a b:=by
 induction h with
 | nil=>cases hb
 | cons r _ ih =>
  rcases List.mem_cons.mp hb with rfl | hb
  ·exact (I12 _ (.head _) r)
  ·refine E12 (ih hb) fun a ha hr=>?_; exact (I12 a (.tail _ ha) hr)
noncomputable def SE (c:Cx) (e:Int×Value) (k:Str):Prop:=c.K.is k e.2=true∧e.1=c.K.hash k∧e.2.scannable=true
section
variable {c:Cx} {A:Around} {s:Shared} {E:Value→Shared→Prop}
theorem elems_of {es:List (Int×Value)} {ks:List Str} (h:All2 (SE c) es ks):ElemsOf c.K es:=fun e he=>by
 refine E14 (h.mem he) fun k qa h1 h2 h3=>?_
 exact ⟨(I12 k h1 h2),h3⟩
theorem mem_keys {es:List (Int×Value)} {ks:List Str} (h:All2 (SE c) es ks) (k:Str):k∈ks↔∃ e∈es,c.K.is k e.2=true:=by
 constructor
 ·intro hk; refine E13 (h.mem' hk) fun e he h1 qa=>?_; exact (I12 e he h1)
 ·refine R12 fun e he hk=>?_
  refine E13 (h.mem he) fun k' hk' h1 qa=>?_
  rwa [c.K.inj _ _ _ hk h1]
open Classical in
theorem SetL.setOf {h:Heap} {a:Addr} {xs:List Str} (x:SetL c h a xs):h.SetOf c.K a (fun k=>decide (k∈xs)) xs.length:=by
 refine E59 x fun o es ep t ks h1 h2 h3 h4 h5 h6 h7 h8 qa=>?_; clear x
 refine (I48 o es ep t h1 h2 h3 (elems_of h4) (fun k=>?_) h7 h8 ?_)
 ·rw [decide_eq_true_eq,← h5.mem_iff]; exact mem_keys h4 k
 ·rw [← h5.length_eq,← h4.length]; simp
theorem SetL.typeIs {a:Addr} {xs:List Str} (x:SetL c s.heap a xs):s.TypeIs (.ref a) "set" := x.setOf.typeIs
theorem layNew_led (t:SetTable) (es:Array (Int×Value)) (h:Int) (x:Value):(layNew t es h x).2.1.led=t.led:=by
 unfold layNew
 split
 ·dsimp only [SetTable.put,SetTable.orStandIn]; (repeat' split) <;> rfl
 ·rfl
theorem relayAll_led (t:SetTable) (es:Array (Int×Value)) (n:Nat):(relayAll t es n).2.1.led=t.led:=by
 unfold relayAll
 split
 ·rename_i t' order e
  dsimp only
  split
  ·unfold SetTable.relaid SetTable.laid at e
   simp only [Option.bind_eq_bind,Option.bind_eq_some_iff] at e
   refine E12 e fun qa qb e=>?_
   simp only [Option.pure_def,Option.some.injEq,Prod.mk.injEq] at e
   rw [← e.1]
  ·rfl
 ·rfl
theorem relayAll_plain (t:SetTable) (es:Array (Int×Value)) (n:Nat) (ht:t.plain=false):(relayAll t es n).2.1.plain=false:=by
 unfold relayAll
 split
 ·rename_i t' order e
  dsimp only
  split
  ·unfold SetTable.relaid SetTable.laid at e
   simp only [Option.bind_eq_bind,Option.bind_eq_some_iff] at e
   refine E12 e fun qa qb e=>?_
   simp only [Option.pure_def,Option.some.injEq,Prod.mk.injEq] at e
   rw [← e.1]; exact ht
  ·rfl
 ·rfl
theorem storeSetL {a:Addr} {o:Obj} {es:Array (Int×Value)} {ep:Nat} {t:SetTable} {es':Array (Int×Value)} {t':SetTable} {ks xs:List Str} {Q:Unit→Shared→Prop}
  (ho:s.heap.get? a=some o) (hex:o.ExactSet) (hd:o.data=.set es ep t) (h4:All2 (SE c) es'.toList ks) (h5:ks.Perm xs) (h6:xs.Nodup) (h7:es'.size < scanBound) (h8:t'.fits es'.size=true)
  (h9:t'.led=true∨c.w.params.followText "set-order" = true) (h10:es'.size≠0→t'.plain=false)
  (h:∀ h' o',Heap.SameBut a s.heap h'→h'.get? a=some o'→o'.ExactSet→(∃ n,o'.data=.set es' n t')→SetL c h' a xs→Q () { s with heap:=h' }):wpAny c.M A (storeSet a es' t') Q E s:=by
 have hz:es'.size≤sizeLine:=fits_of_scanBound h7
 refine wpAny_storeSet_of ho hd ?_ hz
 have hg:(s.heap.update a (Obj.putSet es' t')).get? a=some { o with data:=.set es' (ep + 1) t' }:=by
  have:=Heap.get?_update_self (Obj.putSet es' t') ho (by rw [putSet_of es' t' hd]; rfl)
  rw [putSet_of es' t' hd] at this; exact this
 exact h _ _ (Heap.SameBut.update ..) hg hex ⟨_,rfl⟩ (I510 _ es' (ep + 1) t' ks hg hex rfl h4 h5 h6 h7 h8 h9 h10)
theorem setAddL {a:Addr} {xs:List Str} {k:Str} {x:Value} {Q:Bool→Shared→Prop} (hkey:c.K.is k x=true) (hsc:x.scannable=true) (hstr:∃ u,x=.str k u) (hS:SetL c s.heap a xs) (hroom:xs.length + 1 < scanBound)
  (h:∀ h' b,Heap.SameBut a s.heap h'→SetL c h' a (if k∈xs then xs else xs++[k])→Q b { s with heap:=h' }) :
  wpAny c.M A (setAddHashed a x (c.K.hash k)) Q E s:=by
 refine E510 (id hS) fun o es ep t ks ho hex hd hel hp hnd hb hf hled hpl=>?_
 have hlen:es.size=xs.length:=by rw [← hp.length_eq,← hel.length]; simp
 have hel':=elems_of hel
 unfold setAddHashed setAddHashedIn
 refine wpAny_holding (wpAny_bind (wpAny_setState_of ho hd hf ?_))
 dsimp only
 rw [byScan_of hsc hb hel']
 simp only [↓reduceIte]
 unfold setAddByScan
 refine wpAny_bind ?_
 refine wpAny_bind (wpAny_rule ?_)
 refine wpAny_bind (wpAny_setScan_of hkey ho hd hf hel' ?_)
 cases hr:List.findIdx? (fun e=>c.K.is k e.2) es.toList with
 | some j =>
  dsimp only
  refine E12 (List.findIdx?_eq_some_iff_getElem.mp hr) fun hj hpj qa=>?_
  have hk:k∈xs:=hp.mem_iff.mp ((mem_keys hel k).mpr (I12 _ (List.getElem_mem hj) hpj))
  refine wpAny_pure (wpAny_pure ?_)
  have:=h s.heap false (Heap.SameBut.refl a s.heap)
  rw [if_pos hk] at this
  exact this hS
 | none =>
  dsimp only
  have hk:k∉xs:=by
   intro hk
   refine E12 ((mem_keys hel k).mp (hp.mem_iff.mpr hk)) fun e he h1=>?_
   have:=List.findIdx?_eq_none_iff.mp hr e he
   rw [h1] at this; cases this
  rw [if_neg hk] at h
  have hgw:∀ (b:Bool) {s₁:Shared} {Q':Unit→Shared→Prop},Q' () s₁→wpAny c.M A (match b with | true=>rule "set.scan.the-table-gave-way" | false=>pure ()) Q' E s₁ :=
   fun b s₁ Q' hq=>by cases b <;> first | exact wpAny_pure hq | exact wpAny_rule hq
  have hperm:=layNew_perm t es (c.K.hash k) x
  have hfits:=layNew_fits t es (c.K.hash k) x
  have hled1:=layNew_led t es (c.K.hash k) x
  generalize hL:layNew t es (c.K.hash k) x=L at hperm hfits hled1 ⊢
  obtain ⟨es1,t1,wasDummy,gave⟩:=L
  dsimp only at hperm hfits hled1 ⊢
  rw [Array.toList_push] at hperm
  have hel2:All2 (SE c) (es.toList++[(c.K.hash k,x)]) (ks++[k]):=hel.append (.cons (I03 hkey rfl hsc) .nil)
  refine E12 (hel2.perm hperm) fun ks1 hel1 hp1=>?_
  have hp1':ks1.Perm (xs++[k]):=hp1.trans (hp.append_right _)
  have hnd1:(xs++[k]).Nodup:=by
   rw [List.nodup_append]
   exact (I03 hnd (by simp) (by intro a ha b hb; simp at hb; subst hb; intro e; exact hk (e▸ha)))
  have hsz1:es1.size=xs.length + 1:=by rw [← Array.length_toList,hperm.length_eq,List.length_append,Array.length_toList,hlen]; rfl
  have hb1:es1.size < scanBound:=by omega
  refine wpAny_bind (hgw _ ?_)
  have tail:∀ t2:SetTable,t2.fits es1.size=true→t2.led=t.led→t2.plain=false→wpAny c.M A (do
    storeSet a es1 t2
    if (!wasDummy&&t2.tooFull)=true then do
      (match (relayAll t2 es1 (SetTable.grown es1.size)).2.2 with | true=>rule "set.scan.the-table-gave-way" | false=>pure ())
      storeSet a (relayAll t2 es1 (SetTable.grown es1.size)).1 (relayAll t2 es1 (SetTable.grown es1.size)).2.1
      pure (some true)
     else pure (some true)) (fun r s'=>wpAny c.M A (match r with | some added=>pure added | none=>setAddHashedIn a x (c.K.hash k) 99999) Q E s') E s:=by
   intro t2 hf2 hl2 hpl2
   refine wpAny_bind (storeSetL ho hex hd hel1 hp1' hnd1 hb1 hf2 (hl2▸hled) (fun qa=>hpl2) fun h' o' hsb ho' hex' hd' hS'=>?_)
   obtain ⟨n',hd'⟩:=hd'
   split
   ·have hp2:=relayAll_perm t2 es1 (SetTable.grown es1.size)
    have hfr:=relayAll_fits t2 es1 (SetTable.grown es1.size)
    have hlr:=relayAll_led t2 es1 (SetTable.grown es1.size)
    have hpr:=relayAll_plain t2 es1 (SetTable.grown es1.size) hpl2
    generalize relayAll t2 es1 (SetTable.grown es1.size)=Rl at hp2 hfr hlr hpr ⊢
    obtain ⟨es2,t3,gave2⟩:=Rl
    dsimp only at hp2 hfr hlr hpr ⊢
    refine E12 (hel1.perm hp2) fun ks2 hel2 hp2'=>?_
    have hsz:es2.size=es1.size:=by rw [← Array.length_toList,hp2.length_eq,Array.length_toList]
    refine wpAny_bind (hgw _ ?_)
    refine wpAny_bind (storeSetL ho' hex' hd' hel2 (hp2'.trans hp1') hnd1 (by omega) hfr (by rw [hlr,hl2]; exact hled) (fun qa=>hpr) fun h'' o'' hsb'' ho'' hex'' hd'' hS''=>?_)
    exact wpAny_pure (wpAny_pure (h h'' true (hsb.trans hsb'') hS''))
   ·exact wpAny_pure (wpAny_pure (h h' true hsb hS'))
  obtain ⟨u,rfl⟩:=hstr
  split
  ·rename_i hpl1
   refine wpAny_bind ?_
   rw [hashByValue_scannable 8 hsc]
   refine wpAny_pure ?_
   simp only [plainKind,Bool.false_eq_true,↓reduceIte]
   exact tail _ (SetTable.fits_plain_off hfits) hled1 rfl
  ·rename_i hpl1
   refine wpAny_bind (wpAny_pure ?_)
   simp only [↓reduceIte]
   exact tail _ hfits hled1 (by simpa using hpl1)
end
end Mine
end
noncomputable section
namespace Mine
open PySem PySem.SeqAt
section
variable {c:Cx} {A:Around} {env:Env} {σ:St}
theorem wSs_nil {k:FV→St→Prop} (h:k .next σ):WSs c A env σ [] k:=by
 refine WP.mk fun hA Z P s R=>?_
 exact wpAny_execs_nil (fin_mk (Step.refl ..) R .next h)
noncomputable def thenS (c:Cx) (A:Around) (env:Env) (rest:List Stmt) (k:FV→St→Prop) (f:FV) (σ:St):Prop :=
 match f with
 | .next=>WSs c A env σ rest k
 | f=>k f σ
theorem wSs_cons {st:Stmt} {rest:List Stmt} {k:FV→St→Prop} (h:WS c A env σ st (thenS c A env rest k)):WSs c A env σ (st::rest) k:=by
 refine WP.mk fun hA Z P s R=>?_
 refine wpAny_execs_cons (wp_then h hA R fun Z₁ s₁ f' σ₁ f S₁ R₁ rf k₁=>?_)
 cases rf with
 | next=>exact wpAny_mono (k₁.run hA Z₁ P _ R₁) (fun qa qb f=>Fin.after S₁ f) fun qa qb x=>x
 | brk=>exact (fin_mk S₁ R₁ .brk k₁)
 | cont=>exact (fin_mk S₁ R₁ .cont k₁)
 | ret r=>exact (fin_mk S₁ R₁ (.ret r) k₁)
theorem wS_If {t:Expr} {b o:List Stmt} {pos:Pos} {k:FV→St→Prop} (h:WT c A env σ t fun x σ₁=>if x then WSs c A env σ₁ b k else WSs c A env σ₁ o k):WS c A env σ (.If t b o pos) k:=by
 refine WP.mk fun hA Z P s R=>?_
 refine wpAny_If (wp_thenB h hA R fun Z₁ s₁ x σ₁ S₁ R₁ k₁=>?_)
 cases x with
 | true=>exact wpAny_mono (k₁.run hA Z₁ P _ R₁) (fun qa qb f=>Fin.after S₁ f) fun qa qb x=>x
 | false=>exact wpAny_mono (k₁.run hA Z₁ P _ R₁) (fun qa qb f=>Fin.after S₁ f) fun qa qb x=>x
theorem wS_Return {e:Expr} {pos:Pos} {k:FV→St→Prop} (h:WE c A env σ e fun X σ₁=>k (.ret X) σ₁):WS c A env σ (.Return (some e) pos) k:=by
 refine WP.mk fun hA Z P s R=>?_
 refine wpAny_Return_some (wp_then h hA R fun Z₁ s₁ X σ₁ v S₁ R₁ r₁ k₁=>?_)
 exact (fin_mk S₁ R₁ (.ret r₁) k₁)
theorem wS_Continue {pos:Pos} {k:FV→St→Prop} (h:k .cont σ):WS c A env σ (.Continue pos) k:=by
 refine WP.mk fun hA Z P s R=>?_
 show wpAny _ _ (do standAt pos; pure Flow.cont) _ _ s
 exact wpAny_bind (wpAny_standAt (wpAny_pure (fin_mk (Step.refl ..) R .cont h)))
theorem wS_Break {pos:Pos} {k:FV→St→Prop} (h:k .brk σ):WS c A env σ (.Break pos) k:=by
 refine WP.mk fun hA Z P s R=>?_
 show wpAny _ _ (do standAt pos; pure Flow.brk) _ _ s
 exact wpAny_bind (wpAny_standAt (wpAny_pure (fin_mk (Step.refl ..) R .brk h)))
theorem wS_Expr {e:Expr} {pos:Pos} {k:FV→St→Prop} (h:WE c A env σ e fun qa σ₁=>k .next σ₁) (hs:swapsWith e none pos.line env=pure false:=by rfl):WS c A env σ (.Expr e pos) k:=by
 refine WP.mk fun hA Z P s R=>?_
 have hi:interactive env=false:=by unfold interactive; rw [R.fn]; rfl
 refine wpAny_Expr_any (wp_then h hA R fun Z₁ s₁ X σ₁ v S₁ R₁ r₁ k₁=>?_) hi hs
 exact (fin_mk S₁ R₁ .next k₁)
theorem exec_Assign1 (t value:Expr) (pos:Pos) (hs:swapsWith value (some t) pos.line env=pure false) (hsw:swappedStores [t] value env=pure none)
  (hte:(assignEach [t] env).map (·.2)=[assign t env]) :
  exec (.Assign [t] value pos) env=(do standAt pos; let v ← eval value env; assign t env v; pure .next):=by
 show (do
  standAt pos
  if ← swapsWithSole [t] value pos.line env then do
   evalThenUse value env fun v=>assignAll v ((assignEach [t] env).map (fun x:Bool×(Value→Sem Unit)=>x.2))
   pure Flow.next
  else do
   let v ← eval value env
   assignStores env v (← swappedStores [t] value env) ((assignEach [t] env).map (fun x:Bool×(Value→Sem Unit)=>x.2)))=_
 rw [show swapsWithSole [t] value pos.line env=swapsWith value (some t) pos.line env from rfl,hs,hsw,hte]
 rfl
theorem wS_Assign {t value:Expr} {pos:Pos} {k:FV→St→Prop} (h:WE c A env σ value fun X σ₁=>WA c A env σ₁ t X fun σ₂=>k .next σ₂)
  (hs:swapsWith value (some t) pos.line env=pure false:=by rfl) (hsw:swappedStores [t] value env=pure none:=by rfl)
  (hte:(assignEach [t] env).map (·.2)=[assign t env]:=by rfl):WS c A env σ (.Assign [t] value pos) k:=by
 refine WP.mk fun hA Z P s R=>?_
 show wpAny _ _ (exec _ _) _ _ _
 rw [exec_Assign1 t value pos hs hsw hte]
 refine wpAny_bind (wpAny_standAt (wpAny_bind (wp_then h hA R fun Z₁ s₁ X σ₁ v S₁ R₁ r₁ k₁=>?_)))
 refine wpAny_bind (wa_then k₁ hA R₁ r₁ fun Z₂ s₂ σ₂ S₂ R₂ k₂=>?_)
 exact wpAny_pure (fin_mk (S₁.trans S₂) R₂ .next k₂)
noncomputable def WAs (c:Cx) (A:Around) (env:Env) (σ:St) (ts:List Expr) (Xs:List V) (k:St→Prop):Prop :=
 AOk A→∀ Z P s vs,Rel c Z P env σ s.heap→RdL c Z s.heap Xs vs→wpAny c.M A (assignInOrder ((assignEach ts env).map (·.2)) vs) (Fin c P env RU (fun qa=>k) Z s) (fun qa qb=>False) s
theorem wAs_nil {k:St→Prop} (h:k σ):WAs c A env σ [] [] k:=by
 intro hA Z P s vs R r
 cases r
 exact wpAny_pure (fin_mk (b:=()) (Step.refl ..) R trivial h)
theorem wAs_cons {t:Expr} {ts:List Expr} {X:V} {Xs:List V} {k:St→Prop} (h:WA c A env σ t X fun σ₁=>WAs c A env σ₁ ts Xs k)
  (he:assignEach (t::ts) env=(false,assign t env)::assignEach ts env:=by rfl):WAs c A env σ (t::ts) (X::Xs) k:=by
 intro hA Z P s vs R r
 cases r with | cons r1 r2 =>
 rw [he]
 show wpAny _ _ (do holding _ (assign t env _); assignInOrder _ _) _ _ s
 refine wpAny_bind (wpAny_holding (wa_then h hA R r1 fun Z₁ s₁ σ₁ S₁ R₁ k₁=>?_))
 exact wpAny_mono (k₁ hA Z₁ P _ _ R₁ (r2.step S₁)) (fun qa qb f=>Fin.after S₁ f) fun qa qb x=>x
theorem wA_Tuple {ts:List Expr} {n:Nat} {pos:Pos} {Xs:List V} {k:St→Prop} (h:WAs c A env σ ts Xs k) (hn:(assignEach ts env).length=Xs.length:=by rfl)
  (hst:(assignEach ts env).findIdx? (·.1)=none:=by rfl):WA c A env σ (.Tuple ts n pos) (.tup Xs) k:=by
 intro hA Z P s v R r
 refine Rd.tup_elim r fun a items z ht rs=>?_
 have hl:=rs.length
 simp only [Array.length_toList] at hl
 refine wpAny_assign_Tuple hA.handled ht.isTuple (by rw [hn,hl]) hst fun h' he=>?_
 have hk:Kp s.heap h':=fun b o e=>he b o (Nat.ne_of_lt (Heap.lt_size e)) e
 have:=h hA Z P { s with heap:=h' } items.toList (R.kp hk) (rs.kp hk)
 exact wpAny_mono this (fun qa qb f=>Fin.after (Step.kp hk) f) fun qa qb x=>x
noncomputable def St.le (σ τ:St):Prop:=(∀ x X,τ.loc.lookup x=some X→σ.loc.lookup x=some X)∧(∀ a o,(a,o)∈τ.hp→(a,o)∈σ.hp)∧((σ.hp.map (·.1)).Nodup→(τ.hp.map (·.1)).Nodup)
theorem Rel.le {Z P:Addr→Prop} {τ:St} {h:Heap} (R:Rel c Z P env σ h) (hle:σ.le τ):Rel c Z P env τ h :=
 { R with
  vars:=fun x X e=>R.vars x X (hle.1 x X e)
  hp:=⟨fun a o ha=>R.hp.obj a o (hle.2.1 a o ha),hle.2.2 R.hp.nodup⟩
  hpOff:=fun a o ha=>R.hpOff a o (hle.2.1 a o ha) }
end
end Mine
end
noncomputable section
namespace Mine
open PySem PySem.SeqAt
section
variable {c:Cx} {A:Around} {env:Env} {σ:St} {Z P:Addr→Prop} {h:Heap}
theorem Rel.protect (R:Rel c Z P env σ h) {N:Addr→Prop} (hN:∀ b,N b→(∃ o,h.get? b=some o)∧¬ Z b∧¬ OwnA env b∧∀ o,(b,o)∉σ.hp):Rel c Z (fun b=>P b∨N b) env σ h :=
 { R with
  inv:=⟨R.inv.ground,R.inv.exZ,fun b p=>p.elim (R.inv.exP b) fun n=>(hN b n).1,fun b z p=>p.elim (R.inv.off b z) fun n=>(hN b n).2.1 z,R.inv.sys,R.inv.top,fun q hq=>.inl (R.inv.tp q hq),R.inv.tab⟩
  freeP:=fun x cl h1 h2=>.inl (R.freeP x cl h1 h2)
  own:=fun b hb=>⟨(R.own b hb).1,fun p=>p.elim (R.own b hb).2 fun n=>(hN b n).2.2.1 hb⟩
  hp:=⟨fun a o ha=>(I03 ((R.hp.obj a o ha).1) ((R.hp.obj a o ha).2.1) (fun p=>p.elim (R.hp.obj a o ha).2.2 fun n=>(hN a n).2.2.2 o ha)),R.hp.nodup⟩ }
theorem Rel.unprotect {P':Addr→Prop} (R:Rel c Z P' env σ h) (hT:∀ q∈tabs,P q.2) (hP:∀ b,P b→P' b) (hf:∀ x cl,env.kindOf x=some .free→env.cells.lookup x=some cl→P cl):Rel c Z P env σ h :=
 { R with
  inv:=⟨R.inv.ground,R.inv.exZ,fun b p=>R.inv.exP b (hP b p),fun b z p=>R.inv.off b z (hP b p),R.inv.sys,R.inv.top,hT,R.inv.tab⟩
  freeP:=hf
  own:=fun b hb=>⟨(R.own b hb).1,fun p=>(R.own b hb).2 (hP b p)⟩
  hp:=⟨fun a o ha=>(I03 ((R.hp.obj a o ha).1) ((R.hp.obj a o ha).2.1) (fun p=>(R.hp.obj a o ha).2.2 (hP a p))),R.hp.nodup⟩ }
theorem Rel.but (R:Rel c Z P env σ h) {h':Heap} {N:Addr→Prop} (hk:∀ b o,¬ N b→h.get? b=some o→h'.get? b=some o) (hT:∀ b,N b→¬ isT b) (hZ:∀ b,N b→¬ Z b) (hO:∀ b,N b→¬ OwnA env b) (hH:∀ b,N b→∀ o,(b,o)∉σ.hp)
  (hP:∀ b,P b→N b→∃ o,h'.get? b=some o) (hF:∀ x cl,env.kindOf x=some .free→env.cells.lookup x=some cl→¬ N cl):Rel c Z P env σ h' where
 inv:=⟨fun b o e=>⟨(R.inv.ground b o e).1,hk b o (fun n=>hZ b n (R.inv.ground b o e).1) (R.inv.ground b o e).2⟩,
  fun b z=>let ⟨o,e⟩:=R.inv.exZ b z; ⟨o,hk b o (fun n=>hZ b n z) e⟩,
  fun b p=>by
   obtain ⟨o,e⟩:=R.inv.exP b p
   by_cases n:N b
   ·exact hP b p n
   ·exact ⟨o,hk b o n e⟩,R.inv.off,R.inv.sys,R.inv.top,R.inv.tp,fun q hq=>⟨(R.inv.tab q hq).1,R.inv.tabAt (fun b o z e=>hk b o (fun n=>hZ b n z) e) (fun b o t e=>hk b o (fun n=>hT b n t) e) q hq⟩⟩
 fn:=R.fn
 gl:=R.gl
 bl:=R.bl
 ns:=let ⟨m,o,es,ep,ho,r⟩:=R.ns; (I42 m o es ep (hk _ _ (fun n=>hO _ n (.inl rfl)) ho) r)
 cells:=fun x hx=>let ⟨cl,v,h1,⟨o,ho,r⟩⟩:=R.cells x hx; (I22 cl v h1 (I12 o (hk _ _ (fun n=>hO _ n (.inr (I12 x hx h1))) ho) r))
 inj:=R.inj
 cellL:=R.cellL
 freeP:=R.freeP
 own:=R.own
 vars:=fun x X e=>by
  refine E12 (R.vars x X e) fun v hv r=>?_
  refine (I12 v ?_ (r.keep (fun qa z=>z) fun b o z e=>hk b o (fun n=>hZ b n z) e))
  rcases hv with ⟨k1,m,⟨o,es,ep,ho,r'⟩,hm1⟩ | ⟨k1,cl,h1,⟨o,ho,r'⟩⟩
  ·exact .inl (I02 k1 (I12 m (I32 o es ep (hk _ _ (fun n=>hO _ n (.inl rfl)) ho) r') hm1))
  ·refine .inr (I02 k1 (I12 cl h1 (I12 o (hk _ _ (fun n=>?_) ho) r')))
   rcases k1 with k1 | k1
   ·exact hO _ n (.inr (I12 x k1 h1))
   ·exact hF x cl k1 h1 n
 hp:=⟨fun a o ha=>⟨(R.hp.obj a o ha).1.keep (fun qa z=>z) (fun b o z e=>hk b o (fun n=>hZ b n z) e) (fun o' e=>hk a o' (fun n=>hH a n o ha) e),(R.hp.obj a o ha).2⟩,R.hp.nodup⟩
 hpOff:=R.hpOff
noncomputable def TurnK (J:St→Prop) (k:FV→St→Prop) (f:FV) (σ:St):Prop :=
 match f with
 | .next | .cont=>∃ τ,σ.le τ∧J τ
 | .brk=>k .next σ
 | .ret X=>k (.ret X) σ
theorem Rel.freeze {Z P:Addr→Prop} {env:Env} {σ:St} {h:Heap} (R:Rel c Z P env σ h) {N:Addr→Prop} (hN:∀ b,N b→(∃ o,h.get? b=some o)∧¬ P b∧¬ OwnA env b∧∀ o,(b,o)∉σ.hp):Rel c (fun b=>Z b∨N b) P env σ h :=
 { R with
  inv:=⟨fun b o e=>⟨.inl (R.inv.ground b o e).1,(R.inv.ground b o e).2⟩,fun b z=>z.elim (R.inv.exZ b) fun n=>(hN b n).1,R.inv.exP,fun b z p=>z.elim (fun z=>R.inv.off b z p) fun n=>(hN b n).2.1 p,.inl R.inv.sys,R.inv.top,R.inv.tp,fun q hq=>⟨.inl (R.inv.tab q hq).1,(R.inv.tab q hq).2⟩⟩
  own:=fun b hb=>⟨fun z=>z.elim (R.own b hb).1 fun n=>(hN b n).2.2.1 hb,(R.own b hb).2⟩
  vars:=fun x X e=>let ⟨v,hv,r⟩:=R.vars x X e; (I12 v hv (r.more fun qa z=>.inl z))
  hp:=⟨fun a o ha=>(I03 ((R.hp.obj a o ha).1.keep (fun qa z=>.inl z) (fun qa qb qc e=>e) (fun qa e=>e)) (fun z=>z.elim (R.hp.obj a o ha).2.1 fun n=>(hN a n).2.2.2 o ha) ((R.hp.obj a o ha).2.2)),R.hp.nodup⟩ }
structure Iter (c:Cx) (A:Around) (target:Expr) (I:Addr) (fp:List Addr) (xs:List V) (Stt:Nat→Heap→Prop) (Z₀:Addr→Prop) (h₀:Heap):Prop where
 frame:∀ i h h',Stt i h→(∀ b∈fp,∀ o,h.get? b=some o→h'.get? b=some o)→Stt i h'
 ex:∀ i h,Stt i h→∃ o,h.get? I=some o
 item:∀ i X (s:Shared) (Z':Addr→Prop) (Q:Value→Shared→Prop) (E:Value→Shared→Prop),xs[i]?=some X→Stt i s.heap→(∀ b,Z₀ b→Z' b)→(∀ b o,Z₀ b→h₀.get? b=some o→s.heap.get? b=some o) →
  (∀ v h' tk (N:Addr→Prop),Stt (i + 1) h'→(∀ b o,b≠I→s.heap.get? b=some o→h'.get? b=some o)→(∀ b,N b→s.heap.get? b=none∧∃ o,h'.get? b=some o)→Rd c (fun b=>Z' b∨N b) h' X v→Q v { s with heap:=h',toks:=tk }) →
  wpAny c.M A (pyNext (.ref I)) (fun r s₁=>match r with | none=>False | some v=>wpAny c.M A (letOwnedTupleGo target (.ref I) v) (fun qa s₂=>Q v s₂) E s₁) E s
 done:∀ (s:Shared) (Q:Option Value→Shared→Prop) (E:Value→Shared→Prop),Stt xs.length s.heap→(∀ h' tk,(∀ b o,b≠I→s.heap.get? b=some o→h'.get? b=some o)→Q none { s with heap:=h',toks:=tk })→wpAny c.M A (pyNext (.ref I)) Q E s
 self:∀ i (s:Shared) (Q:Value→Shared→Prop) (E:Value→Shared→Prop),Stt i s.heap→Q (.ref I) s→wpAny c.M A (pyIter (.ref I)) Q E s
theorem loop_core {target:Expr} {body:List Stmt} {xs:List V} {I:Addr} {fp:List Addr} {Stt:Nat→Heap→Prop} {H:Addr→Prop} {k:FV→St→Prop} {s:Shared} {σ₀:St}
  (J:List V→St→Prop) (hA:AOk A) (W:Iter c A target I fp xs Stt Z s.heap)
  (hfp:∀ b∈fp,b=I∨Z b∨H b) (hHI:¬ H I)
  (hst:Stt 0 s.heap) (R:Rel c Z P env σ₀ s.heap) (hPI:¬ P I) (hZI:¬ Z I) (hOI:¬ OwnA env I) (hHI':∀ o,(I,o)∉σ₀.hp)
  (hH:∀ b,H b→(∃ o,s.heap.get? b=some o)∧¬ Z b∧¬ OwnA env b∧∀ o,(b,o)∉σ₀.hp) (hHT:∀ b,H b→¬ isT b)
  (hj:J xs σ₀)
  (turn:∀ X rest τ,J (X::rest) τ→WA c A env τ target X fun τ₁=>WSs c A env τ₁ body (TurnK (J rest) k))
  (done:∀ τ,J [] τ→k .next τ) :
  codeAny c.M A (.forLoop target (.ref I) body [] env) (fun r s'=>match r with | .ok f=>∃ Z' fv τ,Step Z (fun b=>P b∨H b) (cr s) Z' (cr s')∧Rel c Z' (fun b=>P b∨H b) env τ s'.heap∧RF c Z' s'.heap fv f∧k fv τ | .error _=>False) s:=by
 have hfree:=R.freeP
 have hTP:=R.inv.tp
 have hIT:¬ isT I:=R.inv.nT hPI
 have offT:∀ b,b=I→¬ isT b:=fun b e=>e▸hIT
 have hTP':∀ q∈tabs,P q.2∨H q.2:=fun q hq=>.inl (hTP q hq)
 have hH':∀ b,H b→b≠I:=fun b hb e=>hHI (e▸hb)
 let P₁:Addr→Prop:=fun b=>P b∨(b=I∨H b)
 have hexI:∃ o,s.heap.get? I=some o:=W.ex 0 _ hst
 have R₁:Rel c Z P₁ env σ₀ s.heap:=R.protect fun b hb=>by
  rcases hb with rfl | hb
  ·exact (I04 hexI hZI hOI hHI')
  ·exact hH b hb
 have key:=codeAny_forLoop_any (prog:=c.prog) (w:=c.w) (A:=A) (s:=s) (target:=target) (it:=.ref I) (body:=body) (orelse:=[]) (env:=env)
  (R:=fun r s'=>match r with | .ok f=>∃ Z' fv τ,Step Z (fun b=>P b∨H b) (cr s) Z' (cr s')∧Rel c Z' (fun b=>P b∨H b) env τ s'.heap∧RF c Z' s'.heap fv f∧k fv τ | .error _=>False)
  (fun n s'=>∃ i Z' τ,n=xs.length + 1 - i∧i≤xs.length∧Step Z (fun b=>P b∨H b) (cr s) Z' (cr s')∧Rel c Z' P₁ env τ s'.heap∧Stt i s'.heap∧J (xs.drop i) τ)
  ?_ (xs.length + 1) ⟨0,Z,σ₀,rfl,Nat.zero_le _,Step.refl ..,R₁,hst,hj⟩
 ·exact key
 rintro n s' ⟨i,Z',τ,rfl,hi,S',R',hst',hj'⟩
 have hPP:∀ b,(P b∨H b)→P₁ b:=fun b p=>p.elim .inl fun x=>.inr (.inr x)
 have hfree':∀ x cl,env.kindOf x=some .free→env.cells.lookup x=some cl→P cl∨H cl:=fun x cl h1 h2=>.inl (hfree x cl h1 h2)
 have offI:∀ b,b=I→¬ Z' b:=by rintro b rfl z; exact R'.inv.off _ z (.inr (.inl rfl))
 have offO:∀ b,b=I→¬ OwnA env b:=by rintro b rfl o; exact (R'.own _ o).2 (.inr (.inl rfl))
 have offH:∀ b,b=I→∀ o,(b,o)∉τ.hp:=by rintro b rfl o ho; exact (R'.hp.obj _ o ho).2.2 (.inr (.inl rfl))
 have offF:∀ x cl,env.kindOf x=some .free→env.cells.lookup x=some cl→¬ cl=I:=fun x cl h1 h2 e=>hPI (e▸hfree x cl h1 h2)
 have ext:∀ h₁:Heap,(∀ b o,b≠I→s'.heap.get? b=some o→h₁.get? b=some o)→Step Z (fun b=>P b∨H b) (cr s) Z' (cr { s' with heap:=h₁ }):=fun h₁ hk =>
  ⟨S'.grow,fun b o z e=>hk b o (by rintro rfl; exact hZI z) (S'.keepZ b o z e),fun b o p n e=>hk b o (by rintro rfl; exact p.elim hPI hHI) (S'.keepP b o p n e),fun q hq t=>(S'.keepT q hq t).at (fun o e=>hk _ o (fun x=>hZI (x▸(R.inv.tab q hq).1)) e) (fun o e=>hk _ o (fun x=>hIT ⟨q,hq,x⟩) e),S'.os,S'.gens⟩
 by_cases hlt:i < xs.length
 ·obtain ⟨X,hX⟩:∃ X,xs[i]?=some X:=⟨xs[i],by simp [hlt]⟩
  refine wpAny_mono (W.item i X _ Z' (fun v s₂=>wpAny c.M A (assign target env v) (fun qa s₃=>wpAny c.M A (execs body env) (fun f s₄=>match f with
      | .next | .cont=>∃ m,m < xs.length + 1 - i∧∃ i' Z' τ,m=xs.length + 1 - i'∧i'≤xs.length∧Step Z (fun b=>P b∨H b) (cr s) Z' (cr s₄)∧Rel c Z' P₁ env τ s₄.heap∧Stt i' s₄.heap∧J (xs.drop i') τ
      | .brk=>∃ Z' fv τ,Step Z (fun b=>P b∨H b) (cr s) Z' (cr s₄)∧Rel c Z' (fun b=>P b∨H b) env τ s₄.heap∧RF c Z' s₄.heap fv .next∧k fv τ
      | .ret v=>∃ Z' fv τ,Step Z (fun b=>P b∨H b) (cr s) Z' (cr s₄)∧Rel c Z' (fun b=>P b∨H b) env τ s₄.heap∧RF c Z' s₄.heap fv (.ret v)∧k fv τ) (notedBy c.M A env fun qa qb=>False) s₃) (notedBy c.M A env fun qa qb=>False) s₂)
    (notedBy c.M A env fun qa qb=>False) hX hst' S'.grow S'.keepZ ?_) ?_ fun qa qb x=>x
  rotate_left
  ·intro r s₁ hr
   cases r with
   | none=>exact hr.elim
   | some v=>exact hr
  intro v h₁ tk₁ N hst₁ hk₁ hN rX
  have hkI:=W.ex _ _ hst₁
  have R₀:Rel c Z' P₁ env τ h₁:=R'.but (N:=fun b=>b=I) (fun b o n e=>hk₁ b o n e) offT offI offO offH (fun b qa n=>n▸hkI) offF
  have hN':∀ b,N b→b≠I:=fun b hb e=>by
   obtain ⟨o,ho⟩:=W.ex _ _ hst'
   have:=(hN b hb).1
   rw [e] at this
   rw [ho] at this; cases this
  have hNn:∀ b,N b→s'.heap.get? b=none:=fun b hb=>(hN b hb).1
  have R₁':Rel c (fun b=>Z' b∨N b) P₁ env τ h₁:=R₀.freeze fun b hb=>by
   refine (I04 ((hN b hb).2) (fun p=>?_) (fun o=>?_) (fun o ho=>?_))
   ·obtain ⟨o,e⟩:=R'.inv.exP b p
    rw [hNn b hb] at e; cases e
   ·rcases o with rfl | ⟨x,h1,h2⟩
    ·refine E42 R'.ns fun m o es ep ho qa=>?_
     rw [hNn _ hb] at ho; cases ho
    ·refine E22 (R'.cells x h1) fun cl v h3 z3=>?_; obtain ⟨o,ho,_⟩:=z3
     rw [h2] at h3; cases h3
     rw [hNn _ hb] at ho; cases ho
   ·obtain ⟨ob,e⟩:=(R'.hp.obj b o ho).1.some
    rw [hNn b hb] at e; cases e
  have S₁:Step Z (fun b=>P b∨H b) (cr s) (fun b=>Z' b∨N b) (cr { s' with heap:=h₁ }):=let x:=ext h₁ hk₁; ⟨fun b z=>.inl (x.grow b z),x.keepZ,x.keepP,x.keepT,x.os,x.gens⟩
  have hd:xs.drop i=X::xs.drop (i + 1):=by
   rw [List.drop_eq_getElem_cons hlt]
   rw [List.getElem?_eq_getElem hlt] at hX; cases hX; rfl
  rw [hd] at hj'
  refine wpAny_mono (turn X _ τ hj' hA _ P₁ { s' with heap:=h₁,toks:=tk₁ } v R₁' rX) ?_ fun qa qb x=>x.elim
  refine fun qa s₂=>R34 fun Z₂ qa τ₂ S₂ R₂ qb k₂=>?_
  refine wp_then k₂ hA R₂ fun Z₃ s₃ fv τ₃ f S₃ R₃ rf k₃=>?_
  have S₂₃:=S₂.trans S₃
  have hSt:Stt (i + 1) s₃.heap:=W.frame _ _ _ hst₁ fun b hb o e=>by
   rcases hfp b hb with rfl | z | hh
   ·exact S₂₃.keepP _ o (.inr (.inl rfl)) hIT e
   ·exact S₂₃.keepZ _ o (.inl (S'.grow b z)) e
   ·exact S₂₃.keepP _ o (.inr (.inr hh)) (hHT _ hh) e
  have S₄:Step Z (fun b=>P b∨H b) (cr s) Z₃ (cr s₃):=⟨fun b z=>S₂₃.grow b (S₁.grow b z),fun b o z e=>S₂₃.keepZ b o (S₁.grow b z) (S₁.keepZ b o z e),fun b o p n e=>S₂₃.keepP b o (p.elim .inl fun x=>.inr (.inr x)) n (S₁.keepP b o p n e),fun q hq t=>S₂₃.keepT q hq (S₁.keepT q hq t),S₂₃.os.trans S₁.os,S₁.gens.trans S₂₃.gens⟩
  have next:TurnK (J (xs.drop (i + 1))) k .next τ₃→∃ m,m < xs.length + 1 - i∧∃ i' Z' τ,m=xs.length + 1 - i'∧i'≤xs.length∧Step Z (fun b=>P b∨H b) (cr s) Z' (cr s₃)∧Rel c Z' P₁ env τ s₃.heap∧Stt i' s₃.heap∧J (xs.drop i') τ:=by
   refine R12 fun τ' hle hj=>?_
   exact (I12 (xs.length + 1 - (i + 1)) (dec1 hlt) ⟨i + 1,Z₃,τ',rfl,hlt,S₄,R₃.le hle,hSt,hj⟩)
  cases rf with
  | next=>exact next k₃
  | cont=>exact next k₃
  | brk=>exact (fin_mk S₄ (R₃.unprotect hTP' hPP hfree') .next k₃)
  | ret r=>exact (fin_mk S₄ (R₃.unprotect hTP' hPP hfree') (.ret r) k₃)
 ·have hin:i=xs.length:=oe hi hlt
  subst hin
  refine W.done _ _ _ hst' fun h₁ tk₁ hk₁=>?_
  refine wpAny_execs_nil ?_
  have S₁:=ext h₁ hk₁
  rw [List.drop_length] at hj'
  have Rp:Rel c Z' (fun b=>P b∨H b) env τ s'.heap:=R'.unprotect hTP' hPP hfree'
  have R₁':Rel c Z' (fun b=>P b∨H b) env τ h₁:=Rp.but (N:=fun b=>b=I) (fun b o n e=>hk₁ b o n e) offT offI offO offH (fun b p n=>absurd p (n▸fun x=>x.elim hPI hHI)) offF
  exact (fin_mk S₁ R₁' .next (done τ hj'))
end
end Mine
end
noncomputable section
namespace Mine
open PySem PySem.SeqAt
noncomputable def plainTarget:Expr→Bool
 | .Name ..=>true
 | .Tuple ..=>true
 | _=>false
noncomputable def ownTupleIters:List String:=["enumerate","zip","dict_itemiterator","dict_reverseitemiterator","odict_iterator","itertools.zip_longest","itertools.pairwise"]
section
variable {c:Cx} {A:Around}
theorem entry_itemiter_iter:entryFor table "dict_itemiterator.__iter__" = some Builtin.«dict_keyiterator.__iter__» :=
 entryFor_alias (id':="dict_keyiterator.__iter__") (by kernel_rfl) rfl (by decide +kernel) (by kernel_rfl)
theorem wpAny_pyIter_itemiter {it d:Addr} {i n ep:Nat} {ok ov:Value} {s:Shared} {E:Value→Shared→Prop} {Q:Value→Shared→Prop} (hit:IsItemIter s.heap it d i n ep ok ov) (h:Q (.ref it) s):wpAny c.M A (pyIter (.ref it)) Q E s:=by
 have hT:s.TypeIs (.ref it) "dict_itemiterator" := (I12 _ hit rfl)
 refine wpAny_pyIter_slot hT F.slot_dict_itemiterator_iter (wpAny_call_entry F.slot_dict_itemiterator_iter hT entry_itemiter_iter ?_ (F.args_dict_itemiterator_iter_1 _))
 show wpAny _ _ (ret (.ref it)) _ _ s
 exact wpAny_pure (I12 _ rfl (I23 "dict_itemiterator" _ hT F.slot_dict_itemiterator_next.lookup h))
theorem go_plain {target:Expr} {I:Addr} {v:Value} {s:Shared} {Q:Unit→Shared→Prop} {E:Value→Shared→Prop} {o:Obj} {T:String} (ht:plainTarget target=true) (ho:s.heap.get? I=some o) (hc:o.cls=.type T)
  (hT:ownTupleIters.contains T=false) (h:Q () s):wpAny c.M A (letOwnedTupleGo target (.ref I) v) Q E s:=by
 cases target <;> first | (cases ht; done) | skip
 ·exact wpAny_pure h
 ·unfold letOwnedTupleGo
  cases v <;> try exact wpAny_pure h
  refine wpAny_bind (wpAny_load ho ?_)
  rw [hc]
  cases hd:o.data <;> try exact wpAny_pure h
  dsimp only
  unfold ownTupleIters at hT
  rw [hT]
  simp only [Bool.false_and,Bool.false_eq_true,if_false]
  exact wpAny_pure h
theorem Iter.ofWalks {target:Expr} {I:Addr} {fp:List Addr} {n:Nat} {Pv:Nat→Value→Prop} {Stt:Nat→Heap→Prop} {xs:List V} {Z:Addr→Prop} {h:Heap} {T:String}
  (W:Walks c.prog c.w A I fp [I] n Pv Stt) (hn:n=xs.length) (hI:∀ i h,Stt i h→∃ o,h.get? I=some o∧o.cls=.type T) (ht:plainTarget target=true) (hT:ownTupleIters.contains T=false)
  (hitem:∀ i v,Pv i v→∃ X,xs[i]?=some X∧Rd c Z h X v) (hz:¬ Z I):Iter c A target I fp xs Stt Z h where
 frame:=W.frame
 ex:=fun i h st=>let ⟨o,ho,_⟩:=hI i h st; ⟨o,ho⟩
 item:=fun i X s Z' Q E hX st hZ hk hQ=>by
  have hi:i < n:=by rw [hn]; exact (List.getElem?_eq_some_iff.mp hX).1
  refine W.item i s _ _ hi st fun v h' tk hv st' hk'=>?_
  refine E12 (hitem i v hv) fun X' hX' r=>?_
  rw [hX] at hX'; cases hX'
  refine E12 (hI _ _ st') fun o ho hc=>?_
  refine go_plain (s:={ s with heap:=h',toks:=tk }) ht ho hc hT (hQ v h' tk (fun qa=>False) st' (fun b o hb e=>hk' b o (by simpa using hb) e) (fun qa f=>f.elim) ?_)
  exact r.keep (fun b z=>.inl (hZ b z)) fun b o z e=>hk' b o (by simp; rintro rfl; exact hz z) (hk b o z e)
 done:=fun s Q E st hQ=>W.done s Q E (hn▸st) fun h' tk hk'=>hQ h' tk fun b o hb e=>hk' b o (by simpa using hb) e
 self:=W.self
structure Seq (c:Cx) (A:Around) (target:Expr) (Z:Addr→Prop) (s:Shared) (v:Value) (H:Addr→Prop) (xs:List V):Prop where
 run:∀ (Q:Value→Shared→Prop) (E:Value→Shared→Prop),(∀ (h':Heap) (tk:Nat) (dr:Drawn) (I:Addr) (fp:List Addr) (Stt:Nat→Heap→Prop) (ys:List V),Kp s.heap h'→s.heap.get? I=none→(∃ o,h'.get? I=some o)→(∀ b∈fp,b=I∨Z b∨H b) →
   Stt 0 h'→ys.Perm xs→Iter c A target I fp ys Stt Z h'→Q (.ref I) { s with heap:=h',toks:=tk,drawn:=dr })→wpAny c.M A (pyIter v) Q E s
structure SeqO (c:Cx) (A:Around) (target:Expr) (Z:Addr→Prop) (s:Shared) (v:Value) (H:Addr→Prop) (xs:List V):Prop where
 run:∀ (Q:Value→Shared→Prop) (E:Value→Shared→Prop),(∀ (h':Heap) (tk:Nat) (dr:Drawn) (I:Addr) (fp:List Addr) (Stt:Nat→Heap→Prop),Kp s.heap h'→s.heap.get? I=none→(∃ o,h'.get? I=some o)→(∀ b∈fp,b=I∨Z b∨H b) →
   Stt 0 h'→Iter c A target I fp xs Stt Z h'→Q (.ref I) { s with heap:=h',toks:=tk,drawn:=dr })→wpAny c.M A (pyIter v) Q E s
theorem SeqO.lst {target:Expr} {Z H:Addr→Prop} {s:Shared} {a:Addr} {xs:List V} {items:Array Value} (hA:AOk A) (ht:plainTarget target=true) (hl:s.heap.IsList a items) (r:RdL c Z s.heap xs items.toList) (hz:Z a∨H a) (hZ:∀ b,Z b→∃ o,s.heap.get? b=some o) :
  SeqO c A target Z s (.ref a) H xs:=⟨fun Q E hQ=>by
 have hne:a≠s.heap.objs.size:=by
  refine E12 hl fun o ho qa=>?_; clear hl
  exact Nat.ne_of_lt (Heap.lt_size ho)
 refine wpAny_pyIter_list hl (hQ _ s.toks s.drawn s.heap.objs.size [s.heap.objs.size,a] (fun i h=>h.IsListIter s.heap.objs.size a i∧h.IsList a items) (Kp.push _ _) (fresh_none _ _ (Nat.le_refl _)) ⟨_,Heap.get?_push_size _ rfl⟩ ?_ ⟨(I13 _ (Heap.get?_push_size _ rfl) rfl rfl),hl.push _⟩ ?_)
 ·intro b hb
  rcases List.mem_cons.mp hb with rfl | hb
  ·exact .inl rfl
  ·exact .inr ((List.mem_singleton.mp hb)▸hz)
 ·refine Iter.ofWalks (T:="list_iterator") (Walks.list hA.handled _ a hne items) ?_ ?_ ht (by decide) ?_ ?_
  ·have:=r.length; simpa using this.symm
  ·rintro i h ⟨⟨o,ho,hc,_⟩,_⟩; exact (I12 o ho hc)
  ·intro i v hv
   refine E12 (r.get' i v (by simpa using hv)) fun X hX rX=>?_
   exact (I12 X hX (rX.kp (Kp.push _ _)))
  ·intro z; obtain ⟨o,ho⟩:=hZ _ z; exact absurd (Heap.lt_size ho) (Nat.lt_irrefl _)⟩
theorem SeqO.keys {target:Expr} {Z H:Addr→Prop} {s:Shared} {d:Addr} {kvs:List (Str×Value)} {ep:Nat} (hA:A.handled=none) (ht:plainTarget target=true) (hs:(d == sysModules)=false) (hd:s.heap.DictAt c.K d kvs ep) (hz:Z d∨H d) (hZ:∀ b,Z b→∃ o,s.heap.get? b=some o) :
  SeqO c A target Z s (.ref d) H (kvs.map fun e=>V.str e.1):=⟨fun Q E hQ=>by
 have hne:d≠s.heap.objs.size:=Nat.ne_of_lt hd.lt_size
 refine wpAny_pyIter_dict hs hd (hQ _ s.toks s.drawn s.heap.objs.size [s.heap.objs.size,d] (fun i h=>h.IsKeyIter s.heap.objs.size d i kvs.length ep∧h.DictAt c.K d kvs ep) (Kp.push _ _) (fresh_none _ _ (Nat.le_refl _)) ⟨_,Heap.get?_push_size _ rfl⟩ ?_ ⟨(I13 _ (Heap.get?_push_size _ rfl) rfl rfl),hd.push _⟩ ?_)
 ·intro b hb
  rcases List.mem_cons.mp hb with rfl | hb
  ·exact .inl rfl
  ·exact .inr ((List.mem_singleton.mp hb)▸hz)
 ·refine Iter.ofWalks (T:="dict_keyiterator") (Walks.dictKeys hA _ d hne kvs ep) (by simp) ?_ ht (by decide) ?_ ?_
  ·rintro i h ⟨⟨o,ho,hc,_⟩,_⟩; exact (I12 o ho hc)
  ·refine fun i v=>R22 fun k x hx hk=>?_
   refine (I12 (.str k) (by simp [hx]) ?_)
   obtain ⟨t,rfl⟩:=Value.isStrOf_shape hk
   exact .str _ _
  ·intro z; obtain ⟨o,ho⟩:=hZ _ z; exact absurd (Heap.lt_size ho) (Nat.lt_irrefl _)⟩
theorem SeqO.items {elts:List Expr} {n:Nat} {pos:Pos} {Z H:Addr→Prop} {s:Shared} {vw d:Addr} {kvs:List (Str×Value)} {Xs:List V} {ep:Nat} (hA:AOk A) (hv:s.heap.IsItemsView vw d) (hd:s.heap.DictAt c.K d kvs ep)
  (r:RdL c Z s.heap Xs (kvs.map (·.2))) (hz:Z d∨H d) (hZ:∀ b,Z b→∃ o,s.heap.get? b=some o) :
  SeqO c A (.Tuple elts n pos) Z s (.ref vw) H ((kvs.map (·.1)).zipWith (fun k X=>V.tup [.str k,X]) Xs):=⟨fun Q E hQ=>by
 have hne:d≠s.heap.objs.size:=Nat.ne_of_lt hd.lt_size
 have hl:=r.length
 simp only [List.length_map] at hl
 have hlen:((kvs.map (·.1)).zipWith (fun k X=>V.tup [.str k,X]) Xs).length=kvs.length:=by simp [hl]
 refine wpAny_pyIter_items hv hd (hQ _ s.toks s.drawn s.heap.objs.size [s.heap.objs.size,d] (fun i h=>(∃ ok ov,IsItemIter h s.heap.objs.size d i kvs.length ep ok ov)∧h.DictAt c.K d kvs ep) (Kp.push _ _) (fresh_none _ _ (Nat.le_refl _)) ⟨_,Heap.get?_push_size _ rfl⟩ ?_ ⟨(I21 _ _ (Heap.get?_push_size _ rfl)),hd.push _⟩ ?_)
 ·intro b hb
  rcases List.mem_cons.mp hb with rfl | hb
  ·exact .inl rfl
  ·exact .inr ((List.mem_singleton.mp hb)▸hz)
 ·have hzI:¬ Z s.heap.objs.size:=fun z=>by obtain ⟨o,ho⟩:=hZ _ z; exact absurd (Heap.lt_size ho) (Nat.lt_irrefl _)
  refine ⟨?_,?_,?_,?_,?_⟩
  ·rintro i h h' ⟨⟨ok,ov,h1⟩,h2⟩ hk
   exact ⟨(I21 ok ov (hk _ (by simp) _ h1)),h2.at' fun o e=>hk _ (by simp) _ e⟩
  ·rintro i h ⟨⟨ok,ov,h1⟩,h2⟩; exact ⟨_,h1⟩
  ·rintro i X s' Z' Q' E' hX ⟨⟨ok,ov,h1⟩,h2⟩ hZ' hk' hQ'
   have hi:i < kvs.length:=by rw [← hlen]; exact (List.getElem?_eq_some_iff.mp hX).1
   obtain ⟨⟨k,v⟩,hkv⟩:∃ p,kvs[i]?=some p:=⟨kvs[i],by simp [hi]⟩
   refine E12 (r.get' i v (by simp [hkv])) fun Y hY rY=>?_
   have eX:X=V.tup [.str k,Y]:=by
    rw [List.getElem?_zipWith] at hX
    simp [hkv,hY] at hX
    exact hX.symm
   subst eX
   refine wpAny_pyNext_items_item h1 h2 hkv fun key h' hkey hout htup hsz hk1=>?_
   refine wpAny_letOwnedTupleGo_items (s:={ s' with heap:=h' }) hout fun h'' hit'' hs''=>?_
   have hne':s'.heap.objs.size≠s.heap.objs.size:=by
    intro e; have:=Heap.lt_size h1; rw [e] at this; exact Nat.lt_irrefl _ this
   have hkeep:∀ b o,b≠s.heap.objs.size→s'.heap.get? b=some o→h''.get? b=some o:=fun b o hb e=>hs''.extBut b o hb (hk1 b o hb e)
   have ht2:h''.get? s'.heap.objs.size=some { cls:=.type "tuple", data:=.seq #[key,v] }:=hs''.extBut _ _ hne' htup
   refine hQ' _ h'' s'.toks (fun b=>b=s'.heap.objs.size) ⟨(I21 _ _ hit''),h2.at' fun o e=>hkeep _ o hne e⟩ hkeep (by rintro b rfl; exact (I02 (fresh_none _ _ (Nat.le_refl _)) (I11 _ ht2))) ?_
   obtain ⟨t,rfl⟩:=Value.isStrOf_shape hkey
   refine .tup (.inr rfl) ⟨0,ht2⟩ (.cons (.str _ _) (.cons ?_ .nil))
   exact (rY.kp (Kp.push _ _)).keep (fun b z=>.inl (hZ' b z)) fun b o z e=>hkeep b o (fun e'=>hzI (e'▸z)) (hk' b o z e)
  ·rintro s' Q' E' ⟨⟨ok,ov,h1⟩,h2⟩ hQ'
   rw [hlen] at h1
   exact wpAny_pyNext_items_end hA.handled h1 h2 (by simp) fun h' he=>hQ' h' s'.toks fun b o hb e=>he b o hb e
  ·rintro i s' Q' E' ⟨⟨ok,ov,h1⟩,h2⟩ hQ'
   exact wpAny_pyIter_itemiter h1 hQ'⟩
end
end Mine
end
noncomputable section
set_option maxRecDepth 100000
namespace Mine
open PySem PySem.SeqAt
theorem entry_set_iter:entryFor table "set.__iter__" = some Builtin.«frozenset.__iter__» :=
 entryFor_alias (id':="frozenset.__iter__") (by kernel_rfl) rfl (by decide +kernel) (by kernel_rfl)
theorem slot_setiter_next:Slot "set_iterator" "__next__" "set_iterator.__next__" :=
 .of (owner:="set_iterator") (n:="__next__") (by rw [typeLookup_type,builtinLookup_eq_fast]; kernel_rfl) (by decide +kernel) (by decide +kernel) (by decide +kernel)
  (by first | exact .inl (by decide +kernel) | exact .inr (by decide +kernel)) (by rw [isSubtype_type]; kernel_rfl)
theorem slot_setiter_iter:Slot "set_iterator" "__iter__" "set_iterator.__iter__" :=
 .of (owner:="set_iterator") (n:="__iter__") (by rw [typeLookup_type,builtinLookup_eq_fast]; kernel_rfl) (by decide +kernel) (by decide +kernel) (by decide +kernel)
  (by first | exact .inl (by decide +kernel) | exact .inr (by decide +kernel)) (by rw [isSubtype_type]; kernel_rfl)
theorem entry_setiter_next:entryFor table "set_iterator.__next__" = some Builtin.«set_iterator.__next__»:=entryFor_of_tree (by kernel_rfl)
theorem owner_setiter:Manifest.owners.lookup (String.ofList ['r','o','t','a','r','e','t','i','_','t','e','s'].reverse)=some Manifest.sig_set_iterator:=by kernel_rfl
theorem args_setiter_next (a:Value):argsOk "set_iterator.__next__" ⟨[a],[]⟩:=by
 unfold argsOk; rw [signature?_of (id:="set_iterator.__next__") (n:=['_','_','t','x','e','n','_','_']) (o:=['r','o','t','a','r','e','t','i','_','t','e','s']) (by kernel_rfl) owner_setiter]; kernel_rfl
theorem args_setiter_iter (a:Value):argsOk "set_iterator.__iter__" ⟨[a],[]⟩:=by
 unfold argsOk; rw [signature?_of (id:="set_iterator.__iter__") (n:=['_','_','r','e','t','i','_','_']) (o:=['r','o','t','a','r','e','t','i','_','t','e','s']) (by kernel_rfl) owner_setiter]; kernel_rfl
theorem entry_setiter_iter:entryFor table "set_iterator.__iter__" = some Builtin.«dict_keyiterator.__iter__» :=
 entryFor_alias (id':="dict_keyiterator.__iter__") (by kernel_rfl) rfl (by decide +kernel) (by kernel_rfl)
theorem choose_any {M:Model} {A:Around} {E:Value→Shared→Prop} {s:Shared} {src:Source} {n:Nat} {Q:Nat→Shared→Prop} (hn:n≠0) (h:∀ i dr,i < n→Q i { s with drawn:=dr }):wpAny M A (choose src n) Q E s:=by
 intro Γ p _
 exact ⟨hn,h _ _ (Nat.mod_lt _ (Nat.pos_of_ne_zero hn))⟩
theorem perm_eraseIdx {α:Type}:∀ (l:List α) (i:Nat) (x:α),l[i]?=some x→List.Perm (x::l.eraseIdx i) l
 | [],i,x,h=>by simp at h
 | y::l,0,x,h=>by simp at h; subst h; simpa using List.Perm.refl _
 | y::l,i + 1,x,h=>by
  simp at h
  rw [List.eraseIdx_cons_succ]
  exact (List.Perm.swap _ _ _).trans ((perm_eraseIdx l i x h).cons y)
theorem drawOrder_any {α:Type} {M:Model} {A:Around} {E:Value→Shared→Prop}:∀ (n:Nat) (xs:List α) (s:Shared) (Q:List α→Shared→Prop),n=xs.length→(∀ ys dr,ys.Perm xs→Q ys { s with drawn:=dr })→wpAny M A (drawOrder n xs) Q E s
 | 0,xs,s,Q,hn,h=>by
  have:xs=[]:=List.length_eq_zero_iff.mp hn.symm
  subst this
  exact wpAny_pure (h [] s.drawn (.refl _))
 | n + 1,[],s,Q,hn,h=>by simp at hn
 | n + 1,x::xs,s,Q,hn,h=>by
  unfold drawOrder
  refine wpAny_bind (choose_any (by simp) fun i dr hi=>?_)
  have hx:(x::xs)[i]?=some (x::xs)[i]:=List.getElem?_eq_getElem hi
  rw [hx]
  refine wpAny_bind (drawOrder_any n ((x::xs).eraseIdx i) _ _ ?_ fun ys dr' hp=>wpAny_pure ?_)
  ·rw [List.length_eraseIdx_of_lt hi]; simp at hn ⊢; exact hn
  ·exact h _ dr' ((hp.cons _).trans (perm_eraseIdx _ i _ hx))
theorem pickGo_perm {α:Type} (next:Nat→Nat):∀ (n k:Nat) (left:List α) (out:Array α),n=left.length→List.Perm (pickOrder.go next n k left out).toList (out.toList++left)
 | 0,k,left,out,h=>by
  have:left=[]:=List.length_eq_zero_iff.mp h.symm
  subst this; unfold pickOrder.go; simp
 | n + 1,k,left,out,h=>by
  unfold pickOrder.go
  have hi:next k % left.length < left.length:=Nat.mod_lt _ (h▸Nat.succ_pos n)
  have hx:left[next k % left.length]?=some left[next k % left.length]:=List.getElem?_eq_getElem hi
  rw [hx]
  dsimp only
  refine (pickGo_perm next n (k + 1) _ _ (by rw [List.length_eraseIdx_of_lt hi,← h]; rfl)).trans ?_
  rw [Array.toList_push,List.append_assoc]
  exact (perm_eraseIdx _ _ _ hx).append_left _
theorem pickOrder_perm {α:Type} (next:Nat→Nat) (xs:Array α):List.Perm (pickOrder next xs).toList xs.toList:=by
 unfold pickOrder
 simpa using pickGo_perm next xs.size 0 xs.toList #[] (by simp)
noncomputable def IsSetIter (h:Heap) (I:Addr) (first:Value) (i:Nat) (a:Addr) (n ep:Nat):Prop :=
 h.get? I=some { cls:=.type "set_iterator", data:=.fields #[first,.int i 0,.ref a,.int n 0,.int ep 0] }
section
variable {c:Cx} {A:Around} {s:Shared} {E:Value→Shared→Prop}
theorem setiter_self {I a:Addr} {first:Value} {i n ep:Nat} {Q:Value→Shared→Prop} (hit:IsSetIter s.heap I first i a n ep) (h:Q (.ref I) s):wpAny c.M A (pyIter (.ref I)) Q E s:=by
 have hT:s.TypeIs (.ref I) "set_iterator" := (I12 _ hit rfl)
 refine wpAny_pyIter_slot hT slot_setiter_iter (wpAny_call_entry slot_setiter_iter hT entry_setiter_iter ?_ (args_setiter_iter _))
 show wpAny _ _ (ret (.ref I)) _ _ s
 exact wpAny_pure (I12 _ rfl (I23 "set_iterator" _ hT slot_setiter_next.lookup h))
theorem stop_any {Q:Option Value→Shared→Prop} {vs:Array Value} {I:Addr} (hh:A.handled=none) (h:∀ h',Heap.ExtBut I s.heap h'→Q none { s with heap:=h' }) {h₁:Heap} (hs:Heap.ExtBut I s.heap h₁) :
  wpAny c.M A.in1 (newExc (.type "StopIteration") [] >>= fun e=>raiseNew e) (fun fin s'=>∃ r,fin=Fin.done (.ret r)∧wpAny c.M A (pure (some r)) Q E s')
   (fun e s'=>wpAny c.M A (do if ← isInstance e (.type "StopIteration") then pure none else throw e) Q E s') { s with heap:=h₁ }:=by
 refine wpAny_bind ?_
 simp only [newExc,newTuple]
 refine wpAny_bind (wpAny_newObj_type ?_ (by size_fits))
 refine wpAny_bind (m:=firstArgMember _ _) (wpAny_of_eq (a:=Value.none) (by first | rfl | (simp only [firstArgMember]; rfl)) ?_)
 refine wpAny_newObj_type ?_ (by size_fits)
 simp only [raiseNew]
 refine wpAny_bind (wpAny_handled ?_)
 rw [show A.in1.handled=none from hh]
 refine wpAny_bind (wpAny_pure (wpAny_throw ?_))
 refine wpAny_bind (wpAny_isInstance (T:="StopIteration") (b:=true) (I12 _ (Heap.get?_push_size _ rfl) rfl) isSubtype_stop ?_)
 exact wpAny_pure (h _ ((hs.push _).push _))
end
end Mine
end
noncomputable section
namespace Mine
open PySem PySem.SeqAt
section
variable {c:Cx} {A:Around} {s:Shared} {E:Value→Shared→Prop}
structure SetAt (c:Cx) (h:Heap) (a:Addr) (o:Obj) (es:Array (Int×Value)) (ep:Nat) (t:SetTable) (ks:List Str):Prop where
 get:h.get? a=some o
 exact':o.ExactSet
 data:o.data=.set es ep t
 keys:All2 (SE c) es.toList ks
 fits:t.fits es.size=true
 led:t.led=true∨c.w.params.followText "set-order" = true
 plain:es.size≠0→t.plain=false
theorem SetAt.at {h h':Heap} {a o es ep t ks} (x:SetAt c h a o es ep t ks) (e:∀ o,h.get? a=some o→h'.get? a=some o):SetAt c h' a o es ep t ks:={ x with get:=e _ x.get }
theorem byText_any {Q:Bool→Shared→Prop} (h:Q (c.w.params.followText "set-order") s):wpAny c.M A setsByText Q E s:=by
 unfold setsByText
 exact wpAny_bind (wpAny_askSetting (wpAny_pure h))
theorem setiter_enter {I a:Addr} {first:Value} {i n ep:Nat} {Q:Option Value→Shared→Prop} (hit:IsSetIter s.heap I first i a n ep)
  (h:wpAny c.M A.in1 (Builtin.«set_iterator.__next__» ⟨[.ref I],[]⟩) (fun fin s'=>∃ r,fin=PySem.Fin.done (.ret r)∧wpAny c.M A (pure (some r)) Q E s')
   (fun e s'=>wpAny c.M A (do if ← isInstance e (.type "StopIteration") then pure none else throw e) Q E s') s):wpAny c.M A (pyNext (.ref I)) Q E s:=by
 have hT:s.TypeIs (.ref I) "set_iterator" := (I12 _ hit rfl)
 unfold pyNext
 refine wpAny_bind (wpAny_attempt (wpAny_callSpecial?_slot (name:=Str.ofString "__next__") hT slot_setiter_next (wpAny_call_entry slot_setiter_next hT entry_setiter_next ?_ (args_setiter_next _))))
 refine wpAny_mono h ?_ ?_
 ·refine fun fin s'=>R12 fun r z1 hr=>?_; subst z1
  exact (I12 r rfl hr)
 ·intro e s' he
  exact he
theorem elem_key {es:Array (Int×Value)} {ks:List Str} (h:All2 (SE c) es.toList ks) {j:Nat} {e:Int×Value} (he:es[j]?=some e):∃ k u,ks[j]?=some k∧e.2=.str k u:=by
 refine E13 (h.get j e (by simpa using he)) fun k hk h1 qa=>?_
 obtain ⟨u,hu⟩:=Value.isStrOf_shape h1
 exact (I22 k u hk hu)
theorem setField_iter {I:Addr} {vs:Array Value} {k:Nat} {x:Value} {Q:Unit→Shared→Prop} (ho:s.heap.get? I=some { cls:=.type "set_iterator", data:=.fields vs }) (hk:k < vs.size)
  (h:∀ h',h'.get? I=some { cls:=.type "set_iterator", data:=.fields (vs.setIfInBounds k x) }→Heap.SameBut I s.heap h'→Q () { s with heap:=h' }):wpAny c.M A (setField (.ref I) k x) Q E s :=
 wpAny_setField ho rfl hk (h _ (Heap.get?_update_self _ ho rfl) (Heap.SameBut.update ..))
theorem next_drawn {I a tp:Addr} {i n ep:Nat} {o es t ks} {pl:List Nat} {j:Nat} {Q:PySem.Fin→Shared→Prop} {k:Str} {u:Tok} {h0:Int}
  (hit:IsSetIter s.heap I (.ref tp) i a n ep) (hset:SetAt c s.heap a o es ep t ks) (hn:n=es.size) (htp:PTup s.heap tp (pl.map fun (j:Nat)=>Value.int j 0).toArray)
  (hj:pl[i]?=some j) (he:es[j]?=some (h0,.str k u))
  (h:∀ h',IsSetIter h' I (.ref tp) (i + 1) a n ep→Heap.SameBut I s.heap h'→Q (PySem.Fin.done (.ret (.str k u))) { s with heap:=h' }) :
  wpAny c.M A (Builtin.«set_iterator.__next__» ⟨[.ref I],[]⟩) Q E s:=by
 subst hn
 unfold Builtin.«set_iterator.__next__»
 refine wpAny_bind (m:=slotArgs _ _ _) (wpAny_pure ?_)
 dsimp only
 refine wpAny_bind (m:=fieldsOf _) (wpAny_bind (wpAny_load hit (wpAny_pure ?_)))
 dsimp only
 refine wpAny_bind (wpAny_setEntries_of hset.get hset.data hset.fits ?_)
 simp only [bne_self_eq_false,Bool.false_eq_true,if_false]
 obtain ⟨m,htp⟩:=htp
 refine wpAny_bind (wpAny_seqItems htp rfl ?_)
 dsimp only
 have e1:((pl.map fun (j:Nat)=>Value.int j 0).toArray)[(i:Int).toNat]?=some (Value.int j 0):=by simp [hj]
 rw [e1]
 dsimp only
 refine wpAny_bind ?_
 unfold setNextDrawn
 refine wpAny_bind (wpAny_setState_of hset.get hset.data hset.fits ?_)
 dsimp only
 simp only [Int.toNat_natCast,bne_self_eq_false,Bool.false_eq_true,if_false,he]
 refine wpAny_pure ?_
 refine wpAny_bind (setField_iter hit (by simp) fun h' h1 h2=>wpAny_pure (h h' ?_ h2))
 simpa [IsSetIter,rawInt] using h1
theorem done_drawn {I a tp:Addr} {i n ep:Nat} {o es t ks} {pl:List Nat} {Q:Option Value→Shared→Prop} (hh:A.handled=none)
  (hit:IsSetIter s.heap I (.ref tp) i a n ep) (hset:SetAt c s.heap a o es ep t ks) (hn:n=es.size) (htp:PTup s.heap tp (pl.map fun (j:Nat)=>Value.int j 0).toArray)
  (hj:pl[i]?=none) (h:∀ h',Heap.ExtBut I s.heap h'→Q none { s with heap:=h' }) :
  wpAny c.M A (pyNext (.ref I)) Q E s:=by
 subst hn
 refine setiter_enter hit ?_
 unfold Builtin.«set_iterator.__next__»
 refine wpAny_bind (m:=slotArgs _ _ _) (wpAny_pure ?_)
 dsimp only
 refine wpAny_bind (m:=fieldsOf _) (wpAny_bind (wpAny_load hit (wpAny_pure ?_)))
 dsimp only
 refine wpAny_bind (wpAny_setEntries_of hset.get hset.data hset.fits ?_)
 simp only [bne_self_eq_false,Bool.false_eq_true,if_false]
 obtain ⟨m,htp⟩:=htp
 refine wpAny_bind (wpAny_seqItems htp rfl ?_)
 dsimp only
 have e1:((pl.map fun (j:Nat)=>Value.int j 0).toArray)[(i:Int).toNat]?=none:=by simpa using hj
 rw [e1]
 dsimp only
 refine wpAny_bind (setField_iter hit (by simp) fun h1 hg1 hs1=>?_)
 refine wpAny_bind (setField_iter (s:={ s with heap:=h1 }) hg1 (by simp) fun h2 hg2 hs2=>?_)
 exact stop_any (vs:=#[]) hh h (hs1.trans hs2).extBut
theorem iter_drawn {target:Expr} {Z:Addr→Prop} {h:Heap} {I a tp:Addr} {o es ep t ks} {pl:List Nat} {n:Nat} (hA:A.handled=none) (ht:plainTarget target=true) (hIa:a≠I) (htI:tp≠I) (hn:n=es.size) (hks:All2 (SE c) es.toList ks)
  (hpl:pl.Perm (List.range es.size)) :
  Iter c A target I [I,a,tp] (pl.map fun j=>V.str (ks.getD j Str.empty)) (fun i h=>IsSetIter h I (.ref tp) i a n ep∧SetAt c h a o es ep t ks∧PTup h tp (pl.map fun (j:Nat)=>Value.int j 0).toArray) Z h where
 frame:=fun i h h' st hk=>(I03 (hk I (by simp) _ st.1) (st.2.1.at fun o=>hk a (by simp) o) (st.2.2.at fun o=>hk tp (by simp) o))
 ex:=fun i h st=>⟨_,st.1⟩
 item:=fun i X s Z' Q E hX st qa qb hQ=>by
  obtain ⟨j,hj,rfl⟩:∃ j,pl[i]?=some j∧X=V.str (ks.getD j Str.empty):=by
   rw [List.getElem?_map] at hX
   cases e:pl[i]? with
   | none=>rw [e] at hX; simp at hX
   | some j=>rw [e] at hX; simp at hX; exact (I12 j rfl hX.symm)
  have hjlt:j < es.size:=by
   have:=hpl.mem_iff.mp (List.mem_of_getElem? hj)
   simpa using this
  refine E22 (elem_key hks (j:=j) (e:=es[j]) (by simp [hjlt])) fun k u hk hu=>?_
  have hkj:ks.getD j Str.empty=k:=by rw [List.getD_eq_getElem?_getD,hk]; rfl
  refine setiter_enter st.1 (next_drawn (k:=k) (u:=u) (h0:=es[j].1) st.1 st.2.1 hn st.2.2 hj (by rw [Array.getElem?_eq_getElem hjlt,← hu]) fun h' hi hs=>(I12 _ rfl (wpAny_pure ?_)))
  refine go_plain (s:={ s with heap:=h' }) (T:="set_iterator") ht hi rfl (by decide) (hQ _ h' s.toks (fun qa=>False) (I03 hi (st.2.1.at fun o e=>hs.extBut _ _ hIa e) (st.2.2.at fun o e=>hs.extBut _ _ htI e)) (fun b o hb e=>hs.extBut b o hb e) (fun qa f=>f.elim) ?_)
  rw [hkj]; exact .str _ _
 done:=fun s Q E st hQ=>done_drawn hA st.1 st.2.1 hn st.2.2 (by simp) fun h' he=>hQ h' s.toks fun b o hb e=>he b o hb e
 self:=fun i s Q E st hQ=>setiter_self st.1 hQ
end
end Mine
end
noncomputable section
namespace Mine
open PySem PySem.SeqAt
section
variable {c:Cx} {A:Around} {s:Shared} {E:Value→Shared→Prop}
theorem setNext_text {a:Addr} {slot given ep:Nat} {o es t ks} {Q:Option (Value×Nat)→Shared→Prop} (htx:c.w.params.followText "set-order" = true) (hset:SetAt c s.heap a o es ep t ks)
  (h:Q (((pickOrder (c.w.params.setOrder a ep) es)[given]?).map fun e=>(e.2,slot)) s):wpAny c.M A (setNext a slot given ep) Q E s:=by
 unfold setNext
 refine wpAny_bind (wpAny_setState_of hset.get hset.data hset.fits ?_)
 dsimp only
 refine wpAny_bind (byText_any ?_)
 rw [htx]
 simp only [if_true,bne_self_eq_false,Bool.false_eq_true,if_false]
 refine wpAny_bind ?_
 unfold setWalk
 refine wpAny_bind (wpAny_setState_of hset.get hset.data hset.fits ?_)
 dsimp only
 refine wpAny_bind (byText_any ?_)
 rw [htx]
 simp only [if_true]
 exact wpAny_bind (wpAny_askSetting (wpAny_pure (wpAny_pure h)))
theorem next_by {I a:Addr} {i n ep slot:Nat} {o es t ks} {Q:PySem.Fin→Shared→Prop} {x:Value} {next:Nat}
  (hit:IsSetIter s.heap I (.int slot 0) i a n ep) (hset:SetAt c s.heap a o es ep t ks) (hn:n=es.size)
  (hx:∀ (Q:Option (Value×Nat)→Shared→Prop) E,Q (some (x,next)) s→wpAny c.M A (setNext a slot i ep) Q E s)
  (h:∀ h',IsSetIter h' I (.int next 0) (i + 1) a n ep→Heap.SameBut I s.heap h'→Q (PySem.Fin.done (.ret x)) { s with heap:=h' }) :
  wpAny c.M A (Builtin.«set_iterator.__next__» ⟨[.ref I],[]⟩) Q E s:=by
 subst hn
 unfold Builtin.«set_iterator.__next__»
 refine wpAny_bind (m:=slotArgs _ _ _) (wpAny_pure ?_)
 dsimp only
 refine wpAny_bind (m:=fieldsOf _) (wpAny_bind (wpAny_load hit (wpAny_pure ?_)))
 dsimp only
 refine wpAny_bind (wpAny_setEntries_of hset.get hset.data hset.fits ?_)
 simp only [bne_self_eq_false,Bool.false_eq_true,if_false,Int.toNat_natCast]
 refine wpAny_bind (hx _ _ ?_)
 dsimp only
 refine wpAny_bind (setField_iter hit (by simp) fun h1 hg1 hs1=>?_)
 refine wpAny_bind (setField_iter (s:={ s with heap:=h1 }) hg1 (by simp) fun h2 hg2 hs2=>wpAny_pure (h h2 ?_ (hs1.trans hs2)))
 simpa [IsSetIter,rawInt] using hg2
theorem done_by {I a:Addr} {i n ep slot:Nat} {o es t ks} {Q:Option Value→Shared→Prop} (hh:A.handled=none)
  (hit:IsSetIter s.heap I (.int slot 0) i a n ep) (hset:SetAt c s.heap a o es ep t ks) (hn:n=es.size)
  (hx:∀ (Q:Option (Value×Nat)→Shared→Prop) E,Q none s→wpAny c.M A.in1 (setNext a slot i ep) Q E s)
  (h:∀ h',Heap.ExtBut I s.heap h'→Q none { s with heap:=h' }) :
  wpAny c.M A (pyNext (.ref I)) Q E s:=by
 subst hn
 refine setiter_enter hit ?_
 unfold Builtin.«set_iterator.__next__»
 refine wpAny_bind (m:=slotArgs _ _ _) (wpAny_pure ?_)
 dsimp only
 refine wpAny_bind (m:=fieldsOf _) (wpAny_bind (wpAny_load hit (wpAny_pure ?_)))
 dsimp only
 refine wpAny_bind (wpAny_setEntries_of hset.get hset.data hset.fits ?_)
 simp only [bne_self_eq_false,Bool.false_eq_true,if_false,Int.toNat_natCast]
 refine wpAny_bind (hx _ _ ?_)
 dsimp only
 refine wpAny_bind (setField_iter hit (by simp) fun h1 hg1 hs1=>?_)
 exact stop_any (vs:=#[]) hh h hs1.extBut
theorem iter_text {target:Expr} {Z:Addr→Prop} {h:Heap} {I a:Addr} {o es ep t ks ks'} {n:Nat} (hA:A.handled=none) (ht:plainTarget target=true) (hIa:a≠I) (hn:n=es.size) (htx:c.w.params.followText "set-order" = true)
  (hks:All2 (SE c) (pickOrder (c.w.params.setOrder a ep) es).toList ks') :
  Iter c A target I [I,a] (ks'.map V.str) (fun i h=>IsSetIter h I (.int ((0:Nat):Int) 0) i a n ep∧SetAt c h a o es ep t ks) Z h where
 frame:=fun i h h' st hk=>⟨hk I (by simp) _ st.1,st.2.at fun o=>hk a (by simp) o⟩
 ex:=fun i h st=>⟨_,st.1⟩
 item:=fun i X s Z' Q E hX st qa qb hQ=>by
  obtain ⟨k,hk,rfl⟩:∃ k,ks'[i]?=some k∧X=V.str k:=by
   rw [List.getElem?_map] at hX
   cases e:ks'[i]? with
   | none=>rw [e] at hX; simp at hX
   | some j=>rw [e] at hX; simp at hX; exact (I12 j rfl hX.symm)
  refine E13 (hks.get' i k hk) fun e he h1 qa=>?_
  obtain ⟨u,hu⟩:=Value.isStrOf_shape h1
  refine setiter_enter st.1 (next_by (x:=.str k u) (next:=0) st.1 st.2 hn (fun Q E hQ=>setNext_text htx st.2 ?_) fun h' hi hs=>(I12 _ rfl (wpAny_pure ?_)))
  ·have:(pickOrder (c.w.params.setOrder a ep) es)[i]?=some e:=by simpa using he
   rw [this]; simpa [hu] using hQ
  ·exact go_plain (s:={ s with heap:=h' }) (T:="set_iterator") ht hi rfl (by decide) (hQ _ h' s.toks (fun qa=>False) ⟨hi,st.2.at fun o e=>hs.extBut _ _ hIa e⟩ (fun b o hb e=>hs.extBut b o hb e) (fun qa f=>f.elim) (.str _ _))
 done:=fun s Q E st hQ=>by
  refine done_by hA st.1 st.2 hn (fun Q E hQ=>setNext_text htx st.2 ?_) fun h' he=>hQ h' s.toks fun b o hb e=>he b o hb e
  have:(pickOrder (c.w.params.setOrder a ep) es)[(ks'.map V.str).length]?=none:=by
   have:=hks.length
   simp at this ⊢; omega
  rw [this]; exact hQ
 self:=fun i s Q E st hQ=>setiter_self st.1 hQ
theorem setNext_small {a:Addr} {slot given ep:Nat} {o es t ks} {Q:Option (Value×Nat)→Shared→Prop} (htx:c.w.params.followText "set-order" = false) (hsz:es.size≤1) (hset:SetAt c s.heap a o es ep t ks)
  (h:Q (match es[SetTable.below t.place slot]?,t.place[SetTable.below t.place slot]? with
  | some (_,x),some j=>some (x,j + 1)
  | _,_=>none) s):wpAny c.M A (setNext a slot given ep) Q E s:=by
 unfold setNext
 refine wpAny_bind (wpAny_setState_of hset.get hset.data hset.fits ?_)
 dsimp only
 refine wpAny_bind (byText_any ?_)
 rw [htx]
 simp only [Bool.false_eq_true,if_false]
 have hled:t.led=true:=hset.led.resolve_right (by rw [htx]; simp)
 have hd:(!t.plain&&decide (es.size > 1))=false:=by
  rw [show decide (es.size > 1)=false from decide_eq_false (Nat.not_lt.mpr hsz)]; simp
 show wpAny c.M A (if (!t.plain&&decide (es.size > 1))=true then _ else _) Q E s
 rw [if_neg (by rw [hd]; simp)]
 refine wpAny_bind ?_
 show wpAny c.M A (if (!t.led&&!es.isEmpty)=true then _ else pure _) _ E s
 rw [if_neg (by rw [hled]; simp)]
 refine wpAny_pure ?_
 refine wpAny_pure ?_
 exact h
theorem below_one (p j:Nat):SetTable.below #[p] j=if p < j then 1 else 0:=by
 unfold SetTable.below
 simp only [List.size_toArray,List.length_cons,List.length_nil,Nat.zero_add]
 unfold SetTable.below.go
 simp only [Nat.zero_lt_one,if_true,Nat.zero_add,Nat.reduceDiv]
 show (if (#[p]:Array Nat).getD 0 j < j then _ else _)=_
 have:(#[p]:Array Nat).getD 0 j=p:=rfl
 rw [this]
 split <;> rfl
theorem iter_small {target:Expr} {Z:Addr→Prop} {h:Heap} {I a:Addr} {o es ep t ks} {n:Nat} (hA:A.handled=none) (ht:plainTarget target=true) (hIa:a≠I) (hn:n=es.size) (htx:c.w.params.followText "set-order" = false) (hsz:es.size≤1)
  (hks:All2 (SE c) es.toList ks) (hfit:t.fits es.size=true) :
  Iter c A target I [I,a] (ks.map V.str) (fun i h=>IsSetIter h I (.int ((if i=0 then 0 else t.place.getD 0 0 + 1:Nat):Int) 0) i a n ep∧SetAt c h a o es ep t ks) Z h where
 frame:=fun i h h' st hk=>⟨hk I (by simp) _ st.1,st.2.at fun o=>hk a (by simp) o⟩
 ex:=fun i h st=>⟨_,st.1⟩
 item:=fun i X s Z' Q E hX st qa qb hQ=>by
  have hl:=hks.length
  obtain ⟨k,hk,rfl⟩:∃ k,ks[i]?=some k∧X=V.str k:=by
   rw [List.getElem?_map] at hX
   cases e:ks[i]? with
   | none=>rw [e] at hX; simp at hX
   | some j=>rw [e] at hX; simp at hX; exact (I12 j rfl hX.symm)
  have hi:i < ks.length:=(List.getElem?_eq_some_iff.mp hk).1
  simp only [Array.length_toList] at hl
  have hi0:i=0:=Nat.lt_one_iff.mp (Nat.lt_of_lt_of_le hi (hl▸hsz))
  have hs1:es.size=1:=Nat.le_antisymm hsz (hl.symm▸Nat.succ_le_of_lt (Nat.lt_of_le_of_lt (Nat.zero_le i) hi))
  subst hi0
  refine E13 (hks.get' 0 k hk) fun e he h1 qa=>?_
  obtain ⟨u,hu⟩:=Value.isStrOf_shape h1
  have hp1:t.place.size=1:=by
   simp only [SetTable.fits,Bool.and_eq_true,beq_iff_eq] at hfit; exact hfit.1.trans hs1
  obtain ⟨p,hp⟩:∃ p,t.place=#[p]:=by
   refine ⟨t.place[0],?_⟩
   apply Array.ext
   ·simp [hp1]
   ·intro i h1 h2
    have:i=0:=Nat.lt_one_iff.mp (hp1▸h1)
    subst this; rfl
  refine setiter_enter st.1 (next_by (x:=.str k u) (next:=p + 1) st.1 st.2 hn (fun Q E hQ=>setNext_small htx hsz st.2 ?_) fun h' hi hs=>(I12 _ rfl (wpAny_pure ?_)))
  ·have e0:SetTable.below #[p] 0=0:=by rw [below_one]; simp
   have e1:es[0]?=some e:=by simpa using he
   simp only [if_true,hp,e0,e1]
   obtain ⟨e2,e3⟩:=e
   simp only at hu
   subst hu
   exact hQ
  ·refine go_plain (s:={ s with heap:=h' }) (T:="set_iterator") ht hi rfl (by decide) (hQ _ h' s.toks (fun qa=>False) ⟨?_,st.2.at fun o e=>hs.extBut _ _ hIa e⟩ (fun b o hb e=>hs.extBut b o hb e) (fun qa f=>f.elim) (.str _ _))
   have:t.place.getD 0 0=p:=by rw [hp]; rfl
   simp only [this]
   exact hi
 done:=fun s Q E st hQ=>by
  have hl:=hks.length
  simp only [Array.length_toList] at hl
  refine done_by hA st.1 st.2 hn (fun Q E hQ=>setNext_small htx hsz st.2 ?_) fun h' he=>hQ h' s.toks fun b o hb e=>he b o hb e
  have hps:t.place.size=es.size:=by simp only [SetTable.fits,Bool.and_eq_true,beq_iff_eq] at hfit; exact hfit.1
  by_cases h0:es.size=0
  ·have:∀ j:Nat,es[j]?=none:=fun j=>by simp [h0]
   simp only [this]; exact hQ
  ·have hs1:es.size=1:=Nat.le_antisymm hsz (Nat.pos_of_ne_zero h0)
   have hp1:t.place.size=1:=hps.trans hs1
   obtain ⟨p,hp⟩:∃ p,t.place=#[p]:=by
    refine ⟨t.place[0],?_⟩
    apply Array.ext
    ·simp [hp1]
    ·intro i h1 h2
     have:i=0:=Nat.lt_one_iff.mp (hp1▸h1)
     subst this; rfl
   have hlen:(ks.map V.str).length=1:=by rw [List.length_map,← hl]; exact hs1
   have e0:SetTable.below t.place (if (ks.map V.str).length=0 then 0 else t.place.getD 0 0 + 1)=1:=by
    rw [hlen]; simp only [if_neg (by decide:¬ (1=0)),hp,below_one]
    have:(#[p]:Array Nat).getD 0 0=p:=rfl
    rw [this]; simp
   have e1:es[1]?=none:=by simp [hs1]
   rw [e0]
   simp only [e1]; exact hQ
 self:=fun i s Q E st hQ=>setiter_self st.1 hQ
structure Seq2 (c:Cx) (A:Around) (target:Expr) (Z:Addr→Prop) (s:Shared) (v:Value) (H:Addr→Prop) (ord:List V→Prop):Prop where
 run:∀ (Q:Value→Shared→Prop) (E:Value→Shared→Prop),(∀ (h':Heap) (tk:Nat) (dr:Drawn) (I:Addr) (fp:List Addr) (Stt:Nat→Heap→Prop) (ys:List V) (Nw:Addr→Prop),Kp s.heap h'→s.heap.get? I=none→(∃ o,h'.get? I=some o) →
   (∀ b,Nw b→b≠I∧s.heap.get? b=none∧∃ o,h'.get? b=some o)→(∀ b∈fp,b=I∨Z b∨H b∨Nw b) →
   Stt 0 h'→ord ys→Iter c A target I fp ys Stt Z h'→Q (.ref I) { s with heap:=h',toks:=tk,drawn:=dr })→wpAny c.M A (pyIter v) Q E s
theorem SeqO.seq {target:Expr} {Z:Addr→Prop} {s:Shared} {v:Value} {H:Addr→Prop} {xs:List V} (x:SeqO c A target Z s v H xs):Seq2 c A target Z s v H (fun ys=>ys=xs) :=
 ⟨fun Q E hQ=>x.run Q E fun h' tk dr I fp Stt h1 h2 h3 h4 h5 h6=>hQ h' tk dr I fp Stt xs (fun qa=>False) h1 h2 h3 (fun qa f=>f.elim) (fun b hb=>(h4 b hb).elim .inl fun h=>.inr (h.elim .inl fun h=>.inr (.inl h))) h5 rfl h6⟩
theorem newFields_any {T:String} {vs:List Value} {Q:Value→Shared→Prop} (h:Q (.ref s.heap.objs.size) { s with heap:=s.heap.push { cls:=.type T,data:=.fields vs.toArray } }) (hl:vs.length≤100:=by simp):wpAny c.M A (newFields T vs) Q E s:=by
 unfold newFields
 exact wpAny_newObj_type h (by show vs.toArray.size≤sizeLine + 2; rw [sizeLine_eq,List.size_toArray]; omega)
theorem Seq2.set {target:Expr} {Z H:Addr→Prop} {s:Shared} {a:Addr} {xs:List Str} (hA:A.handled=none) (ht:plainTarget target=true) (hS:SetL c s.heap a xs) (hz:Z a∨H a) (hZ:∀ b,Z b→∃ o,s.heap.get? b=some o) :
  Seq2 c A target Z s (.ref a) H (fun ys=>∃ ks:List Str,ys=ks.map V.str∧ks.Perm xs):=⟨fun Q E hQ=>by
 refine E510 (id hS) fun o es ep t ks h1 h2 h3 h4 h5 h6 h7 h8 h9 h10=>?_
 have hset:SetAt c s.heap a o es ep t ks:=⟨h1,h2,h3,h4,h8,h9,h10⟩
 have hT:s.TypeIs (.ref a) "set" := hS.typeIs
 have hlt:a < s.heap.objs.size:=Heap.lt_size h1
 refine wpAny_pyIter_slot hT F.slot_set_iter (wpAny_call_entry F.slot_set_iter hT entry_set_iter ?_ (F.args_set_iter_1 _))
 unfold Builtin.«frozenset.__iter__»
 refine wpAny_bind (m:=Builtin.Frozenset.slot0 _ _) ?_
 unfold Builtin.Frozenset.slot0
 refine wpAny_bind (m:=slotArgs _ _ _) (wpAny_pure ?_)
 dsimp only
 unfold Builtin.Frozenset.addrOf
 refine wpAny_pure ?_
 refine wpAny_bind (m:=Builtin.Frozenset.sizeOf _) ?_
 unfold Builtin.Frozenset.sizeOf
 refine wpAny_bind (wpAny_setEntries_of h1 h3 h8 (wpAny_pure ?_))
 refine wpAny_bind (m:=setDrawn _) ?_
 unfold setDrawn
 refine wpAny_bind (wpAny_setState_of h1 h3 h8 ?_)
 dsimp only
 refine wpAny_bind (byText_any ?_)
 refine wpAny_pure ?_
 show wpAny c.M _ (if (!c.w.params.followText "set-order" && (!t.plain&&decide (es.size > 1)))=true then _ else _) _ E s
 by_cases htx:c.w.params.followText "set-order" = true
 ·rw [if_neg (by rw [htx]; simp)]
  refine wpAny_bind (wpAny_pure ?_)
  refine wpAny_bind (m:=setEpoch _) (wpAny_setEpoch_of h1 h3 h8 ?_)
  refine wpAny_bind (newFields_any (wpAny_pure (I12 _ rfl (I23 "set_iterator" _ (I12 _ (Heap.get?_push_size _ rfl) rfl) slot_setiter_next.lookup ?_))))
  refine E12 (h4.perm (pickOrder_perm (c.w.params.setOrder a ep) es)) fun ks' hk1 hk2=>?_
  refine hQ _ s.toks s.drawn s.heap.objs.size [s.heap.objs.size,a] _ (ks'.map V.str) (fun qa=>False) (Kp.push _ _) (fresh_none _ _ (Nat.le_refl _)) ⟨_,Heap.get?_push_size _ rfl⟩ (fun qa f=>f.elim) ?_ ?_ (I12 ks' rfl (hk2.trans h5))
   (iter_text (o:=o) (t:=t) (ks:=ks) (n:=es.size) hA ht (Nat.ne_of_lt hlt) rfl htx hk1)
  ·intro b hb
   rcases List.mem_cons.mp hb with rfl | hb
   ·exact .inl rfl
   ·have:=List.mem_singleton.mp hb; subst this; exact .inr (hz.elim .inl fun h=>.inr (.inl h))
  ·exact ⟨Heap.get?_push_size _ rfl,hset.at fun o e=>Heap.get?_push_of_some _ e⟩
 ·have htx':c.w.params.followText "set-order" = false:=by simpa using htx
  by_cases hd:es.size≤1
  ·rw [if_neg (by rw [show decide (es.size > 1)=false from decide_eq_false (Nat.not_lt.mpr hd)]; simp)]
   refine wpAny_bind (wpAny_pure ?_)
   refine wpAny_bind (m:=setEpoch _) (wpAny_setEpoch_of h1 h3 h8 ?_)
   refine wpAny_bind (newFields_any (wpAny_pure (I12 _ rfl (I23 "set_iterator" _ (I12 _ (Heap.get?_push_size _ rfl) rfl) slot_setiter_next.lookup ?_))))
   refine hQ _ s.toks s.drawn s.heap.objs.size [s.heap.objs.size,a] _ (ks.map V.str) (fun qa=>False) (Kp.push _ _) (fresh_none _ _ (Nat.le_refl _)) ⟨_,Heap.get?_push_size _ rfl⟩ (fun qa f=>f.elim) ?_ ?_ (I12 ks rfl h5)
    (iter_small (o:=o) (t:=t) (n:=es.size) (ep:=ep) hA ht (Nat.ne_of_lt hlt) rfl htx' hd h4 h8)
   ·intro b hb
    rcases List.mem_cons.mp hb with rfl | hb
    ·exact .inl rfl
    ·have:=List.mem_singleton.mp hb; subst this; exact .inr (hz.elim .inl fun h=>.inr (.inl h))
   ·exact ⟨Heap.get?_push_size _ rfl,hset.at fun o e=>Heap.get?_push_of_some _ e⟩
  ·have hpl:t.plain=false:=h10 (by omega)
   rw [if_pos (by rw [htx',hpl,show decide (es.size > 1)=true from decide_eq_true (Nat.lt_of_not_le hd)]; rfl)]
   refine wpAny_bind (drawOrder_any _ _ _ _ (by simp) fun pl dr hp=>?_)
   have hrm:(pl.map fun (i:Nat)=>rawInt i)=pl.map fun (j:Nat)=>Value.int j 0:=rfl
   rw [hrm]
   unfold newTuple
   refine wpAny_bind (wpAny_newObj_type ?_ ?_)
   ·refine wpAny_bind (m:=setEpoch _) (wpAny_setEpoch_of (Heap.get?_push_of_some _ h1) h3 h8 ?_)
    refine wpAny_bind (newFields_any (wpAny_pure (I12 _ rfl (I23 "set_iterator" _ (I12 _ (Heap.get?_push_size _ rfl) rfl) slot_setiter_next.lookup ?_))))
    dsimp only
    rw [Heap.size_push]
    have hk2:Kp s.heap ((s.heap.push { cls:=.type "tuple", data:=.seq (pl.map fun (j:Nat)=>Value.int j 0).toArray })):=Kp.push _ _
    refine hQ _ s.toks dr (s.heap.objs.size + 1) [s.heap.objs.size + 1,a,s.heap.objs.size] _ (pl.map fun j=>V.str (ks.getD j Str.empty)) (fun b=>b=s.heap.objs.size) (hk2.trans (Kp.push _ _)) (fresh_none _ _ (Nat.le_succ _)) ?_ ?_ ?_ ?_ ?_
     (iter_drawn (o:=o) (t:=t) (ep:=ep) (n:=es.size) (tp:=s.heap.objs.size) hA ht (Nat.ne_of_lt (Nat.lt_succ_of_lt hlt)) (Nat.ne_of_lt (Nat.lt_succ_self _)) rfl h4 hp)
    ·have:=Heap.get?_push_size (s.heap.push { cls:=.type "tuple", data:=.seq (pl.map fun (j:Nat)=>Value.int j 0).toArray }) (o:={ cls:=.type "set_iterator", data:=.fields [Value.ref s.heap.objs.size,rawInt 0,.ref a,rawInt es.size,rawInt ep].toArray }) rfl
     rw [Heap.size_push] at this
     exact ⟨_,this⟩
    ·rintro b rfl
     exact (I03 (Nat.ne_of_lt (Nat.lt_succ_self _)) (fresh_none _ _ (Nat.le_refl _)) (I11 _ (Heap.get?_push_of_some _ (Heap.get?_push_size _ rfl))))
    ·intro b hb
     simp only [List.mem_cons,List.not_mem_nil,or_false] at hb
     rcases hb with rfl | rfl | rfl
     ·exact .inl rfl
     ·exact .inr (hz.elim .inl fun h=>.inr (.inl h))
     ·exact .inr (.inr (.inr rfl))
    ·refine (I03 ?_ (hset.at fun o e=>Heap.get?_push_of_some _ (Heap.get?_push_of_some _ e)) ⟨0,Heap.get?_push_of_some _ (Heap.get?_push_size _ rfl)⟩)
     have:=Heap.get?_push_size (s.heap.push { cls:=.type "tuple", data:=.seq (pl.map fun (j:Nat)=>Value.int j 0).toArray }) (o:={ cls:=.type "set_iterator", data:=.fields [Value.ref s.heap.objs.size,rawInt 0,.ref a,rawInt es.size,rawInt ep].toArray }) rfl
     rw [Heap.size_push] at this
     exact this
    ·refine (I12 (pl.map fun j=>ks.getD j Str.empty) (by simp) ?_)
     refine (hp.map _).trans (List.Perm.trans ?_ h5)
     have hl:=h4.length
     simp only [Array.length_toList] at hl
     have:(List.range es.size).map (fun j=>ks.getD j Str.empty)=ks:=by
      apply List.ext_getElem
      ·simp [hl]
      ·intro i h1 h2; simp [h2]
     rw [this]
   ·show (pl.map fun (j:Nat)=>Value.int j 0).toArray.size≤sizeLine
    have:=hp.length_eq
    simp at this ⊢
    have h7':scanBound=4096:=rfl
    rw [sizeLine_eq]; omega⟩
end
end Mine
end
noncomputable section
namespace Mine
open PySem PySem.SeqAt
section
variable {c:Cx} {A:Around} {env:Env} {σ:St}
noncomputable def SeqV (c:Cx) (A:Around) (target:Expr) (hp:List (Addr×O)) (X:V) (hid:Addr→Prop) (ord:List V→Prop):Prop :=
 AOk A→∀ Z P s v,(∀ b,Z b→∃ o,s.heap.get? b=some o)→HpR c Z P s.heap hp→Rd c Z s.heap X v→Seq2 c A target Z s v hid ord
theorem seq_lst {target:Expr} {hp:List (Addr×O)} {xs:List V} (ht:plainTarget target=true:=by rfl):SeqV c A target hp (.lst xs) (fun qa=>False) (fun ys=>ys=xs):=by
 intro hA Z P s v hZ _ r
 cases r with | lst z i r=>exact (SeqO.lst hA ht i.isList r (.inl z) hZ).seq
theorem seq_set {target:Expr} {hp:List (Addr×O)} {xs:List Str} (ht:plainTarget target=true:=by rfl):SeqV c A target hp (.set xs) (fun qa=>False) (fun ys=>∃ ks:List Str,ys=ks.map V.str∧ks.Perm xs):=by
 intro hA Z P s v hZ _ r
 cases r with | set z i=>exact Seq2.set hA.handled ht i (.inl z) hZ
theorem seq_okeys {target:Expr} {hp:List (Addr×O)} {d:Addr} {es:List (Str×V)} (hd:(d,O.dct es)∈hp) (ht:plainTarget target=true:=by rfl):SeqV c A target hp (.ref d) (fun b=>b=d) (fun ys=>ys=es.map fun e=>V.str e.1):=by
 intro hA Z P s v hZ H r
 cases r
 refine E24 ((H.obj d _ hd).1) fun kvs ep hs h1 h2 qa=>?_
 have e:(kvs.map fun e=>V.str e.1)=es.map fun e=>V.str e.1:=by
  have:=congrArg (List.map V.str) h2
  rw [List.map_map,List.map_map] at this; exact this
 have:=(SeqO.keys (Z:=Z) (H:=fun b=>b=d) hA.handled ht hs h1 (.inr rfl) hZ).seq
 rw [e] at this
 exact this
theorem Rel.addHp {Z P:Addr→Prop} {h:Heap} {d:Addr} {o:O} (R:Rel c Z (fun b=>P b∨b=d) env σ h) (hT:∀ q∈tabs,P q.2) (hf:∀ x cl,env.kindOf x=some .free→env.cells.lookup x=some cl→P cl) (hd:RdO c Z h d o) (hP:¬ P d):Rel c Z P env ⟨σ.loc,(d,o)::σ.hp⟩ h:=by
 have hz:¬ Z d:=fun z=>R.inv.off d z (.inr rfl)
 have R':Rel c Z P env σ h:=R.unprotect hT (fun b p=>.inl p) hf
 exact { R' with
  vars:=R'.vars
  hp:=⟨fun a ob ha=>by
   rcases List.mem_cons.mp ha with e | ha
   ·cases e; exact (I03 hd hz hP)
   ·exact R'.hp.obj a ob ha,by
   simp only [List.map_cons,List.nodup_cons]
   refine ⟨?_,R'.hp.nodup⟩
   intro hm
   refine E12 (List.mem_map.mp hm) fun z0 ha e=>?_; obtain ⟨a,ob⟩:=z0
   simp only at e; subst e
   exact (R.hp.obj _ ob ha).2.2 (.inr rfl)⟩
  hpOff:=fun a ob ha=>by
   rcases List.mem_cons.mp ha with e | ha
   ·cases e; exact fun hown=>(R.own d hown).2 (.inr rfl)
   ·exact R'.hpOff a ob ha }
theorem exec_For_any {target iter:Expr} {body:List Stmt} {pos:Pos} {s:Shared} {Q:Flow→Shared→Prop} (hs:∀ x,foldedSetIterable iter env x=pure x)
  (h:wpAny c.M A (eval iter env) (fun x s₁=>wpAny c.M A (pyIter x) (fun it s₂=>codeAny c.M A (.forLoop target it body [] env) (fun r s'=>match r with | .ok f=>Q f s' | .error _=>False) s₂) (fun qa qb=>False) s₁) (fun qa qb=>False) s) :
  wpAny c.M A (exec (.For target iter body [] pos) env) Q (fun qa qb=>False) s:=by
 refine wpAny_For (wpAny_mono h (fun x s₁ h₁=>wpAny_mono h₁ (fun it s₂ h₂=>codeAny_mono h₂ fun r s' hr=>?_) fun qa qb x=>x) fun qa qb x=>x) hs
 cases r with
 | ok f=>exact hr
 | error e=>exact hr.elim
theorem wS_For {target iter:Expr} {body:List Stmt} {pos:Pos} {k:FV→St→Prop} (J:List V→St→Prop)
  (h:WE c A env σ iter fun X σ₁=>∃ ord,SeqV c A target σ₁.hp X (fun qa=>False) ord∧∀ ys,ord ys→∃ τ,σ₁.le τ∧J ys τ)
  (turn:∀ X rest τ,J (X::rest) τ→WA c A env τ target X fun τ₁=>WSs c A env τ₁ body (TurnK (J rest) k))
  (done:∀ τ,J [] τ→k .next τ) (hs:∀ x,foldedSetIterable iter env x=pure x:=by intro _; rfl):WS c A env σ (.For target iter body [] pos) k:=by
 refine WP.mk fun hA Z P s R=>?_
 refine exec_For_any hs (wp_then h hA R fun Z₁ s₁ X σ₁ v S₁ R₁ r₁ kk=>?_)
 refine E12 kk fun ord hseq hord=>?_; clear kk
 refine (hseq hA Z₁ P s₁ v R₁.inv.exZ R₁.hp r₁).run _ _ fun h' tk dr I fp Stt ys Nw hk hI hIe hNw hfp hst ho W=>?_
 have hk':Kp s₁.heap h':=hk
 have R₂:Rel c Z₁ P env σ₁ h':=R₁.kp hk'
 refine E12 (hord ys ho) fun τ hle hj=>?_
 have R₃:=R₂.le hle
 have none_of:∀ b,s₁.heap.get? b=none→¬ Z₁ b∧¬ P b∧¬ OwnA env b∧∀ o,(b,o)∉τ.hp:=by
  intro b hb
  refine (I04 (fun z=>?_) (fun p=>?_) (fun o=>?_) (fun o ho=>?_))
  ·obtain ⟨o,e⟩:=R₁.inv.exZ b z; rw [hb] at e; cases e
  ·obtain ⟨o,e⟩:=R₁.inv.exP b p; rw [hb] at e; cases e
  ·rcases o with rfl | ⟨x,h1,h2⟩
   ·refine E42 R₁.ns fun m o es ep ho qa=>?_; rw [hb] at ho; cases ho
   ·refine E22 (R₁.cells x h1) fun cl v h3 z3=>?_; obtain ⟨o,ho,_⟩:=z3
    rw [h2] at h3; cases h3; rw [hb] at ho; cases ho
  ·obtain ⟨ob,e⟩:=(R₁.hp.obj b o (hle.2.1 b o ho)).1.some; rw [hb] at e; cases e
 have nI:=none_of I hI
 refine codeAny_mono (loop_core (P:=P) (H:=Nw) (σ₀:=τ) (s:={ s₁ with heap:=h',toks:=tk,drawn:=dr }) (k:=k) J hA W (fun b hb=>?_) (fun n=>(hNw _ n).1 rfl) hst R₃ nI.2.1 nI.1 nI.2.2.1 nI.2.2.2 (fun b hb=>?_) (fun b hb=>R₁.inv.nT0 (hNw b hb).2.1) hj turn done) ?_
 ·rcases hfp b hb with h | h | h | h
  ·exact .inl h
  ·exact .inr (.inl h)
  ·exact h.elim
  ·exact .inr (.inr h)
 ·have:=none_of b (hNw b hb).2.1
  exact (I04 ((hNw b hb).2.2) (this.1) (this.2.2.1) (this.2.2.2))
 ·intro r s' hr
  cases r with
  | error e=>exact hr
  | ok f =>
   refine E34 hr fun Z' fv τ' S' R' rf hk''=>?_; clear hr
   refine (fin_mk ?_ (R'.unprotect R.inv.tp (fun b p=>.inl p) R.freeP) rf hk'')
   refine S₁.trans ((Step.kp hk').trans ⟨S'.grow,S'.keepZ,fun b o p n e=>S'.keepP b o (.inl p) n e,S'.keepT,S'.os,S'.gens⟩)
theorem wS_ForH {target iter:Expr} {body:List Stmt} {pos:Pos} {k:FV→St→Prop} (J:List V→St→Prop) {d:Addr} {ob:O}
  (h:WE c A env σ iter fun X σ₁=>∃ ord,SeqV c A target σ₁.hp X (fun b=>b=d) ord∧(d,ob)∈σ₁.hp∧∀ ys,ord ys→(σ₁.hp.map (·.1)).Nodup→∃ τ,σ₁.le τ∧(∀ o,(d,o)∉τ.hp)∧J ys τ)
  (turn:∀ X rest τ,J (X::rest) τ→WA c A env τ target X fun τ₁=>WSs c A env τ₁ body (TurnK (J rest) fun f τ₂=>k f ⟨τ₂.loc,(d,ob)::τ₂.hp⟩))
  (done:∀ τ,J [] τ→k .next ⟨τ.loc,(d,ob)::τ.hp⟩) (hs:∀ x,foldedSetIterable iter env x=pure x:=by intro _; rfl):WS c A env σ (.For target iter body [] pos) k:=by
 refine WP.mk fun hA Z P s R=>?_
 refine exec_For_any hs (wp_then h hA R fun Z₁ s₁ X σ₁ v S₁ R₁ r₁ kk=>?_)
 refine E13 kk fun ord hseq hdo hord=>?_; clear kk
 refine (hseq hA Z₁ P s₁ v R₁.inv.exZ R₁.hp r₁).run _ _ fun h' tk dr I fp Stt ys Nw hk hI hIe hNw hfp hst ho W=>?_
 have hk':Kp s₁.heap h':=hk
 have R₂:Rel c Z₁ P env σ₁ h':=R₁.kp hk'
 refine E13 (hord ys ho R₁.hp.nodup) fun τ hle hdτ hj=>?_
 have R₃:=R₂.le hle
 have none_of:∀ b,s₁.heap.get? b=none→¬ Z₁ b∧¬ P b∧¬ OwnA env b∧∀ o,(b,o)∉τ.hp:=by
  intro b hb
  refine (I04 (fun z=>?_) (fun p=>?_) (fun o=>?_) (fun o ho=>?_))
  ·obtain ⟨o,e⟩:=R₁.inv.exZ b z; rw [hb] at e; cases e
  ·obtain ⟨o,e⟩:=R₁.inv.exP b p; rw [hb] at e; cases e
  ·rcases o with rfl | ⟨x,h1,h2⟩
   ·refine E42 R₁.ns fun m o es ep ho qa=>?_; rw [hb] at ho; cases ho
   ·refine E22 (R₁.cells x h1) fun cl v h3 z3=>?_; obtain ⟨o,ho,_⟩:=z3
    rw [h2] at h3; cases h3; rw [hb] at ho; cases ho
  ·obtain ⟨ob,e⟩:=(R₁.hp.obj b o (hle.2.1 b o ho)).1.some; rw [hb] at e; cases e
 have nI:=none_of I hI
 refine E03 (R₂.hp.obj d ob hdo) fun hd1 hd2 hd3=>?_
 obtain ⟨od,hod⟩:=(R₁.hp.obj d ob hdo).1.some
 have hdI:d≠I:=fun e=>by
  have h0:s₁.heap.get? I=none:=hI
  rw [e,h0] at hod; cases hod
 refine codeAny_mono (loop_core (P:=P) (H:=fun b=>b=d∨Nw b) (σ₀:=τ) (s:={ s₁ with heap:=h',toks:=tk,drawn:=dr }) (k:=fun f τ₂=>k f ⟨τ₂.loc,(d,ob)::τ₂.hp⟩) J hA W (fun b hb=>?_) (fun n=>n.elim (fun e=>hdI e.symm) fun n=>(hNw _ n).1 rfl) hst R₃ nI.2.1 nI.1 nI.2.2.1 nI.2.2.2 (fun b hb=>?_) (fun b hb=>hb.elim (fun e=>e▸R₁.inv.nT (R₁.hp.obj d ob hdo).2.2) fun hb=>R₁.inv.nT0 (hNw b hb).2.1) hj turn done) ?_
 ·rcases hfp b hb with h | h | h | h
  ·exact .inl h
  ·exact .inr (.inl h)
  ·exact .inr (.inr (.inl h))
  ·exact .inr (.inr (.inr h))
 ·rcases hb with rfl | hb
  ·exact (I04 hd1.some hd2 (R₂.hpOff _ ob hdo) hdτ)
  ·have:=none_of b (hNw b hb).2.1
   exact (I04 ((hNw b hb).2.2) (this.1) (this.2.2.1) (this.2.2.2))
 ·intro r s' hr
  cases r with
  | error e=>exact hr
  | ok f =>
   refine E34 hr fun Z' fv τ' S' R' rf hk''=>?_; clear hr
   have R4:Rel c Z' (fun b=>P b∨b=d) env τ' s'.heap:=R'.unprotect (fun q hq=>.inl (R.inv.tp q hq)) (fun b p=>p.elim .inl fun e=>.inr (.inl e)) (fun x cl h1 h2=>.inl (R.freeP x cl h1 h2))
   refine (fin_mk ?_ (R4.addHp R.inv.tp R.freeP (hd1.keep S'.grow S'.keepZ fun o e=>S'.keepP d o (.inr (.inl rfl)) (R₁.inv.nT (R₁.hp.obj d ob hdo).2.2) e) hd3) rf hk'')
   refine S₁.trans ((Step.kp hk').trans ⟨S'.grow,S'.keepZ,fun b o p n e=>S'.keepP b o (.inl p) n e,S'.keepT,S'.os,S'.gens⟩)
end
end Mine
end
noncomputable section
namespace Mine
open PySem PySem.SeqAt
noncomputable def CallSpec (c:Cx) (n:Nat) (a:Addr) (H:List (Addr×O)) (Xs:List V) (post:V→List (Addr×O)→Prop):Prop :=
 ∀ A Z P s vs (Q:Value→Shared→Prop),Rm n A→Inv c Z P s.heap→HpR c Z P s.heap H→RdL c Z s.heap Xs vs →
  (∀ v X Z' s' H',Step Z P (cr s) Z' (cr s')→Inv c Z' P s'.heap→HpR c Z' P s'.heap H'→Rd c Z' s'.heap X v→post X H'→Q v s') →
  wpAny c.M A (call (.ref a) vs) Q (fun qa qb=>False) s
structure FnAt (c:Cx) (a:Addr) (fd:FuncData):Prop where
 obj:∃ o,c.G.get? a=some o∧o.data=.func fd
 code:c.G.CodeRec fd.code fd.qualname
theorem bindL_not {kd:Str→Option NameKind}:∀ {binds:List (Str×Value)} {m:Str→Option Value} {x:Str},x∉binds.map (·.1)→bindL kd binds m x=m x
 | [],m,x,_=>rfl
 | (n,v)::r,m,x,h=>by
  simp only [List.map_cons,List.mem_cons,not_or] at h
  unfold bindL
  rw [bindL_not h.2]
  split
  ·simp [h.1]
  ·rfl
theorem bindC_not {kd:Str→Option NameKind}:∀ {binds:List (Str×Value)} {m:Str→Option Value} {x:Str},x∉binds.map (·.1)→bindC kd binds m x=m x
 | [],m,x,_=>rfl
 | (n,v)::r,m,x,h=>by
  simp only [List.map_cons,List.mem_cons,not_or] at h
  unfold bindC
  rw [bindC_not h.2]
  split
  ·rfl
  ·simp [h.1]
theorem bindL_get {kd:Str→Option NameKind}:∀ {binds:List (Str×Value)} {m:Str→Option Value} {x:Str} {v:Value},(binds.map (·.1)).Nodup→binds.lookup x=some v→kd x=some .local→bindL kd binds m x=some v
 | [],m,x,v,_,h,_=>by simp at h
 | (n,u)::r,m,x,v,hn,h,hk=>by
  simp only [List.map_cons,List.nodup_cons] at hn
  rw [List.lookup_cons] at h
  unfold bindL
  by_cases hx:x=n
  ·subst hx
   simp only [beq_self_eq_true] at h
   cases h
   rw [if_pos hk,bindL_not hn.1]; simp
  ·have:(x == n)=false:=by simpa using hx
   rw [this] at h
   exact bindL_get hn.2 h hk
theorem bindC_get {kd:Str→Option NameKind}:∀ {binds:List (Str×Value)} {m:Str→Option Value} {x:Str} {v:Value},(binds.map (·.1)).Nodup→binds.lookup x=some v→kd x=some .cell→bindC kd binds m x=some v
 | [],m,x,v,_,h,_=>by simp at h
 | (n,u)::r,m,x,v,hn,h,hk=>by
  simp only [List.map_cons,List.nodup_cons] at hn
  rw [List.lookup_cons] at h
  unfold bindC
  by_cases hx:x=n
  ·subst hx
   simp only [beq_self_eq_true] at h
   cases h
   rw [if_neg (by rw [hk]; simp),bindC_not hn.1]; simp
  ·have:(x == n)=false:=by simpa using hx
   rw [this] at h
   exact bindC_get hn.2 h hk
theorem cellsFrom_acc:∀ {names:List (Str×NameKind)} {n:Nat} {acc:List (Str×Addr)} {x:Str},(acc.lookup x).isSome=true→((cellsFrom n names acc).lookup x).isSome=true
 | [],n,acc,x,h=>h
 | (m,k)::r,n,acc,x,h=>by
  unfold cellsFrom
  split
  ·refine cellsFrom_acc ?_
   rw [List.lookup_cons]
   cases x == m
   ·exact h
   ·rfl
  ·exact cellsFrom_acc h
theorem cellsFrom_some:∀ {names:List (Str×NameKind)} {n:Nat} {acc:List (Str×Addr)} {x:Str},names.lookup x=some .cell→((cellsFrom n names acc).lookup x).isSome=true
 | [],n,acc,x,h=>by simp at h
 | (m,k)::r,n,acc,x,h=>by
  rw [List.lookup_cons] at h
  unfold cellsFrom
  cases hx:x == m with
  | true =>
   rw [hx] at h; cases h
   rw [if_pos (by decide)]
   refine cellsFrom_acc ?_
   rw [List.lookup_cons,hx]; rfl
  | false =>
   rw [hx] at h
   split
   ·exact cellsFrom_some h
   ·exact cellsFrom_some h
theorem zip_rd {c:Cx} {Z:Addr→Prop} {h:Heap}:∀ {ps:List Str} {Xs:List V} {vs:List Value} {x:Str} {X:V},RdL c Z h Xs vs→(ps.zip Xs).lookup x=some X→∃ v,(ps.zip vs).lookup x=some v∧Rd c Z h X v:=by
 intro ps
 induction ps with
 | nil=>intro Xs vs x X _ e; cases e
 | cons p ps ih =>
  intro Xs vs x X r e
  cases r with
  | nil=>cases e
  | cons r rs =>
   rw [List.zip_cons_cons,List.lookup_cons] at e ⊢
   cases hx:x == p with
   | true=>rw [hx] at e; cases e; exact (I12 _ rfl r)
   | false=>rw [hx] at e; exact ih rs e
theorem zip_fst {α:Type}:∀ {ps:List Str} {vs:List α},ps.length=vs.length→(ps.zip vs).map (·.1)=ps
 | [],[],_=>rfl
 | [],_::_,h=>by simp at h
 | _::_,[],h=>by simp at h
 | p::ps,v::vs,h=>by simp at h; simp [zip_fst h]
noncomputable def retV:FV→V
 | .ret X=>X
 | _=>.none
theorem Inv.kp {c:Cx} {Z P:Addr→Prop} {h h':Heap} (I:Inv c Z P h) (hk:Kp h h'):Inv c Z P h' :=
 ⟨fun b o e=>⟨(I.ground b o e).1,hk _ _ (I.ground b o e).2⟩,fun b z=>let ⟨o,e⟩:=I.exZ b z; ⟨o,hk _ _ e⟩,fun b p=>let ⟨o,e⟩:=I.exP b p; ⟨o,hk _ _ e⟩,I.off,I.sys,I.top,I.tp,fun q hq=>⟨(I.tab q hq).1,(I.tab q hq).2.kp hk⟩⟩
structure DefOk (fd:FuncData) (ps:List Str) (body:List Stmt):Prop where
 body:fd.body=.stmts body
 clo:fd.closure=[]
 gl:fd.globals=mainGlobals
 bl:fd.builtins=builtinsNs
 fn:fd.scope.kind=.function
 co:fd.scope.isCoroutine=false
 gen:fd.scope.isGenerator=false
 bind:∀ vs:List Value,vs.length=ps.length→bindArgs fd ⟨vs,[]⟩=pure (ps.zip vs)
 nodup:ps.Nodup
 kinds:∀ p∈ps,fd.scope.names.lookup p=some .local∨fd.scope.names.lookup p=some .cell
 noFree:∀ p∈fd.scope.names,p.2≠.free
theorem rel_call {c:Cx} {fd:FuncData} {a:Addr} {ps:List Str} {Xs:List V} {H:List (Addr×O)} {body:List Stmt} {Z P:Addr→Prop} {s s₁:Shared} {vs:List Value} (D:DefOk fd ps body) (hl:vs.length=ps.length) (I:Inv c Z P s.heap) (hH:HpR c Z P s.heap H) (hX:RdL c Z s.heap Xs vs)
  (x:InCallC s (callEnvC fd s.heap.objs.size a).locals (bindL (callEnvC fd s.heap.objs.size a).kindOf (ps.zip vs) fun qa=>none) (callEnvC fd s.heap.objs.size a).cells (bindC (callEnvC fd s.heap.objs.size a).kindOf (ps.zip vs) fun qa=>none) s₁):Rel c Z P (callEnvC fd s.heap.objs.size a) ⟨ps.zip Xs,H⟩ s₁.heap:=by
 have hkp:Kp s.heap s₁.heap:=x.toInCall.keep
 have hL:s.heap.get? s.heap.objs.size=none:=fresh_none _ _ (Nat.le_refl _)
 have hnone:∀ b,OwnA (callEnvC fd s.heap.objs.size a) b→s.heap.get? b=none:=by
  rintro b (rfl | ⟨x',_,h2⟩)
  ·exact hL
  ·exact fresh_none _ _ (Nat.le_of_lt (x.above x' b (PySem.mem_of_lookup h2)))
 exact {
  inv:=I.kp hkp
  fn:=D.fn
  gl:=D.gl
  bl:=D.bl
  ns:=⟨_,x.toInCall.ns⟩
  cells:=fun y hy=>by
   obtain ⟨cl,hcl⟩:=Option.isSome_iff_exists.mp (cellsFrom_some (n:=s.heap.objs.size + 1) (acc:=[]) hy)
   exact (I22 cl _ hcl (x.cell y cl hcl))
  inj:=fun y z cl qa qb h1 h2=>name_of_addr x.apart (PySem.mem_of_lookup h1) (PySem.mem_of_lookup h2)
  cellL:=fun y cl qa h1=>Nat.ne_of_gt (x.above y cl (PySem.mem_of_lookup h1))
  freeP:=fun y cl h1 qa=>absurd rfl (D.noFree (y,.free) (PySem.mem_of_lookup h1))
  own:=fun b hb=>by
   refine ⟨fun z=>?_,fun p=>?_⟩
   ·obtain ⟨o,e⟩:=I.exZ b z; rw [hnone b hb] at e; cases e
   ·obtain ⟨o,e⟩:=I.exP b p; rw [hnone b hb] at e; cases e
  vars:=fun y Y e=>by
   refine E12 (zip_rd hX e) fun v hv rv=>?_
   refine (I12 v ?_ (rv.kp hkp))
   have hnd:((ps.zip vs).map (·.1)).Nodup:=by rw [zip_fst hl.symm]; exact D.nodup
   have hm:y∈ps:=by
    have:=List.mem_map_of_mem (f:=(·.1)) (PySem.mem_of_lookup hv)
    rwa [zip_fst hl.symm] at this
   rcases D.kinds y hm with h | h
   ·exact .inl (I02 h (I12 _ x.toInCall.ns (bindL_get hnd hv h)))
   ·obtain ⟨cl,hcl⟩:=Option.isSome_iff_exists.mp (cellsFrom_some (n:=s.heap.objs.size + 1) (acc:=[]) h)
    refine .inr (I02 (.inl h) (I12 cl hcl ?_))
    have:=x.cell y cl hcl
    rwa [bindC_get hnd hv h] at this
  hp:=⟨fun b ob hb=>⟨(hH.obj b ob hb).1.keep (fun qa z=>z) (fun b o qa e=>hkp b o e) (fun o=>hkp b o),(hH.obj b ob hb).2⟩,hH.nodup⟩
  hpOff:=fun b ob hb hown=>by
   obtain ⟨o',e⟩:=(hH.obj b ob hb).1.some
   rw [hnone b hown] at e; cases e }
theorem kinds_call {fd:FuncData} {ps:List Str} {body:List Stmt} {vs:List Value} {n:Nat} (D:DefOk fd ps body) (hl:vs.length=ps.length):∀ x∈ps.zip vs,fd.scope.names.lookup x.1=some .local∨(fd.scope.names.lookup x.1=some .cell∧((cellsFrom n fd.scope.names []).lookup x.1).isSome=true):=by
 intro x hx
 have hm:x.1∈ps:=by
  have:=List.mem_map_of_mem (f:=(·.1)) hx
  rwa [zip_fst hl.symm] at this
 rcases D.kinds x.1 hm with h | h
 ·exact .inl h
 ·exact .inr ⟨h,cellsFrom_some h⟩
theorem call_intro {c:Cx} {fd:FuncData} {a:Addr} {n:Nat} {ps:List Str} {Xs:List V} {H:List (Addr×O)} {post:V→List (Addr×O)→Prop} {body:List Stmt} (F:FnAt c a fd) (D:DefOk fd ps body) (hlen:Xs.length=ps.length)
  (h:∀ A L,Rm n A→WSs c A (callEnvC fd L a) ⟨ps.zip Xs,H⟩ body fun f σ=>post (retV f) σ.hp):CallSpec c (n + 1) a H Xs post:=by
 intro A Z P s vs Q hR I hH hX hQ
 refine E12 F.obj fun o ho hd=>?_
 have hl:vs.length=ps.length:=by rw [← hX.length]; exact hlen
 have hdep:=hR.depth
 refine wpAny_call (codeAny_call_cells (Nat.lt_of_le_of_lt (Nat.le_trans (Nat.le_add_right _ 5) (Nat.le_add_right _ _)) hdep) (I.ground a o ho).2 hd (I.top.nolimit.keeps fun b o e=>(I.ground b o e).2) (F.code.keeps fun b o e=>(I.ground b o e).2) D.body (D.bind vs hl) D.clo (kinds_call D hl) ?_ D.co D.gen D.fn)
 intro s₁ x
 have R:=rel_call (H:=H) D hl I hH hX x
 refine E21 x.toInCall.same fun h₁ tk₁ z2=>?_; subst z2
 have hkp:Kp s.heap h₁:=x.toInCall.keep
 refine wpAny_mono ((h _ _ (hR.deeper _)).run (hR.deeper _).ok Z P _ R) ?_ fun qa qb x=>x.elim
 refine fun f s₂=>R34 fun Z₁ fv σ₁ S₁ R₁ rf k₁=>?_
 have S₀:Step Z P (cr s) Z₁ (cr s₂):=(Step.kp hkp).trans S₁
 cases rf with
 | ret r=>exact hQ _ _ Z₁ s₂ σ₁.hp S₀ R₁.inv R₁.hp r k₁
 | next=>exact hQ _ _ Z₁ s₂ σ₁.hp S₀ R₁.inv R₁.hp .none k₁
 | brk=>exact hQ _ _ Z₁ s₂ σ₁.hp S₀ R₁.inv R₁.hp .none k₁
 | cont=>exact hQ _ _ Z₁ s₂ σ₁.hp S₀ R₁.inv R₁.hp .none k₁
section
variable {c:Cx} {A:Around} {env:Env} {σ:St}
theorem call_from {a:Addr} {n:Nat} {H rest:List (Addr×O)} {Xs:List V} {post:V→List (Addr×O)→Prop} {k:V→St→Prop} {Z₀ Z P:Addr→Prop} {s s₁:Shared} {vs:List Value}
  (S₀:Step Z₀ P (cr s) Z (cr s₁)) (R:Rel c Z P env σ s₁.heap) (hR:Rm n A) (hsplit:σ.hp.Perm (H++rest)) (C:CallSpec c n a H Xs post) (hX:RdL c Z s₁.heap Xs vs) (hk:∀ X H',post X H'→k X ⟨σ.loc,H'++rest⟩) :
  wpAny c.M A (call (.ref a) vs) (Fin c P env (RV c) k Z₀ s) (fun qa qb=>False) s₁:=by
 have hnd:((H++rest).map (·.1)).Nodup:=(hsplit.map _).nodup_iff.mp R.hp.nodup
 rw [List.map_append,List.nodup_append] at hnd
 have memH:∀ b o,(b,o)∈H→(b,o)∈σ.hp:=fun b o h=>hsplit.mem_iff.mpr (List.mem_append_left _ h)
 have memR:∀ b o,(b,o)∈rest→(b,o)∈σ.hp:=fun b o h=>hsplit.mem_iff.mpr (List.mem_append_right _ h)
 have dis:∀ b o o',(b,o)∈H→(b,o')∈rest→False:=fun b o o' h1 h2=>hnd.2.2 b (List.mem_map_of_mem h1) b (List.mem_map_of_mem h2) rfl
 let N:Addr→Prop:=fun b=>OwnA env b∨∃ o,(b,o)∈rest
 have exN:∀ b,N b→∃ o,s₁.heap.get? b=some o:=by
  rintro b (hb | ⟨o,hb⟩)
  ·rcases hb with rfl | ⟨x,h1,h2⟩
   ·refine E42 R.ns fun m o es ep ho qa=>?_; exact ⟨o,ho⟩
   ·refine E22 (R.cells x h1) fun cl v h3 z3=>?_; obtain ⟨o,ho,_⟩:=z3
    rw [h2] at h3; cases h3; exact ⟨o,ho⟩
  ·exact (R.hp.obj b o (memR b o hb)).1.some
 have I:Inv c Z (fun b=>P b∨N b) s₁.heap:=⟨R.inv.ground,R.inv.exZ,fun b p=>p.elim (R.inv.exP b) (exN b),fun b z p=>p.elim (R.inv.off b z) fun n=>by
  rcases n with hb | ⟨o,hb⟩
  ·exact (R.own b hb).1 z
  ·exact (R.hp.obj b o (memR b o hb)).2.1 z,R.inv.sys,R.inv.top,fun q hq=>.inl (R.inv.tp q hq),R.inv.tab⟩
 refine C A Z (fun b=>P b∨N b) s₁ vs _ hR I ⟨fun b o hb=>(I03 ((R.hp.obj b o (memH b o hb)).1) ((R.hp.obj b o (memH b o hb)).2.1) (fun p=>p.elim (R.hp.obj b o (memH b o hb)).2.2 fun n=>?_)),hnd.1⟩ hX ?_
 ·rcases n with h | ⟨o',h⟩
  ·exact R.hpOff b o (memH b o hb) h
  ·exact dis b o o' hb h
 intro v X Z' s' H' S I' hH' r hp
 have hnT:∀ b,N b→¬ isT b:=fun b n=>R.inv.nT (n.elim (fun hb=>(R.own b hb).2) fun ⟨o,hb⟩=>(R.hp.obj b o (memR b o hb)).2.2)
 have hkN:∀ b o,N b→s₁.heap.get? b=some o→s'.heap.get? b=some o:=fun b o n e=>S.keepP b o (.inr n) (hnT b n) e
 refine (fin_mk (S₀.trans ⟨S.grow,S.keepZ,fun b o p n e=>S.keepP b o (.inl p) n e,S.keepT,S.os,S.gens⟩) ?_ r (hk X H' hp))
 exact {
  inv:=⟨I'.ground,I'.exZ,fun b p=>I'.exP b (.inl p),fun b z p=>I'.off b z (.inl p),I'.sys,I'.top,R.inv.tp,I'.tab⟩
  fn:=R.fn
  gl:=R.gl
  bl:=R.bl
  ns:=let ⟨m,o,es,ep,ho,q⟩:=R.ns; (I42 m o es ep (hkN _ _ (.inl (.inl rfl)) ho) q)
  cells:=fun x hx=>let ⟨cl,v,h1,⟨o,ho,q⟩⟩:=R.cells x hx; (I22 cl v h1 (I12 o (hkN _ _ (.inl (.inr (I12 x hx h1))) ho) q))
  inj:=R.inj
  cellL:=R.cellL
  freeP:=R.freeP
  own:=fun b hb=>⟨fun z=>I'.off b z (.inr (.inl hb)),(R.own b hb).2⟩
  vars:=fun x Y e=>by
   refine E12 (R.vars x Y e) fun u hu ru=>?_
   refine (I12 u ?_ (ru.keep S.grow S.keepZ))
   rcases hu with ⟨k1,m,⟨o,es,ep,ho,q⟩,hm1⟩ | ⟨k1,cl,h1,⟨o,ho,q⟩⟩
   ·exact .inl (I02 k1 (I12 m (I32 o es ep (hkN _ _ (.inl (.inl rfl)) ho) q) hm1))
   ·refine .inr (I02 k1 (I12 cl h1 (I12 o ?_ q)))
    rcases k1 with k1 | k1
    ·exact hkN _ _ (.inl (.inr (I12 x k1 h1))) ho
    ·exact S.keepP _ _ (.inl (R.freeP x cl k1 h1)) (R.inv.nTc ⟨o,ho,q⟩) ho
  hp:=⟨fun b o hb=>by
   rcases List.mem_append.mp hb with hb | hb
   ·exact (I03 ((hH'.obj b o hb).1) ((hH'.obj b o hb).2.1) (fun p=>(hH'.obj b o hb).2.2 (.inl p)))
   ·have hr:=R.hp.obj b o (memR b o hb)
    exact (I03 (hr.1.keep S.grow S.keepZ (fun o' e=>hkN b o' (.inr ⟨o,hb⟩) e)) (fun z=>I'.off b z (.inr (.inr ⟨o,hb⟩))) (hr.2.2)),by
   rw [List.map_append,List.nodup_append]
   refine (I03 hH'.nodup (hnd.2.1) ?_)
   rintro b hb b' hb' rfl
   refine E12 (List.mem_map.mp hb) fun z0 hx z2=>?_; obtain ⟨x,o⟩:=z0; subst z2
   refine E12 (List.mem_map.mp hb') fun z0 hy e=>?_; obtain ⟨y,o'⟩:=z0
   simp only at e; subst e
   exact (hH'.obj _ o hx).2.2 (.inr (.inr ⟨o',hy⟩))⟩
  hpOff:=fun b o hb hown=>by
   rcases List.mem_append.mp hb with hb | hb
   ·exact (hH'.obj b o hb).2.2 (.inr (.inl hown))
   ·exact R.hpOff b o (memR b o hb) hown }
theorem load_global {f:Str} {v:Value} {s:Shared} {Z P:Addr→Prop} {Q:Value→Shared→Prop} {E:Value→Shared→Prop} {pos:Pos} (R:Rel c Z P env σ s.heap) (hv:c.mg f=some v) (hk:env.kindOf f=some .globalImplicit) (h:Q v s)
  (hd:(f == ("__debug__" : Str))=false):wpAny c.M A (eval (.Name f pos) env) Q E s :=
 Calls.Name_function_global R.fn hk (Calls.loadGlobal_global (R.gl▸R.inv.top.g.keeps fun b o e=>(R.inv.ground b o e).2) hv h) hd
theorem load_builtin {f:Str} {v:Value} {s:Shared} {Z P:Addr→Prop} {Q:Value→Shared→Prop} {E:Value→Shared→Prop} {pos:Pos} (R:Rel c Z P env σ s.heap) (hm:c.mg f=none) (hv:bootBuiltins f=some v) (hn:f ≠ "__name__") (hk:env.kindOf f=some .globalImplicit) (h:Q v s)
  (hd:(f == ("__debug__" : Str))=false):wpAny c.M A (eval (.Name f pos) env) Q E s :=
 Calls.Name_function_global R.fn hk (Calls.loadGlobal_builtin (R.gl▸R.inv.top.g.keeps fun b o e=>(R.inv.ground b o e).2) hm (R.bl▸R.inv.top.b.keeps fun b o e=>(R.inv.ground b o e).2) ((R.inv.top.blt f hn).trans hv) h) hd
theorem wE_Call {f:Str} {fpos pos:Pos} {e:Expr} {es:List Expr} {a:Addr} {fd:FuncData} {k:V→St→Prop} (hf:c.mg f=some (.ref a)) (F:FnAt c a fd) (hk:env.kindOf f=some .globalImplicit)
  (h:WEs c A env σ pos (e::es) fun Xs σ₁=>∃ n H rest post,Rm n A∧σ₁.hp.Perm (H++rest)∧CallSpec c n a H Xs post∧∀ X H',post X H'→k X ⟨σ₁.loc,H'++rest⟩)
  (hd:(f == ("__debug__" : Str))=false:=by decide) (he:starEach (e::es) env=(false,eval e env)::starEach es env:=by rfl):WE c A env σ (.Call (.Name f fpos) (e::es) [] pos) k:=by
 refine WP.mk fun hA Z P s R=>?_
 refine E12 F.obj fun o ho hdt=>?_
 show wpAny _ _ (do callWith pos (← eval (.Name f fpos) env) [] (backTo pos (starEach (e::es) env)) (backToKw pos (keywordEach [] env))) _ _ s
 refine wpAny_bind (load_global R hf hk ?_ hd)
 have h':=h.run hA Z P s R
 unfold WEs at h
 rw [he] at h' ⊢
 refine Calls.callWith_function (o:=o) (fd:=fd) (Calls.evalArgs_plain (wpAny_mono h' ?_ fun qa qb x=>x))
 refine fun vs s₁=>R34 fun Z₁ Xs σ₁ S₁ R₁ r₁ y0=>E44 y0 fun n H rest post hR hsp hC k₁=>?_
 exact ⟨⟨(R₁.inv.ground a o ho).2,hdt⟩,call_from S₁ R₁ hR hsp hC r₁ k₁⟩
noncomputable def Pure (c:Cx) (n:Nat) (a:Addr) (Xs:List V) (r:V):Prop:=CallSpec c n a [] Xs fun X H'=>X=r∧H'=[]
theorem wE_Pure {f:Str} {fpos pos:Pos} {e:Expr} {es:List Expr} {a:Addr} {fd:FuncData} {k:V→St→Prop} (hf:c.mg f=some (.ref a)) (F:FnAt c a fd) (hk:env.kindOf f=some .globalImplicit)
  (h:WEs c A env σ pos (e::es) fun Xs σ₁=>∃ n r,Rm n A∧Pure c n a Xs r∧k r σ₁)
  (hd:(f == ("__debug__" : Str))=false:=by decide) (he:starEach (e::es) env=(false,eval e env)::starEach es env:=by rfl):WE c A env σ (.Call (.Name f fpos) (e::es) [] pos) k:=by
 refine wE_Call hf F hk ?_ hd he
 refine WP.mk fun hA Z P s R=>?_
 refine wp_then h hA R fun Z₁ s₁ Xs σ₁ vs S₁ R₁ r₁ kk=>?_
 refine E23 kk fun n r hR hC k₁=>?_; clear kk
 exact (I34 Z₁ Xs σ₁ S₁ R₁ r₁ (I44 n [] σ₁.hp _ hR (.refl _) hC (by rintro X H' ⟨rfl,rfl⟩; exact k₁)))
end
end Mine
end
noncomputable section
namespace Mine
open PySem PySem.SeqAt
noncomputable def turnTree (it:Value) (ipos:Pos) (target:Expr) (ifs:List Expr) (env:Env) (inner:Sem PySem.Fin) (nxt:Code):Sem PySem.Fin:=do
 standAt ipos
 match ← pyNext it with
 | none=>pure (.done .next)
 | some v =>
  letOwnedTupleGo target it v
  assign target env v
  let mut ok:=true
  for c in ifs do
   if ok then ok ← isTrue c env (eval c env)
  if ok then inner else again nxt
noncomputable def emitTree (elt:Expr) (acc:Value) (env:Env):Sem Unit:=do let _ ← call (.builtin "list.append") [acc,← eval elt env]
theorem turn_one (elt target iter:Expr) (ifs:List Expr) (scope:Scope) (pos:Pos) (it acc:Value) (env:Env) :
  compTurn (.ListComp elt [⟨target,iter,ifs,0⟩] scope pos) 0 it acc env=turnTree it iter.pos target ifs env (do emitTree elt acc env; again (.compLoop (.ListComp elt [⟨target,iter,ifs,0⟩] scope pos) 0 it acc env)) (.compLoop (.ListComp elt [⟨target,iter,ifs,0⟩] scope pos) 0 it acc env):=by rfl
theorem turn_snd (elt target iter target' iter':Expr) (ifs ifs':List Expr) (scope:Scope) (pos:Pos) (it acc:Value) (env:Env) :
  compTurn (.ListComp elt [⟨target,iter,ifs,0⟩,⟨target',iter',ifs',0⟩] scope pos) 1 it acc env=turnTree it iter'.pos target' ifs' env (do emitTree elt acc env; again (.compLoop (.ListComp elt [⟨target,iter,ifs,0⟩,⟨target',iter',ifs',0⟩] scope pos) 1 it acc env)) (.compLoop (.ListComp elt [⟨target,iter,ifs,0⟩,⟨target',iter',ifs',0⟩] scope pos) 1 it acc env):=by rfl
theorem turn_fst (elt target iter target' iter':Expr) (ifs ifs':List Expr) (scope:Scope) (pos:Pos) (it acc:Value) (env:Env) :
  compTurn (.ListComp elt [⟨target,iter,ifs,0⟩,⟨target',iter',ifs',0⟩] scope pos) 0 it acc env=turnTree it iter.pos target ifs env (do
    let x ← eval iter' env
    standAt iter'.pos
    let x ← foldedSetIterable iter' env x
    let _ ← runOwn (.compStart (.ListComp elt [⟨target,iter,ifs,0⟩,⟨target',iter',ifs',0⟩] scope pos) 1 (← holding [x] (pyIter x)) acc env) env
    again (.compLoop (.ListComp elt [⟨target,iter,ifs,0⟩,⟨target',iter',ifs',0⟩] scope pos) 0 it acc env)) (.compLoop (.ListComp elt [⟨target,iter,ifs,0⟩,⟨target',iter',ifs',0⟩] scope pos) 0 it acc env):=by rfl
section
variable {c:Cx} {A:Around} {env:Env} {σ:St}
noncomputable def testsTree (ifs:List Expr) (env:Env) (b:Bool):Sem Bool:=forIn ifs b fun c r=>if r=true then do let ok ← isTrue c env (eval c env); pure (ForInStep.yield ok) else pure (ForInStep.yield r)
noncomputable def WTs (c:Cx) (A:Around) (env:Env) (σ:St) (ifs:List Expr) (b:Bool) (k:Bool→St→Prop):Prop:=WP c A env σ (testsTree ifs env b) RB k
theorem wTs_nil {b:Bool} {k:Bool→St→Prop} (h:k b σ):WTs c A env σ [] b k:=by
 refine WP.mk fun hA Z P s R=>?_
 unfold testsTree
 rw [List.forIn_nil]
 exact wpAny_pure (fin_mk (Step.refl ..) R rfl h)
theorem wTs_false {ifs:List Expr} {k:Bool→St→Prop} (h:k false σ):WTs c A env σ ifs false k:=by
 induction ifs with
 | nil=>exact wTs_nil h
 | cons e es ih =>
  refine WP.mk fun hA Z P s R=>?_
  unfold testsTree
  rw [List.forIn_cons]
  simp only [Bool.false_eq_true,if_false]
  exact wpAny_bind (wpAny_pure (ih.run hA Z P s R))
theorem wTs_cons {e:Expr} {ifs:List Expr} {k:Bool→St→Prop} (h:WT c A env σ e fun b σ₁=>if b then WTs c A env σ₁ ifs true k else k false σ₁):WTs c A env σ (e::ifs) true k:=by
 refine WP.mk fun hA Z P s R=>?_
 unfold testsTree
 rw [List.forIn_cons]
 simp only [if_true]
 refine wpAny_bind (wpAny_bind (wp_thenB h hA R fun Z₁ s₁ b σ₁ S₁ R₁ k₁=>?_))
 refine wpAny_pure ?_
 cases b with
 | true=>exact wpAny_mono (k₁.run hA Z₁ P _ R₁) (fun qa qb f=>Fin.after S₁ f) fun qa qb x=>x
 | false=>exact wpAny_mono ((wTs_false k₁).run hA Z₁ P _ R₁) (fun qa qb f=>Fin.after S₁ f) fun qa qb x=>x
@[reducible] noncomputable def St.acc (σ:St) (D:Addr) (zs:List V):St:=⟨σ.loc,(D,O.lst zs)::σ.hp⟩
noncomputable def Emits {α:Type} (c:Cx) (A:Around) (env:Env) (σ τ:St) (D:Addr) (t:Sem α) (ys:List V):Prop :=
 AOk A→∀ Z P s zs,zs.length + ys.length≤sizeLine→Rel c Z P env (σ.acc D zs) s.heap→wpAny c.M A t (fun qa s'=>∃ Z',Step Z P (cr s) Z' (cr s')∧Rel c Z' P env (τ.acc D (zs++ys)) s'.heap) (fun qa qb=>False) s
theorem Rel.hp_changed {Z P:Addr→Prop} {h h':Heap} {a:Addr} {o o':O} {rest:List (Addr×O)} (R:Rel c Z P env σ h) (hσ:σ.hp=(a,o)::rest) (hs:Heap.SameBut a h h') (ho:RdO c Z h' a o'):Rel c Z P env ⟨σ.loc,(a,o')::rest⟩ h':=by
 have ha:=R.hp.obj a o (by rw [hσ]; exact .head _)
 have hown:=R.hpOff a o (by rw [hσ]; exact .head _)
 have hnd:=R.hp.nodup
 rw [hσ] at hnd
 simp only [List.map_cons,List.nodup_cons] at hnd
 have R':Rel c Z P env ⟨σ.loc,rest⟩ h:=R.le (I03 (fun x X e=>e) (fun b ob hb=>by rw [hσ]; exact .tail _ hb) (fun qa=>hnd.2))
 have hn:∀ ob,(a,ob)∉rest:=fun ob hb=>hnd.1 (List.mem_map_of_mem (f:=(·.1)) hb)
 have R2:Rel c Z P env ⟨σ.loc,rest⟩ h':=R'.but (N:=fun b=>b=a) (fun b ob n e=>hs.extBut b ob n e) (by rintro b rfl; exact R.inv.nT ha.2.2) (by rintro b rfl; exact ha.2.1) (by rintro b rfl; exact hown) (by rintro b rfl; exact hn)
  (by rintro b p rfl; exact absurd p ha.2.2) (by rintro x cl h1 h2 rfl; exact ha.2.2 (R.freeP x _ h1 h2))
 refine { R2 with
  vars:=R2.vars
  hp:=⟨fun b ob hb=>?_,by simp only [List.map_cons,List.nodup_cons]; exact hnd⟩
  hpOff:=fun b ob hb=>?_ }
 ·rcases List.mem_cons.mp hb with e | hb
  ·cases e; exact ⟨ho,ha.2⟩
  ·exact R2.hp.obj b ob hb
 ·rcases List.mem_cons.mp hb with e | hb
  ·cases e; exact hown
  ·exact R2.hpOff b ob hb
theorem Rel.step_hp {Z P:Addr→Prop} {s:Shared} {h':Heap} {a:Addr} {o:O} (R:Rel c Z P env σ s.heap) (ha:(a,o)∈σ.hp) (hs:Heap.SameBut a s.heap h'):Step Z P (cr s) Z (cr { s with heap:=h' }) :=
 ⟨fun qa z=>z,fun b ob z e=>hs.extBut b ob (fun e'=>(R.hp.obj a o ha).2.1 (e'▸z)) e,fun b ob p qa e=>hs.extBut b ob (fun e'=>(R.hp.obj a o ha).2.2 (e'▸p)) e,fun q hq qa=>R.inv.tabAt (fun b ob z e=>hs.extBut b ob (fun e'=>(R.hp.obj a o ha).2.1 (e'▸z)) e) (fun b ob t e=>hs.extBut b ob (fun e'=>R.inv.nT (R.hp.obj a o ha).2.2 (e'▸t)) e) q hq,rfl,GB.refl _⟩
end
end Mine
end
noncomputable section
namespace Mine
open PySem PySem.SeqAt
section
variable {c:Cx} {A:Around} {env:Env} {σ:St} {Z P:Addr→Prop}
noncomputable def EmitsA (c:Cx) (A:Around) (env:Env) (σ₂ σ:St) (D:Addr) (zs:List V) (t:Sem PySem.Fin) (nxt:Code) (ys:List V):Prop :=
 AOk A→∀ Z P s,zs.length + ys.length≤sizeLine→Rel c Z P env σ₂ s.heap→wpAny c.M A t (fun fin s'=>fin=.again nxt∧∃ Z',Step Z P (cr s) Z' (cr s')∧Rel c Z' P env (σ.acc D (zs++ys)) s'.heap) (fun qa qb=>False) s
theorem emitsA_elt {elt:Expr} {D:Addr} {σ₂:St} {zs ys:List V} {nxt:Code} (h:WE c A env σ₂ elt fun Y σ'=>ys=[Y]∧σ'.le (σ.acc D zs)):EmitsA c A env σ₂ σ D zs (do emitTree elt (.ref D) env; again nxt) nxt ys:=by
 intro hA Z P s hsz R
 unfold emitTree
 refine wpAny_bind (wpAny_bind (wp_then h hA R fun Z₁ s₁ X σ₁ v S₁ R₁ r₁ kk=>?_))
 obtain ⟨rfl,hle⟩:=kk
 have R₂:=R₁.le hle
 refine E03 (R₂.hp.obj D _ (.head _)) fun z0 hz hp=>?_; obtain ⟨items,hpl,rl⟩:=z0
 have hl:=rl.length
 simp only [Array.length_toList] at hl
 simp only [List.length_cons,List.length_nil] at hsz
 refine wpAny_bind (wpAny_list_append_plain (s:=s₁) hpl (fun h' hpl' hs'=>wpAny_pure (wpAny_pure (I02 rfl (I12 Z₁ (S₁.trans (R₂.step_hp (.head _) hs')) (R₂.hp_changed rfl hs' (I12 (items.push v) hpl' ?_)))))) (by omega))
 have:=(rl.append (.cons r₁ .nil)).keep (fun qa z=>z) (fun b o z e=>hs'.extBut b o (fun e'=>hz (e'▸z)) e)
 simpa using this
noncomputable def TurnC (c:Cx) (A:Around) (env:Env) (σ:St) (D:Addr) (target:Expr) (ifs:List Expr) (inner:Sem PySem.Fin) (nxt:Code) (X:V) (ys:List V):Prop :=
 ∀ zs,WA c A env (σ.acc D zs) target X fun σ₁=>WTs c A env σ₁ ifs true fun ok σ₂=>if ok then EmitsA c A env σ₂ σ D zs inner nxt ys else σ₂.le (σ.acc D zs)∧ys=[]
theorem next_bind {β:Type} {target:Expr} {it:Value} {f:Option Value→Sem β} {rest:Value→Sem β} {Q:β→Shared→Prop} {E:Value→Shared→Prop} {s:Shared}
  (h:wpAny c.M A (pyNext it) (fun r s₁=>match r with | none=>False | some v=>wpAny c.M A (letOwnedTupleGo target it v) (fun qa s₂=>wpAny c.M A (rest v) Q E s₂) E s₁) E s)
  (hf:∀ v,f (some v)=(do letOwnedTupleGo target it v; rest v)):wpAny c.M A (pyNext it >>= f) Q E s:=by
 refine wpAny_bind (wpAny_mono h ?_ fun qa qb x=>x)
 intro r s₁ hr
 cases r with
 | none=>exact hr.elim
 | some v=>rw [hf]; exact wpAny_bind hr
theorem compLoop_core {e:Expr} {d:Nat} {target:Expr} {ipos:Pos} {ifs:List Expr} {inner:Sem PySem.Fin} {xs:List V} {I D:Addr} {fp:List Addr} {Stt:Nat→Heap→Prop} {H:Addr→Prop} {s:Shared} {zs:List V} (g:V→List V)
  (hq:(Code.compLoop e d (.ref I) (.ref D) env).quiet=true)
  (hden:c.M.den (.compLoop e d (.ref I) (.ref D) env)=(compTurn e d (.ref I) (.ref D) env).onRaise (fun x=>do noteFrame x env; theTreesLotGoes x)) (hund:A.under (.compLoop e d (.ref I) (.ref D) env)=A)
  (htree:compTurn e d (.ref I) (.ref D) env=turnTree (.ref I) ipos target ifs env inner (.compLoop e d (.ref I) (.ref D) env))
  (hA:AOk A) (W:Iter c A target I fp xs Stt Z s.heap) (hfp:∀ b∈fp,b=I∨Z b∨H b) (hHI:¬ H I)
  (hst:Stt 0 s.heap) (R:Rel c Z P env (σ.acc D zs) s.heap) (hPI:¬ P I) (hZI:¬ Z I) (hOI:¬ OwnA env I) (hHI':∀ o,(I,o)∉(σ.acc D zs).hp)
  (hH:∀ b,H b→(∃ o,s.heap.get? b=some o)∧¬ Z b∧¬ OwnA env b∧∀ o,(b,o)∉(σ.acc D zs).hp) (hHT:∀ b,H b→¬ isT b)
  (hsz:zs.length + (xs.flatMap g).length≤sizeLine)
  (turn:∀ X∈xs,TurnC c A env σ D target ifs inner (.compLoop e d (.ref I) (.ref D) env) X (g X)) :
  codeAny c.M A (.compLoop e d (.ref I) (.ref D) env) (fun r s'=>r=.ok .next∧∃ Z',Step Z (fun b=>P b∨H b) (cr s) Z' (cr s')∧Rel c Z' (fun b=>P b∨H b) env (σ.acc D (zs++xs.flatMap g)) s'.heap) s:=by
 have hfree:=R.freeP
 have hTP:=R.inv.tp
 have hIT:¬ isT I:=R.inv.nT hPI
 have offT:∀ b,b=I→¬ isT b:=fun b e=>e▸hIT
 have hTP':∀ q∈tabs,P q.2∨H q.2:=fun q hq=>.inl (hTP q hq)
 let P₁:Addr→Prop:=fun b=>P b∨(b=I∨H b)
 have hexI:∃ o,s.heap.get? I=some o:=W.ex 0 _ hst
 have R₁:Rel c Z P₁ env (σ.acc D zs) s.heap:=R.protect fun b hb=>by
  rcases hb with rfl | hb
  ·exact (I04 hexI hZI hOI hHI')
  ·exact hH b hb
 refine codeAny_loop (M:=c.M) (A:=A) hq (fun n s'=>∃ i Z',n=xs.length + 1 - i∧i≤xs.length∧Step Z (fun b=>P b∨H b) (cr s) Z' (cr s')∧Rel c Z' P₁ env (σ.acc D (zs++(xs.take i).flatMap g)) s'.heap∧Stt i s'.heap)
  ?_ (xs.length + 1) (I25 0 Z rfl (Nat.zero_le _) (Step.refl ..) (by simpa using R₁) hst)
 refine fun n s'=>R25 fun i Z' z5 hi S' R' hst'=>?_; subst z5
 rw [hund,hden]
 refine wpAny_noted ?_
 rw [htree]
 unfold turnTree
 refine wpAny_bind (wpAny_standAt ?_)
 have hPP:∀ b,(P b∨H b)→P₁ b:=fun b p=>p.elim .inl fun x=>.inr (.inr x)
 have hfree':∀ x cl,env.kindOf x=some .free→env.cells.lookup x=some cl→P cl∨H cl:=fun x cl h1 h2=>.inl (hfree x cl h1 h2)
 generalize hτ:σ.acc D (zs++(xs.take i).flatMap g)=τ at R'
 have offI:∀ b,b=I→¬ Z' b:=by rintro b rfl z; exact R'.inv.off _ z (.inr (.inl rfl))
 have offO:∀ b,b=I→¬ OwnA env b:=by rintro b rfl o; exact (R'.own _ o).2 (.inr (.inl rfl))
 have offH:∀ b,b=I→∀ o,(b,o)∉τ.hp:=by rintro b rfl o ho; exact (R'.hp.obj _ o ho).2.2 (.inr (.inl rfl))
 have offF:∀ x cl,env.kindOf x=some .free→env.cells.lookup x=some cl→¬ cl=I:=fun x cl h1 h2 e=>hPI (e▸hfree x cl h1 h2)
 have ext:∀ h₁:Heap,(∀ b o,b≠I→s'.heap.get? b=some o→h₁.get? b=some o)→Step Z (fun b=>P b∨H b) (cr s) Z' (cr { s' with heap:=h₁ }):=fun h₁ hk =>
  ⟨S'.grow,fun b o z e=>hk b o (by rintro rfl; exact hZI z) (S'.keepZ b o z e),fun b o p n e=>hk b o (by rintro rfl; exact p.elim hPI hHI) (S'.keepP b o p n e),fun q hq t=>(S'.keepT q hq t).at (fun o e=>hk _ o (fun x=>hZI (x▸(R.inv.tab q hq).1)) e) (fun o e=>hk _ o (fun x=>hIT ⟨q,hq,x⟩) e),S'.os,S'.gens⟩
 by_cases hlt:i < xs.length
 ·obtain ⟨X,hX⟩:∃ X,xs[i]?=some X:=⟨xs[i],by simp [hlt]⟩
  refine next_bind (target:=target) (rest:=fun v=>do
    assign target env v
    let ok ← testsTree ifs env true
    if ok then inner else again (.compLoop e d (.ref I) (.ref D) env)) (W.item i X _ Z' _ _ hX hst' S'.grow S'.keepZ ?_) (fun v=>rfl)
  intro v h₁ tk₁ N hst₁ hk₁ hN rX
  have hkI:=W.ex _ _ hst₁
  have R₀:Rel c Z' P₁ env τ h₁:=R'.but (N:=fun b=>b=I) (fun b o n e=>hk₁ b o n e) offT offI offO offH (fun b qa n=>n▸hkI) offF
  have hNn:∀ b,N b→s'.heap.get? b=none:=fun b hb=>(hN b hb).1
  have R₁':Rel c (fun b=>Z' b∨N b) P₁ env τ h₁:=R₀.freeze fun b hb=>by
   refine (I04 ((hN b hb).2) (fun p=>?_) (fun o=>?_) (fun o ho=>?_))
   ·obtain ⟨o,e⟩:=R'.inv.exP b p
    rw [hNn b hb] at e; cases e
   ·rcases o with rfl | ⟨x,h1,h2⟩
    ·refine E42 R'.ns fun m o es ep ho qa=>?_
     rw [hNn _ hb] at ho; cases ho
    ·refine E22 (R'.cells x h1) fun cl v h3 z3=>?_; obtain ⟨o,ho,_⟩:=z3
     rw [h2] at h3; cases h3
     rw [hNn _ hb] at ho; cases ho
   ·obtain ⟨ob,e⟩:=(R'.hp.obj b o ho).1.some
    rw [hNn b hb] at e; cases e
  have S₁:Step Z (fun b=>P b∨H b) (cr s) (fun b=>Z' b∨N b) (cr { s' with heap:=h₁ }):=let x:=ext h₁ hk₁; ⟨fun b z=>.inl (x.grow b z),x.keepZ,x.keepP,x.keepT,x.os,x.gens⟩
  subst hτ
  have hXm:X∈xs:=List.mem_of_getElem? hX
  have htake:(xs.take (i + 1)).flatMap g=(xs.take i).flatMap g++g X:=by
   rw [List.take_add_one,hX]; simp
  have hszi:(zs++(xs.take i).flatMap g).length + (g X).length≤sizeLine:=by
   have h1:((xs.take (i + 1)).flatMap g).length≤(xs.flatMap g).length:=by
    conv=>rhs; rw [← List.take_append_drop (i + 1) xs]
    rw [List.flatMap_append,List.length_append]; exact Nat.le_add_right _ _
   rw [htake,List.length_append] at h1
   rw [List.length_append,Nat.add_assoc]; exact Nat.le_trans (Nat.add_le_add_left h1 _) hsz
  have stop:∀ (Z₃:Addr→Prop) (s₃:Shared),Step (fun b=>Z' b∨N b) P₁ (cr { s' with heap:=h₁ }) Z₃ (cr s₃)→Rel c Z₃ P₁ env (σ.acc D (zs++(xs.take (i + 1)).flatMap g)) s₃.heap →
    ∃ m,m < xs.length + 1 - i∧∃ i' Z',m=xs.length + 1 - i'∧i'≤xs.length∧Step Z (fun b=>P b∨H b) (cr s) Z' (cr s₃)∧Rel c Z' P₁ env (σ.acc D (zs++(xs.take i').flatMap g)) s₃.heap∧Stt i' s₃.heap:=by
   intro Z₃ s₃ S₃ R₃
   have hSt:Stt (i + 1) s₃.heap:=W.frame _ _ _ hst₁ fun b hb o e=>by
    rcases hfp b hb with rfl | z | hh
    ·exact S₃.keepP _ o (.inr (.inl rfl)) hIT e
    ·exact S₃.keepZ _ o (.inl (S'.grow b z)) e
    ·exact S₃.keepP _ o (.inr (.inr hh)) (hHT _ hh) e
   have S₄:Step Z (fun b=>P b∨H b) (cr s) Z₃ (cr s₃):=⟨fun b z=>S₃.grow b (S₁.grow b z),fun b o z e=>S₃.keepZ b o (S₁.grow b z) (S₁.keepZ b o z e),fun b o p n e=>S₃.keepP b o (p.elim .inl fun x=>.inr (.inr x)) n (S₁.keepP b o p n e),fun q hq t=>S₃.keepT q hq (S₁.keepT q hq t),S₃.os.trans S₁.os,S₁.gens.trans S₃.gens⟩
   exact (I12 (xs.length + 1 - (i + 1)) (dec1 hlt) (I25 (i + 1) Z₃ rfl hlt S₄ R₃ hSt))
  refine wpAny_bind (wpAny_mono (turn X hXm (zs++(xs.take i).flatMap g) hA _ P₁ { s' with heap:=h₁,toks:=tk₁ } v R₁' rX) ?_ fun qa qb x=>x.elim)
  refine fun qa s₂=>R34 fun Z₂ qa τ₂ S₂ R₂ qb k₂=>?_
  refine wpAny_bind (m:=testsTree ifs env true) (wp_thenB k₂ hA R₂ fun Z₃ s₃ ok τ₃ S₃ R₃ k₃=>?_)
  cases ok with
  | true =>
   refine wpAny_mono (k₃ hA Z₃ P₁ s₃ hszi R₃) ?_ fun qa qb x=>x.elim
   refine fun fin s₄=>R02 fun z0 y0=>E12 y0 fun Z₄ S₄ R₄=>?_; subst z0
   refine ⟨rfl,stop Z₄ s₄ ((S₂.trans S₃).trans S₄) ?_⟩
   rw [htake,← List.append_assoc]; exact R₄
  | false =>
   obtain ⟨hle,hnil⟩:=k₃
   refine wpAny_pure ⟨rfl,stop Z₃ s₃ (S₂.trans S₃) ?_⟩
   rw [htake,hnil,List.append_nil]; exact R₃.le hle
 ·have hin:i=xs.length:=oe hi hlt
  subst hin
  refine wpAny_bind (W.done _ _ _ hst' fun h₁ tk₁ hk₁=>wpAny_pure ?_)
  have Rp:Rel c Z' (fun b=>P b∨H b) env τ s'.heap:=R'.unprotect hTP' hPP hfree'
  have R₁':Rel c Z' (fun b=>P b∨H b) env τ h₁:=Rp.but (N:=fun b=>b=I) (fun b o n e=>hk₁ b o n e) offT offI offO offH (fun b p n=>absurd p (n▸fun x=>x.elim hPI hHI)) offF
  refine (I02 rfl (I12 Z' (ext h₁ hk₁) ?_))
  rw [← hτ,List.take_length] at R₁'
  exact R₁'
end
end Mine
end
noncomputable section
namespace Mine
open PySem PySem.SeqAt
theorem lookup_append {α:Type} (l₁ l₂:List (Str×α)) (x:Str):(l₁++l₂).lookup x=(l₁.lookup x).or (l₂.lookup x):=by
 induction l₁ with
 | nil=>simp
 | cons p r ih =>
  obtain ⟨n,v⟩:=p
  simp only [List.cons_append,List.lookup_cons]
  cases x == n
  ·exact ih
  ·rfl
theorem cellsFrom_append:∀ (names:List (Str×NameKind)) (n:Nat) (acc cl:List (Str×Addr)),cellsFrom n names (acc++cl)=cellsFrom n names acc++cl
 | [],n,acc,cl=>rfl
 | (m,k)::r,n,acc,cl=>by
  unfold cellsFrom
  split
  ·exact cellsFrom_append r (n + 1) ((m,n)::acc) cl
  ·exact cellsFrom_append r n acc cl
theorem cellsFrom_keys:∀ (names:List (Str×NameKind)) (n:Nat) (acc:List (Str×Addr)) (x:Str) (a:Addr),(x,a)∈cellsFrom n names acc→(x,a)∈acc∨(x,NameKind.cell)∈names
 | [],n,acc,x,a,h=>.inl h
 | (m,k)::r,n,acc,x,a,h=>by
  unfold cellsFrom at h
  split at h
  ·rename_i hk
   rcases cellsFrom_keys r (n + 1) _ x a h with h | h
   ·rcases List.mem_cons.mp h with e | h
    ·cases e
     have:k=.cell:=by simpa using hk
     exact .inr (by rw [this]; exact .head _)
    ·exact .inl h
   ·exact .inr (.tail _ h)
  ·rcases cellsFrom_keys r n acc x a h with h | h
   ·exact .inl h
   ·exact .inr (.tail _ h)
noncomputable def closL (env:Env):List (Str×NameKind)→List (Str×Addr)→List (Str×Addr)
 | [],acc=>acc
 | (n,k)::r,acc=>if k == .free then closL env r ((n,(env.cells.lookup n).getD 0)::acc) else closL env r acc
theorem closureFor_go (env:Env) (f:Str×NameKind→List (Str×Addr)→Sem (ForInStep (List (Str×Addr)))) (hf:∀ n k acc,f (n,k) acc=if k == .free then (do let a ← cellOf env n; pure (.yield ((n,a)::acc))) else pure (.yield acc)) :
  ∀ (names:List (Str×NameKind)) (acc:List (Str×Addr)),(∀ p∈names,p.2=.free→(env.cells.lookup p.1).isSome=true)→forIn names acc f=(pure (closL env names acc):Sem _)
 | [],acc,_=>by rw [List.forIn_nil]; rfl
 | (n,k)::r,acc,h=>by
  rw [List.forIn_cons,hf]
  unfold closL
  split
  ·rename_i hk
   have hk':k=.free:=by simpa using hk
   obtain ⟨a,ha⟩:=Option.isSome_iff_exists.mp (h (n,k) (.head _) hk')
   unfold cellOf
   rw [ha]
   simp only [pure_bind,Option.getD_some]
   exact closureFor_go env f hf r _ fun p hp=>h p (.tail _ hp)
  ·simp only [pure_bind]
   exact closureFor_go env f hf r _ fun p hp=>h p (.tail _ hp)
theorem closureFor_eq {scope:Scope} {env:Env} (h:∀ p∈scope.names,p.2=.free→(env.cells.lookup p.1).isSome=true):closureFor scope env=pure (closL env scope.names []):=by
 unfold closureFor
 dsimp only
 rw [closureFor_go env _ (fun n k acc=>by cases hk:k == NameKind.free <;> simp [hk]) _ _ h]
 rfl
theorem closL_mem {env:Env}:∀ (names:List (Str×NameKind)) (acc:List (Str×Addr)) (x:Str) (a:Addr),(x,a)∈closL env names acc→(x,a)∈acc∨((x,NameKind.free)∈names∧a=(env.cells.lookup x).getD 0)
 | [],acc,x,a,h=>.inl h
 | (m,k)::r,acc,x,a,h=>by
  unfold closL at h
  split at h
  ·rename_i hk
   have hk':k=.free:=by simpa using hk
   rcases closL_mem r _ x a h with h | h
   ·rcases List.mem_cons.mp h with e | h
    ·cases e; exact .inr ⟨by rw [hk']; exact .head _,rfl⟩
    ·exact .inl h
   ·exact .inr ⟨.tail _ h.1,h.2⟩
  ·rcases closL_mem r acc x a h with h | h
   ·exact .inl h
   ·exact .inr ⟨.tail _ h.1,h.2⟩
theorem closL_has {env:Env}:∀ (names:List (Str×NameKind)) (acc:List (Str×Addr)) (x:Str),((x,NameKind.free)∈names∨∃ a,(x,a)∈acc)→∃ a,(x,a)∈closL env names acc
 | [],acc,x,h=>h.elim (fun h=>nomatch h) id
 | (m,k)::r,acc,x,h=>by
  unfold closL
  split
  ·rename_i hk
   refine closL_has r _ x ?_
   rcases h with h | ⟨a,h⟩
   ·rcases List.mem_cons.mp h with e | h
    ·cases e; exact .inr ⟨_,.head _⟩
    ·exact .inl h
   ·exact .inr ⟨a,.tail _ h⟩
  ·rename_i hk
   refine closL_has r _ x ?_
   rcases h with h | h
   ·rcases List.mem_cons.mp h with e | h
    ·cases e; exact absurd rfl hk
    ·exact .inl h
   ·exact .inr h
theorem lookup_of_mem {α:Type}:∀ {l:List (Str×α)} {x:Str} {a:α},(l.map (·.1)).Nodup→(x,a)∈l→l.lookup x=some a
 | (n,b)::r,x,a,hn,h=>by
  simp only [List.map_cons,List.nodup_cons] at hn
  rw [List.lookup_cons]
  rcases List.mem_cons.mp h with e | h'
  ·cases e; simp
  ·have:(x == n)=false:=by
    simp only [beq_eq_false_iff_ne]
    rintro rfl; exact hn.1 (List.mem_map_of_mem (f:=(·.1)) h')
   rw [this]; exact lookup_of_mem hn.2 h'
theorem lookup_none_of {α:Type}:∀ {l:List (Str×α)} {x:Str},(∀ a,(x,a)∉l)→l.lookup x=none
 | [],x,_=>rfl
 | (n,b)::r,x,h=>by
  rw [List.lookup_cons]
  have:(x == n)=false:=by
   simp only [beq_eq_false_iff_ne]
   rintro rfl; exact h b (.head _)
  rw [this]; exact lookup_none_of fun a ha=>h a (.tail _ ha)
theorem exists_lookup {α:Type}:∀ {l:List (Str×α)} {x:Str} {a:α},(x,a)∈l→∃ b,l.lookup x=some b
 | (n,b)::r,x,a,h=>by
  rw [List.lookup_cons]
  cases hx:x == n with
  | true=>exact ⟨b,rfl⟩
  | false =>
   rcases List.mem_cons.mp h with e | h
   ·cases e; simp at hx
   ·exact exists_lookup h
noncomputable def compCells (scope:Scope) (env:Env) (C:Addr):List (Str×Addr):=cellsFrom (C + 1) scope.names (closL env scope.names [])
noncomputable def cenvOf (scope:Scope) (env:Env) (C:Addr):Env:=compEnvC scope (compCells scope env C) C env
theorem relabel_lookup {env:Env} (hfn:env.scope.kind=.function):∀ (names:List (Str×NameKind)) (x:Str),(names.map fun (n,k)=>if (k == NameKind.free&&env.scope.kind == .function&&env.kindOf n == some .cell) then (n,NameKind.cell) else (n,k)).lookup x
  = match names.lookup x with | some .free=>if env.kindOf x=some .cell then some .cell else some .free | o=>o
 | [],x=>rfl
 | (n,k)::r,x=>by
  have ih:=relabel_lookup hfn r x
  show List.lookup x ((if (k == NameKind.free&&env.scope.kind == .function&&env.kindOf n == some .cell)=true then (n,NameKind.cell) else (n,k))::_)=_
  rw [show (List.lookup x ((n,k)::r))=(match x == n with | true=>some k | false=>List.lookup x r) from List.lookup_cons ..]
  cases hx:x == n with
  | true =>
   have hxn:x=n:=by simpa using hx
   subst hxn
   dsimp only
   by_cases hc:(k == NameKind.free&&env.scope.kind == .function&&env.kindOf x == some .cell)=true
   ·rw [if_pos hc,List.lookup_cons,hx]
    simp only [Bool.and_eq_true,beq_iff_eq] at hc
    obtain ⟨⟨rfl,_⟩,h2⟩:=hc
    simp [h2]
   ·rw [if_neg hc,List.lookup_cons,hx]
    dsimp only
    cases k <;> try rfl
    have:¬ env.kindOf x=some .cell:=by
     intro h2; apply hc; rw [hfn,h2]; rfl
    simp [this]
  | false =>
   dsimp only
   by_cases hc:(k == NameKind.free&&env.scope.kind == .function&&env.kindOf n == some .cell)=true
   ·rw [if_pos hc,List.lookup_cons,hx]; exact ih
   ·rw [if_neg hc,List.lookup_cons,hx]; exact ih
theorem kindOf_cenv {scope:Scope} {env:Env} {C:Addr} (hfn:env.scope.kind=.function) (x:Str):(cenvOf scope env C).kindOf x=match scope.names.lookup x with | some .free=>if env.kindOf x=some .cell then some .cell else some .free | o=>o :=
 relabel_lookup hfn scope.names x
structure CompOk (scope:Scope) (env:Env):Prop where
 fn:scope.kind=.function
 nodup:(scope.names.map (·.1)).Nodup
 free:∀ p∈scope.names,p.2=.free→env.kindOf p.1=some .cell
noncomputable def capsOf (scope:Scope) (loc:List (Str×V)):List (Str×V):=loc.filter fun p=>scope.names.lookup p.1 == some .free
theorem lookup_caps {scope:Scope} (loc:List (Str×V)) (x:Str):(capsOf scope loc).lookup x=if scope.names.lookup x=some .free then loc.lookup x else none:=by
 unfold capsOf
 induction loc with
 | nil=>simp
 | cons p r ih =>
  obtain ⟨n,X⟩:=p
  rw [List.filter_cons]
  by_cases hn:scope.names.lookup n=some .free
  ·simp only [hn,beq_self_eq_true,if_true,List.lookup_cons]
   cases hx:x == n with
   | true =>
    have:x=n:=by simpa using hx
    subst this; simp [hn]
   | false=>exact ih
  ·have:(scope.names.lookup n == some NameKind.free)=false:=by simpa using hn
   simp only [this,Bool.false_eq_true,if_false,ih,List.lookup_cons]
   cases hx:x == n with
   | true =>
    have:x=n:=by simpa using hx
    subst this; simp [hn]
   | false=>rfl
section
variable {c:Cx} {A:Around} {env:Env} {σ:St} {Z P:Addr→Prop}
theorem cells_captured {scope:Scope} {h:Heap} (O:CompOk scope env) (hcells:∀ x,env.kindOf x=some .cell→∃ cl v,env.cells.lookup x=some cl∧h.IsCell cl v) {C:Addr} {x:Str} (hx:scope.names.lookup x=some .free) :
  (compCells scope env C).lookup x=env.cells.lookup x:=by
 have hm:=PySem.mem_of_lookup hx
 refine E22 (hcells x (O.free (x,.free) hm rfl)) fun cl v h1 qa=>?_
 have e:compCells scope env C=cellsFrom (C + 1) scope.names []++closL env scope.names []:=by
  unfold compCells
  rw [show closL env scope.names []=[]++closL env scope.names [] from rfl,cellsFrom_append]; simp
 have hnone:(cellsFrom (C + 1) scope.names []).lookup x=none:=lookup_none_of fun a ha=>by
  rcases cellsFrom_keys _ _ _ _ _ ha with h | h
  ·cases h
  ·have:=lookup_of_mem O.nodup h
   rw [hx] at this; cases this
 rw [e,lookup_append,hnone,Option.none_or]
 obtain ⟨a,ha⟩:=closL_has (env:=env) scope.names [] x (.inl hm)
 obtain ⟨b,hb⟩:=exists_lookup ha
 have hmb:=PySem.mem_of_lookup hb
 rcases closL_mem _ _ _ _ hmb with h | ⟨_,h⟩
 ·cases h
 ·rw [hb,h,h1]; rfl
theorem cells_own {scope:Scope} {C:Addr} {x:Str} (hx:scope.names.lookup x=some .cell):∃ b,(compCells scope env C).lookup x=some b∧(cellsFrom (C + 1) scope.names []).lookup x=some b:=by
 have e:compCells scope env C=cellsFrom (C + 1) scope.names []++closL env scope.names []:=by
  unfold compCells
  rw [show closL env scope.names []=[]++closL env scope.names [] from rfl,cellsFrom_append]; simp
 obtain ⟨b,hb⟩:=Option.isSome_iff_exists.mp (cellsFrom_some (n:=C + 1) (acc:=[]) hx)
 exact (I12 b (by rw [e,lookup_append,hb]; rfl) hb)
theorem newEnv_comp {scope:Scope} {s:Shared} {Q:Env→Shared→Prop} {E:Value→Shared→Prop}
  (hQ:∀ h',Kp s.heap h'→h'.Ns s.heap.objs.size (fun qa=>none)→CellsOk h' (s.heap.objs.size + 1) (cellsFrom (s.heap.objs.size + 1) scope.names []) →
   Q { scope:=scope,locals:=s.heap.objs.size,globals:=env.globals,cells:=compCells scope env s.heap.objs.size,qual:=env.qual,func:=none,code:=env.code,frame:=env.frame,builtins:=env.builtins } { s with heap:=h' }) :
  wpAny c.M A (newFunctionEnv scope env.globals (closL env scope.names []) [] env.qual none .none (some env)) Q E s:=by
 simp only [newFunctionEnv,Option.isSome_some,if_true]
 refine wpAny_bind (wpAny_alloc ?_)
 refine wpAny_bind (wpAny_layCells _ (fun name kind cells=>by cases hkc:kind == NameKind.cell <;> simp [hkc]) _ _ _ _ ?_)
 have ok:=cellsFrom_ok scope.names (s.heap.push { cls:=.type "dict", data:=.dict #[] }) (s.heap.objs.size + 1) [] ⟨fun qa qb hm=>(nomatch hm),List.Pairwise.nil⟩ (by rw [Heap.size_push]; exact Nat.le_refl _)
 rw [Heap.size_push] at ok
 rw [show ({ s with heap:=s.heap.push { cls:=.type "dict", data:=.dict #[] } }:Shared).heap.objs.size=s.heap.objs.size + 1 from Heap.size_push ..]
 simp only [List.forIn_nil,pure_bind]
 exact wpAny_pure (hQ _ (fun b o e=>pushCells_keeps _ _ b o (Heap.get?_push_of_some _ e)) ((Heap.Ns.new s.heap (.type "dict")).keeps (pushCells_keeps _ _)) ok)
end
end Mine
end
noncomputable section
namespace Mine
open PySem PySem.SeqAt
section
variable {c:Cx} {A:Around} {env:Env} {σ:St} {Z P:Addr→Prop}
noncomputable def Capt (scope:Scope) (env:Env) (b:Addr):Prop:=∃ x,scope.names.lookup x=some .free∧env.cells.lookup x=some b
noncomputable def Rest (scope:Scope) (env:Env) (b:Addr):Prop:=OwnA env b∧¬ Capt scope env b
theorem Rel.exOwn {h:Heap} (R:Rel c Z P env σ h) {b:Addr} (hb:OwnA env b):∃ o,h.get? b=some o:=by
 rcases hb with rfl | ⟨x,h1,h2⟩
 ·refine E42 R.ns fun m o es ep ho qa=>?_; exact ⟨o,ho⟩
 ·refine E22 (R.cells x h1) fun cl v h3 z3=>?_; obtain ⟨o,ho,_⟩:=z3
  rw [h2] at h3; cases h3; exact ⟨o,ho⟩
theorem capt_own {scope:Scope} (O:CompOk scope env) {b:Addr} (h:Capt scope env b):OwnA env b:=by
 refine E12 h fun x h1 h2=>?_; clear h
 exact .inr (I12 x (O.free (x,.free) (PySem.mem_of_lookup h1) rfl) h2)
theorem own_cenv {scope:Scope} {h:Heap} (R:Rel c Z P env σ h) (O:CompOk scope env) {C b:Addr} (hb:OwnA (cenvOf scope env C) b):b=C∨Capt scope env b∨∃ x,(cellsFrom (C + 1) scope.names []).lookup x=some b:=by
 rcases hb with rfl | ⟨x,h1,h2⟩
 ·exact .inl rfl
 ·rw [kindOf_cenv R.fn] at h1
  have h2':(compCells scope env C).lookup x=some b:=h2
  cases hx:scope.names.lookup x with
  | none=>rw [hx] at h1; cases h1
  | some k =>
   rw [hx] at h1
   cases k <;> simp at h1
   ·refine E12 (cells_own (env:=env) (C:=C) hx) fun b' h3 h4=>?_
    rw [h2'] at h3; cases h3
    exact .inr (.inr ⟨x,h4⟩)
   ·rw [cells_captured O R.cells hx] at h2'
    exact .inr (.inl (I12 x hx h2'))
theorem capt_cenv {scope:Scope} {h:Heap} (R:Rel c Z P env σ h) (O:CompOk scope env) {C b:Addr} (hb:Capt scope env b):OwnA (cenvOf scope env C) b:=by
 refine E12 hb fun x h1 h2=>?_; clear hb
 refine .inr (I12 x ?_ ?_)
 ·rw [kindOf_cenv R.fn,h1]
  simp only [O.free (x,.free) (PySem.mem_of_lookup h1) rfl,if_true]
 ·show (compCells scope env C).lookup x=some b
  rw [cells_captured O R.cells h1]; exact h2
theorem Rel.enter {scope:Scope} {h h':Heap} (R:Rel c Z P env σ h) (O:CompOk scope env) (hk:Kp h h') (hns:h'.Ns h.objs.size fun qa=>none) (hok:CellsOk h' (h.objs.size + 1) (cellsFrom (h.objs.size + 1) scope.names [])) :
  Rel c Z (fun b=>P b∨Rest scope env b) (cenvOf scope env h.objs.size) ⟨capsOf scope σ.loc,σ.hp⟩ h':=by
 have R':=R.kp hk
 have hC:h.get? h.objs.size=none:=fresh_none _ _ (Nat.le_refl _)
 have newCell:∀ x b,(cellsFrom (h.objs.size + 1) scope.names []).lookup x=some b→h.get? b=none∧h.objs.size < b∧h'.IsCell b none:=fun x b hb =>
  (I03 (fresh_none _ _ (Nat.le_of_succ_le (hok.empty x b (PySem.mem_of_lookup hb)).2)) ((hok.empty x b (PySem.mem_of_lookup hb)).2) ((hok.empty x b (PySem.mem_of_lookup hb)).1))
 have none_not:∀ b,h.get? b=none→¬ Z b∧¬ P b∧¬ OwnA env b∧∀ o,(b,o)∉σ.hp:=by
  intro b hb
  refine (I04 (fun z=>?_) (fun p=>?_) (fun o=>?_) (fun o ho=>?_))
  ·obtain ⟨o,e⟩:=R.inv.exZ b z; rw [hb] at e; cases e
  ·obtain ⟨o,e⟩:=R.inv.exP b p; rw [hb] at e; cases e
  ·obtain ⟨o',e⟩:=R.exOwn o; rw [hb] at e; cases e
  ·obtain ⟨ob,e⟩:=(R.hp.obj b o ho).1.some; rw [hb] at e; cases e
 refine {
  inv:=⟨R'.inv.ground,R'.inv.exZ,fun b p=>p.elim (R'.inv.exP b) fun n=>R'.exOwn n.1,fun b z p=>p.elim (R'.inv.off b z) fun n=>(R'.own b n.1).1 z,R'.inv.sys,R'.inv.top,fun q hq=>.inl (R'.inv.tp q hq),R'.inv.tab⟩
  fn:=O.fn
  gl:=R.gl
  bl:=R.bl
  ns:=⟨_,hns⟩
  cells:=fun x hx=>?_
  inj:=fun x y cl hx hy h1 h2=>?_
  cellL:=fun x cl hx h1=>?_
  freeP:=fun x cl hx h1=>?_
  own:=fun b hb=>?_
  vars:=fun x X e=>?_
  hp:=⟨fun b o hb=>?_,R.hp.nodup⟩
  hpOff:=fun b o hb hown=>?_ }
 ·rw [kindOf_cenv R.fn] at hx
  cases hs:scope.names.lookup x with
  | none=>rw [hs] at hx; cases hx
  | some k =>
   rw [hs] at hx
   cases k <;> simp at hx
   ·refine E12 (cells_own (env:=env) (C:=h.objs.size) hs) fun b h3 h4=>?_
    exact (I22 b _ h3 ((newCell x b h4).2.2))
   ·refine E22 (R'.cells x hx) fun cl v h1 h2=>?_
    exact (I22 cl v ((cells_captured O R.cells hs).trans h1) h2)
 ·have h1':(compCells scope env h.objs.size).lookup x=some cl:=h1
  have h2':(compCells scope env h.objs.size).lookup y=some cl:=h2
  rw [kindOf_cenv R.fn] at hx hy
  have one:∀ z,(match scope.names.lookup z with | some .free=>if env.kindOf z=some .cell then some NameKind.cell else some .free | o=>o)=some .cell→(scope.names.lookup z=some .cell∧(cellsFrom (h.objs.size + 1) scope.names []).lookup z=(compCells scope env h.objs.size).lookup z)∨(env.kindOf z=some .cell∧(compCells scope env h.objs.size).lookup z=env.cells.lookup z):=by
   intro z hz
   cases hs:scope.names.lookup z with
   | none=>rw [hs] at hz; cases hz
   | some k =>
    rw [hs] at hz
    cases k <;> simp at hz
    ·refine E12 (cells_own (env:=env) (C:=h.objs.size) hs) fun b h3 h4=>?_
     exact .inl ⟨rfl,by rw [h3,h4]⟩
    ·exact .inr ⟨hz,cells_captured O R.cells hs⟩
  rcases one x hx with ⟨_,a1⟩ | ⟨a0,a1⟩ <;> rcases one y hy with ⟨_,b1⟩ | ⟨b0,b1⟩
  ·rw [h1'] at a1; rw [h2'] at b1
   exact name_of_addr hok.apart (PySem.mem_of_lookup a1) (PySem.mem_of_lookup b1)
  ·rw [h1'] at a1; rw [h2'] at b1
   obtain ⟨o,e⟩:=R.exOwn (.inr (I12 y b0 b1.symm))
   rw [(newCell x cl a1).1] at e; cases e
  ·rw [h1'] at a1; rw [h2'] at b1
   obtain ⟨o,e⟩:=R.exOwn (.inr (I12 x a0 a1.symm))
   rw [(newCell y cl b1).1] at e; cases e
  ·rw [h1'] at a1; rw [h2'] at b1
   exact R.inj x y cl a0 b0 a1.symm b1.symm
 ·rcases own_cenv R O (C:=h.objs.size) (.inr (I12 x hx h1)) with rfl | hc | ⟨y,hy⟩
  ·exfalso
   have h1':(compCells scope env h.objs.size).lookup x=some h.objs.size:=h1
   rw [kindOf_cenv R.fn] at hx
   cases hs:scope.names.lookup x with
   | none=>rw [hs] at hx; cases hx
   | some k =>
    rw [hs] at hx
    cases k <;> simp at hx
    ·refine E12 (cells_own (env:=env) (C:=h.objs.size) hs) fun b h3 h4=>?_
     rw [h1'] at h3; cases h3
     exact Nat.lt_irrefl _ (newCell x _ h4).2.1
    ·rw [cells_captured O R.cells hs] at h1'
     obtain ⟨o,e⟩:=R.exOwn (.inr (I12 x hx h1'))
     rw [hC] at e; cases e
  ·intro e
   obtain ⟨o,e'⟩:=R.exOwn (capt_own O hc)
   have:cl=h.objs.size:=e
   rw [this,hC] at e'; cases e'
  ·exact Nat.ne_of_gt (newCell y cl hy).2.1
 ·exfalso
  rw [kindOf_cenv R.fn] at hx
  cases hs:scope.names.lookup x with
  | none=>rw [hs] at hx; cases hx
  | some k =>
   rw [hs] at hx
   cases k <;> simp at hx
   exact hx (O.free (x,.free) (PySem.mem_of_lookup hs) rfl)
 ·rcases own_cenv R O hb with rfl | hc | ⟨y,hy⟩
  ·have:=none_not _ hC
   exact ⟨this.1,fun p=>p.elim this.2.1 fun n=>this.2.2.1 n.1⟩
  ·exact ⟨(R.own b (capt_own O hc)).1,fun p=>p.elim (R.own b (capt_own O hc)).2 fun n=>n.2 hc⟩
  ·have:=none_not _ (newCell y b hy).1
   exact ⟨this.1,fun p=>p.elim this.2.1 fun n=>this.2.2.1 n.1⟩
 ·rw [lookup_caps] at e
  by_cases hs:scope.names.lookup x=some .free
  ·rw [if_pos hs] at e
   refine E12 (R'.vars x X e) fun v hv r=>?_
   have hkx:=O.free (x,.free) (PySem.mem_of_lookup hs) rfl
   refine (I12 v (.inr ⟨.inl ?_,?_⟩) r)
   ·rw [kindOf_cenv R.fn,hs]; simp [hkx]
   ·rcases hv with ⟨k1,_⟩ | ⟨_,cl,h1,h2⟩
    ·rw [hkx] at k1; cases k1
    ·exact (I12 cl ((cells_captured O R.cells hs).trans h1) h2)
  ·rw [if_neg hs] at e; cases e
 ·have:=R'.hp.obj b o hb
  exact (I03 (this.1) (this.2.1) (fun p=>p.elim this.2.2 fun n=>R'.hpOff b o hb n.1))
 ·rcases own_cenv R O hown with rfl | hc | ⟨y,hy⟩
  ·exact (none_not _ hC).2.2.2 o hb
  ·exact R.hpOff b o hb (capt_own O hc)
  ·exact (none_not _ (newCell y b hy).1).2.2.2 o hb
theorem Rel.leave {scope:Scope} {h h':Heap} {g g':Array GenState×OsState} {Z':Addr→Prop} {C:Addr} {hp':List (Addr×O)} {P':Addr→Prop} (R:Rel c Z P env σ h) (O:CompOk scope env) (hC:h.get? C=none)
  (R':Rel c Z' P' (cenvOf scope env C) ⟨capsOf scope σ.loc,hp'⟩ h') (hP':∀ b,(P b∨Rest scope env b)→P' b) (S:Step Z P' (h,g) Z' (h',g')):Rel c Z' (fun b=>P b∨b=C) env ⟨σ.loc,hp'⟩ h':=by
 have hrest:∀ x cl,env.kindOf x=some .cell→env.cells.lookup x=some cl→¬ scope.names.lookup x=some .free→Rest scope env cl:=fun x cl h1 h2 h3 =>
  ⟨.inr (I12 x h1 h2),fun ⟨y,hy1,hy2⟩=>by
   have:=R.inj x y cl h1 (O.free (y,.free) (PySem.mem_of_lookup hy1) rfl) h2 hy2
   subst this; exact h3 hy1⟩
 have hL:Rest scope env env.locals:=⟨.inl rfl,fun ⟨y,hy1,hy2⟩=>R.cellL y _ (O.free (y,.free) (PySem.mem_of_lookup hy1) rfl) hy2 rfl⟩
 have keepR:∀ b o,Rest scope env b→h.get? b=some o→h'.get? b=some o:=fun b o n e=>S.keepP b o (hP' b (.inr n)) (R.inv.nT (R.own b n.1).2) e
 have hCown:OwnA (cenvOf scope env C) C:=.inl rfl
 have offOwn:∀ b,OwnA env b→¬ Z' b:=fun b hb z=>by
  by_cases hc:Capt scope env b
  ·exact (R'.own b (capt_cenv R O hc)).1 z
  ·exact R'.inv.off b z (hP' b (.inr ⟨hb,hc⟩))
 have hCo:∀ b,OwnA env b→b≠C:=fun b hb e=>by
  obtain ⟨o,e'⟩:=R.exOwn hb
  rw [e,hC] at e'; cases e'
 refine {
  inv:=⟨R'.inv.ground,R'.inv.exZ,fun b p=>p.elim (fun p=>R'.inv.exP b (hP' b (.inl p))) fun e=>e▸R'.exOwn hCown,fun b z p=>p.elim (fun p=>R'.inv.off b z (hP' b (.inl p))) fun e=>(R'.own C hCown).1 (e▸z),R'.inv.sys,R'.inv.top,fun q hq=>.inl (R.inv.tp q hq),R'.inv.tab⟩
  fn:=R.fn
  gl:=R.gl
  bl:=R.bl
  ns:=let ⟨m,o,es,ep,ho,q⟩:=R.ns; (I42 m o es ep (keepR _ _ hL ho) q)
  cells:=fun x hx=>?_
  inj:=R.inj
  cellL:=R.cellL
  freeP:=fun x cl h1 h2=>.inl (R.freeP x cl h1 h2)
  own:=fun b hb=>⟨offOwn b hb,fun p=>p.elim (R.own b hb).2 (hCo b hb)⟩
  vars:=fun x X e=>?_
  hp:=⟨fun b o hb=>(I03 ((R'.hp.obj b o hb).1) ((R'.hp.obj b o hb).2.1) (fun p=>p.elim (fun p=>(R'.hp.obj b o hb).2.2 (hP' b (.inl p))) fun e=>R'.hpOff b o hb (e▸hCown))),R'.hp.nodup⟩
  hpOff:=fun b o hb hown=>?_ }
 ·refine E22 (R.cells x hx) fun cl v h1 z3=>?_; obtain ⟨o,ho,q⟩:=z3
  by_cases hs:scope.names.lookup x=some .free
  ·refine E22 (R'.cells x (by rw [kindOf_cenv R.fn,hs]; simp [hx])) fun cl' v' h1' h2'=>?_
   have h1'':(compCells scope env C).lookup x=some cl':=h1'
   rw [cells_captured O R.cells hs] at h1''
   exact (I22 cl' v' h1'' h2')
  ·exact (I22 cl v h1 (I12 o (keepR _ _ (hrest x cl hx h1 hs) ho) q))
 ·refine E12 (R.vars x X e) fun v hv r=>?_
  rcases hv with ⟨k1,m,⟨o,es,ep,ho,q⟩,hm1⟩ | ⟨k1,cl,h1,⟨o,ho,q⟩⟩
  ·exact (I12 v (.inl (I02 k1 (I12 m (I32 o es ep (keepR _ _ hL ho) q) hm1))) (r.keep S.grow S.keepZ))
  ·rcases k1 with k1 | k1
   ·by_cases hs:scope.names.lookup x=some .free
    ·refine E12 (R'.vars x X (by rw [lookup_caps,if_pos hs]; exact e)) fun v' hv' r'=>?_
     refine (I12 v' (.inr ⟨.inl k1,?_⟩) r')
     rcases hv' with ⟨k2,_⟩ | ⟨_,cl',h1',h2'⟩
     ·rw [kindOf_cenv R.fn,hs] at k2; simp [k1] at k2
     ·have h1'':(compCells scope env C).lookup x=some cl':=h1'
      rw [cells_captured O R.cells hs] at h1''
      exact (I12 cl' h1'' h2')
    ·exact (I12 v (.inr (I02 (.inl k1) (I12 cl h1 (I12 o (keepR _ _ (hrest x cl k1 h1 hs) ho) q)))) (r.keep S.grow S.keepZ))
   ·exact (I12 v (.inr (I02 (.inr k1) (I12 cl h1 (I12 o (S.keepP _ _ (hP' _ (.inl (R.freeP x cl k1 h1))) (R.inv.nTc ⟨o,ho,q⟩) ho) q)))) (r.keep S.grow S.keepZ))
 ·by_cases hc:Capt scope env b
  ·exact R'.hpOff b o hb (capt_cenv R O hc)
  ·exact (R'.hp.obj b o hb).2.2 (hP' b (.inr ⟨hown,hc⟩))
end
end Mine
end
noncomputable section
namespace Mine
open PySem PySem.SeqAt
section
variable {c:Cx} {A:Around} {env:Env} {σ:St} {Z P:Addr→Prop}
theorem compStart_any {elt:Expr} {gens:List Comprehension} {scope:Scope} {pos:Pos} {d:Nat} {g:Comprehension} {it acc:Value} {R:Result→Shared→Prop} {s:Shared} (hg:gens[d]?=some g) (ha:g.is_async=0)
  (h0:codeAny c.M A (.compLoop (.ListComp elt gens scope pos) d it acc env) R s)
  (h:wpAny c.M A (pyIter it) (fun it' s'=>codeAny c.M A (.compLoop (.ListComp elt gens scope pos) d it' acc env) R s') (fun qa qb=>False) s) :
  codeAny c.M A (.compStart (.ListComp elt gens scope pos) d it acc env) R s:=by
 refine codeAny_of_tree ?_
 show wpAny _ A ((compStart (.ListComp elt gens scope pos) d it acc env).onRaise (fun x=>do noteFrame x env; standAt theWindowsPlace)) _ _ s
 refine wpAny_notedAt ?_
 unfold compStart
 have e1:((clausesOf (.ListComp elt gens scope pos))[d]?).elim false (·.is_async != 0)=false:=by
  show (gens[d]?).elim false (fun x=>x.is_async != 0)=false
  rw [hg]; simp [ha]
 rw [e1]
 simp only [Bool.false_eq_true,if_false]
 refine wpAny_bind (wpAny_askSetting (wpAny_ite ?_))
 split
 ·exact wpAny_pure ⟨rfl,h0⟩
 ·refine wpAny_bind (wpAny_rule ?_)
  have e2:(clausesOf (.ListComp elt gens scope pos))[d]?=some g:=hg
  rw [e2]
  refine wpAny_bind (wpAny_standAt (wpAny_bind (wpAny_mono h (fun it' s' h'=>wpAny_pure ⟨rfl,h'⟩) fun qa qb x=>x.elim)))
noncomputable def Turn1 (c:Cx) (A:Around) (cenv:Env) (σc:St) (target:Expr) (ifs:List Expr) (elt:Expr) (X:V) (ys:List V):Prop :=
 ∀ D zs,WA c A cenv (σc.acc D zs) target X fun σ₂=>WTs c A cenv σ₂ ifs true fun ok σ₃=>if ok then WE c A cenv σ₃ elt fun Y σ₄=>ys=[Y]∧σ₄.le (σc.acc D zs) else σ₃.le (σc.acc D zs)∧ys=[]
theorem WP.imp {α β:Type} {t:Sem α} {Rr:(Addr→Prop)→Heap→β→α→Prop} {k k':β→St→Prop} (h:WP c A env σ t Rr k) (hk:∀ b σ,k b σ→k' b σ):WP c A env σ t Rr k':=by
 refine WP.mk fun hA Z P s R=>?_
 exact wpAny_mono (h.run hA Z P s R) (fun a s'=>R34 fun Z' b σ' S R' r kk=>I34 Z' b σ' S R' r (hk b σ' kk)) fun qa qb x=>x
theorem WA.imp {t:Expr} {X:V} {k k':St→Prop} (h:WA c A env σ t X k) (hk:∀ σ,k σ→k' σ):WA c A env σ t X k':=by
 intro hA Z P s v R r
 exact wpAny_mono (h hA Z P s v R r) (fun a s'=>R34 fun Z' b σ' S R' r kk=>I34 Z' b σ' S R' r (hk σ' kk)) fun qa qb x=>x
theorem Turn1.turnC {cenv:Env} {σc:St} {target:Expr} {ifs:List Expr} {elt:Expr} {X:V} {ys:List V} {D:Addr} {nxt:Code} (h:Turn1 c A cenv σc target ifs elt X ys):TurnC c A cenv σc D target ifs (do emitTree elt (.ref D) cenv; again nxt) nxt X ys:=by
 intro zs
 refine WA.imp (h D zs) fun σ₂ h₂=>WP.imp h₂ fun ok σ₃ h₃=>?_
 cases ok with
 | true=>exact emitsA_elt h₃
 | false=>exact h₃
theorem comp_block {elt:Expr} {gens:List Comprehension} {scope:Scope} {pos:Pos} {gc:Comprehension} {inner:Addr→Addr→Sem PySem.Fin} {s:Shared} {I:Addr} {fp:List Addr} {Stt:Nat→Heap→Prop} {xs:List V} {Nw:Addr→Prop} (g:V→List V) (OK:CompOk scope env)
  {RR:Value→Env→Result→Shared→Prop} (hA:AOk A) (R:Rel c Z P env σ s.heap) (hg:gens[0]?=some gc) (ha:gc.is_async=0)
  (htree:∀ C D,compTurn (.ListComp elt gens scope pos) 0 (.ref I) (.ref D) (cenvOf scope env C)=turnTree (.ref I) gc.iter.pos gc.target gc.ifs (cenvOf scope env C) (inner C D) (.compLoop (.ListComp elt gens scope pos) 0 (.ref I) (.ref D) (cenvOf scope env C)))
  (W:Iter c A gc.target I fp xs Stt Z s.heap) (hst:Stt 0 s.heap) (hfp:∀ b∈fp,b=I∨Z b∨Nw b) (hNw:∀ b,Nw b→b≠I∧¬ Z b∧¬ P b∧¬ OwnA env b∧(∀ o,(b,o)∉σ.hp)∧∃ o,s.heap.get? b=some o) (hI:¬ Z I∧¬ P I∧¬ OwnA env I∧∀ o,(I,o)∉σ.hp)
  (hsz:(xs.flatMap g).length≤sizeLine)
  (turn:∀ C D,∀ X∈xs,TurnC c A (cenvOf scope env C) ⟨capsOf scope σ.loc,σ.hp⟩ D gc.target gc.ifs (inner C D) (.compLoop (.ListComp elt gens scope pos) 0 (.ref I) (.ref D) (cenvOf scope env C)) X (g X))
  (done:∀ D C Z' s',Step Z P (cr s) Z' (cr s')→Rel c Z' (fun b=>P b∨b=C) env ⟨σ.loc,(D,O.lst (xs.flatMap g))::σ.hp⟩ s'.heap→(∃ m,s'.heap.Ns C m)→¬ P C→∀ cenv:Env,cenv.locals=C→RR (.ref D) cenv (.ok .next) s') :
  wpAny c.M A (newList []) (fun acc s₃=>wpAny c.M A (newFunctionEnv scope env.globals (closL env scope.names []) [] env.qual none .none (some env)) (fun cenv s₄ =>
   codeAny c.M A (.compStart (.ListComp elt gens scope pos) 0 (.ref I) acc { cenv with scope:=relabel scope env }) (RR acc cenv) s₄) (fun qa qb=>False) s₃) (fun qa qb=>False) s:=by
 have hIex:∃ o,s.heap.get? I=some o:=W.ex _ _ hst
 refine wpAny_newObj_type (newEnv_comp fun h' hk hns hok=>?_) (by size_fits)
 dsimp only at hk hns hok ⊢
 generalize hH:s.heap.push { cls:=.type "list", data:=.seq ([]:List Value).toArray }=H at hk hns hok ⊢
 have hkH:Kp s.heap H:=hH▸Kp.push _ _
 have hD:H.get? s.heap.objs.size=some { cls:=.type "list", data:=.seq ([]:List Value).toArray }:=hH▸Heap.get?_push_size _ rfl
 have hDn:s.heap.get? s.heap.objs.size=none:=fresh_none _ _ (Nat.le_refl _)
 have RH:Rel c Z P env σ H:=R.kp hkH
 have none_not:∀ b,s.heap.get? b=none→¬ Z b∧¬ P b∧¬ OwnA env b∧∀ o,(b,o)∉σ.hp:=by
  intro b hb
  refine (I04 (fun z=>?_) (fun p=>?_) (fun o=>?_) (fun o ho=>?_))
  ·obtain ⟨o,e⟩:=R.inv.exZ b z; rw [hb] at e; cases e
  ·obtain ⟨o,e⟩:=R.inv.exP b p; rw [hb] at e; cases e
  ·obtain ⟨o',e⟩:=R.exOwn o; rw [hb] at e; cases e
  ·obtain ⟨ob,e⟩:=(R.hp.obj b o ho).1.some; rw [hb] at e; cases e
 have nD:=none_not _ hDn
 have hIne:I≠s.heap.objs.size:=fun e=>by obtain ⟨o,ho⟩:=hIex; rw [e,hDn] at ho; cases ho
 have RD:Rel c Z P env (σ.acc s.heap.objs.size []) H:=by
  have Rp:Rel c Z (fun b=>P b∨b=s.heap.objs.size) env σ H:=RH.protect fun b hb=>by subst hb; exact (I04 ⟨_,hD⟩ (nD.1) (nD.2.2.1) (nD.2.2.2))
  exact Rp.addHp R.inv.tp R.freeP (I12 (#[]) ⟨0,hD⟩ .nil) nD.2.1
 have Re:=RD.enter OK hk hns hok
 have hIexH:∃ o,H.get? I=some o:=let ⟨o,ho⟩:=hIex; ⟨o,hkH _ _ ho⟩
 have notOwnC:∀ b,(∃ o,H.get? b=some o)→¬ OwnA env b→¬ OwnA (cenvOf scope env H.objs.size) b:=by
  intro b hb hno hown
  obtain ⟨o,ho⟩:=hb
  rcases own_cenv RH OK hown with rfl | hc | ⟨y,hy⟩
  ·exact absurd (Heap.lt_size ho) (Nat.lt_irrefl _)
  ·exact hno (capt_own OK hc)
  ·have h1:=(hok.empty y b (PySem.mem_of_lookup hy)).2
   have h2:=Heap.lt_size ho
   exact absurd h2 (Nat.not_lt.mpr (Nat.le_of_succ_le h1))
 have hst':Stt 0 h':=W.frame _ _ _ hst fun b hb o e=>hk b o (hkH b o e)
 have W':Iter c A gc.target I fp xs Stt Z h':=⟨W.frame,W.ex,fun i X s' Z' Q E hX st hZ hk' hQ=>W.item i X s' Z' Q E hX st hZ (fun b o z e=>hk' b o z (hk b o (hkH b o e))) hQ,W.done,W.self⟩
 have loop:=compLoop_core (c:=c) (A:=A) (env:=cenvOf scope env H.objs.size) (σ:=⟨capsOf scope σ.loc,σ.hp⟩) (P:=fun b=>P b∨Rest scope env b) (H:=Nw) (s:={ s with heap:=h' }) (zs:=[]) (D:=s.heap.objs.size) g
  (e:=.ListComp elt gens scope pos) (d:=0) (ipos:=gc.iter.pos) (ifs:=gc.ifs) (inner:=inner H.objs.size s.heap.objs.size) rfl rfl rfl (htree _ _) hA W' hfp (fun n=>(hNw I n).1 rfl) hst' Re
  (fun p=>p.elim hI.2.1 fun n=>hI.2.2.1 n.1) hI.1 (notOwnC I hIexH hI.2.2.1) (fun o ho=>by
   rcases List.mem_cons.mp ho with e | ho
   ·cases e; exact hIne rfl
   ·exact hI.2.2.2 o ho)
  (fun b hb=>by
   refine E06 (hNw b hb) fun h1 h2 h3 h4 h5 y0=>E11 y0 fun o h6=>?_
   refine (I04 ⟨o,hk _ _ (hkH _ _ h6)⟩ h2 (notOwnC b ⟨o,hkH _ _ h6⟩ h4) (fun o' ho'=>?_))
   rcases List.mem_cons.mp ho' with e | ho'
   ·cases e; rw [hDn] at h6; cases h6
   ·exact h5 o' ho')
  (fun b hb=>R.inv.nT (hNw b hb).2.2.1)
  (by simpa using hsz) (turn _ _)
 have fin:codeAny c.M A (.compLoop (.ListComp elt gens scope pos) 0 (.ref I) (.ref s.heap.objs.size) (cenvOf scope env H.objs.size)) (RR (.ref s.heap.objs.size) { scope:=scope,locals:=H.objs.size,globals:=env.globals,cells:=compCells scope env H.objs.size,qual:=env.qual,func:=none,code:=env.code,frame:=env.frame,builtins:=env.builtins }) { s with heap:=h' }:=by
  refine codeAny_mono loop ?_
  refine fun r s''=>R02 fun z0 y0=>E12 y0 fun Z' S' R'=>?_; subst z0
  simp only [List.nil_append] at R'
  have S0:Step Z (fun b=>P b∨Rest scope env b) (cr { s with heap:=h' }) Z' (cr s''):=⟨S'.grow,S'.keepZ,fun b o p e=>S'.keepP b o (.inl p) e,S'.keepT,S'.os,S'.gens⟩
  have S1:Step Z (fun b=>(P b∨Rest scope env b)∨Nw b) (cr { s with heap:=H }) Z' (cr s''):=(Step.kp (s:={ s with heap:=H }) hk).trans S'
  have hCn:H.get? H.objs.size=none:=fresh_none _ _ (Nat.le_refl _)
  have RL:=RD.leave OK hCn (hp':=(s.heap.objs.size,O.lst (xs.flatMap g))::σ.hp) R' (fun b p=>.inl p) S1
  refine done s.heap.objs.size H.objs.size Z' s'' ((Step.kp (hkH.trans hk)).trans ⟨S0.grow,S0.keepZ,fun b o p e=>S0.keepP b o (.inl p) e,S0.keepT,S0.os,S0.gens⟩) RL R'.ns (fun p=>?_) _ rfl
  obtain ⟨o,e⟩:=RH.inv.exP _ p
  rw [hCn] at e; cases e
 exact compStart_any hg ha fin (W.self 0 _ _ _ hst' fin)
end
end Mine
end
noncomputable section
namespace Mine
open PySem PySem.SeqAt
section
variable {c:Cx} {A:Around} {env:Env} {σ:St} {Z P:Addr→Prop}
theorem Rel.freezeHp {h:Heap} {D:Addr} {o:O} {hp':List (Addr×O)} (R:Rel c Z P env ⟨σ.loc,(D,o)::hp'⟩ h):Rel c (fun b=>Z b∨b=D) P env ⟨σ.loc,hp'⟩ h:=by
 have hnd:=R.hp.nodup
 simp only [List.map_cons,List.nodup_cons] at hnd
 have hD:=R.hp.obj D o (.head _)
 have R':Rel c Z P env ⟨σ.loc,hp'⟩ h:=R.le (I03 (fun x X e=>e) (fun b ob hb=>.tail _ hb) (fun qa=>hnd.2))
 refine R'.freeze fun b hb=>?_
 subst hb
 exact (I04 (hD.1.some) (hD.2.2) (R.hpOff _ o (.head _)) (fun ob hb=>hnd.1 (List.mem_map_of_mem (f:=(·.1)) hb)))
theorem rd_frozen {h:Heap} {D:Addr} {ys:List V} (hD:RdO c Z h D (.lst ys)):Rd c (fun b=>Z b∨b=D) h (.lst ys) (.ref D):=by
 refine E12 hD fun items h1 h2=>?_; clear hD
 exact .lst (.inr rfl) h1 (h2.more fun qa z=>.inl z)
theorem Step.freeze {h:Heap×Array GenState×OsState} {D:Addr}:Step Z P h (fun b=>Z b∨b=D) h:=⟨fun qa z=>.inl z,fun qa qb qc e=>e,fun qa qb qc qd e=>e,fun qa qb t=>t,rfl,GB.refl _⟩
theorem hclos_of {scope:Scope} {h:Heap} (R:Rel c Z P env σ h) (OK:CompOk scope env):closureFor scope env=pure (closL env scope.names []) :=
 closureFor_eq fun p hp hf=>let ⟨cl,v,h1,_⟩:=R.cells p.1 (OK.free p hp hf); by rw [h1]; rfl
theorem hnames_of {scope:Scope} (OK:CompOk scope env):∀ x∈scope.names,x.2=.local→scope.names.lookup x.1=some .local:=fun x hx hl=>by
 obtain ⟨n,k⟩:=x
 simp only at hl; subst hl
 exact lookup_of_mem OK.nodup hx
theorem Rel.offC {h h':Heap} {C:Addr} {Z':Addr→Prop} (R:Rel c Z' (fun b=>P b∨b=C) env σ h) (hT:∀ q∈tabs,P q.2) (hf:∀ x cl,env.kindOf x=some .free→env.cells.lookup x=some cl→P cl) (hPC:¬ P C) (hs:Heap.SameBut C h h'):Rel c Z' P env σ h':=by
 have R1:Rel c Z' P env σ h:=R.unprotect hT (fun b p=>.inl p) hf
 refine R1.but (N:=fun b=>b=C) (fun b o n e=>hs.extBut b o n e) (by rintro b rfl; exact R1.inv.nT hPC) (by rintro b rfl z; exact R.inv.off _ z (.inr rfl)) (by rintro b rfl o; exact (R.own _ o).2 (.inr rfl)) (by rintro b rfl o ho; exact (R.hp.obj _ o ho).2.2 (.inr rfl)) (by rintro b p rfl; exact absurd p hPC) (by rintro x cl h1 h2 rfl; exact hPC (hf x _ h1 h2))
theorem Step.offC {s:Shared} {h':Heap} {C:Addr} (I:Inv c Z (fun b=>P b∨b=C) s.heap) (hT:∀ q∈tabs,P q.2) (hPC:¬ P C) (hs:Heap.SameBut C s.heap h'):Step Z P (cr s) Z (cr { s with heap:=h' }) :=
 ⟨fun qa z=>z,fun b o z e=>hs.extBut b o (fun e'=>I.off b z (.inr e')) e,fun b o p qa e=>hs.extBut b o (fun e'=>hPC (e'▸p)) e,fun q hq t=>t.at (fun o e=>hs.extBut _ o (fun e'=>I.off _ (I.tab q hq).1 (.inr e')) e) (fun o e=>hs.extBut _ o (fun e'=>hPC (e'▸hT q hq)) e),rfl,GB.refl _⟩
noncomputable def CompSrc (c:Cx) (A:Around) (env:Env) (σ:St) (target iter:Expr) (k:List V→St→Prop):Prop :=
 WE c A env σ iter fun X σ₁=>∃ xs,SeqV c A target σ₁.hp X (fun qa=>False) (fun ys=>ys=xs)∧k xs σ₁
theorem comp_run {elt:Expr} {gens:List Comprehension} {scope:Scope} {pos:Pos} {gc:Comprehension} {gs:List Comprehension} {use:Option (Value→Sem Unit)} {s:Shared} {Q:Value→Shared→Prop} {ipos:Pos} (inner:Addr→Addr→Addr→Sem PySem.Fin) (OK:CompOk scope env) (hA:AOk A) (R:Rel c Z P env σ s.heap)
  (hgens:gens=gc::gs) (ha:gc.is_async=0) (hs:∀ x,foldedSetIterable gc.iter env x=pure x)
  (htree:∀ I C D,compTurn (.ListComp elt gens scope pos) 0 (.ref I) (.ref D) (cenvOf scope env C)=turnTree (.ref I) gc.iter.pos gc.target gc.ifs (cenvOf scope env C) (inner I C D) (.compLoop (.ListComp elt gens scope pos) 0 (.ref I) (.ref D) (cenvOf scope env C)))
  (kk:List V→St→Prop)
  (h:CompSrc c A env σ gc.target gc.iter fun xs σ₁=>∃ g:V→List V,(xs.flatMap g).length≤sizeLine∧(∀ I C D,∀ X∈xs,TurnC c A (cenvOf scope env C) ⟨capsOf scope σ₁.loc,σ₁.hp⟩ D gc.target gc.ifs (inner I C D) (.compLoop (.ListComp elt gens scope pos) 0 (.ref I) (.ref D) (cenvOf scope env C)) X (g X))∧kk (xs.flatMap g) σ₁)
  (done:∀ ys σ₁ D C Z' s',kk ys σ₁→Step Z P (cr s) Z' (cr s')→Rel c Z' (fun b=>P b∨b=C) env ⟨σ₁.loc,(D,O.lst ys)::σ₁.hp⟩ s'.heap→(∃ m,s'.heap.Ns C m)→¬ P C→compPost c.M A (fun qa qb=>False) use Q (.ref D) C (.ok .next) s') :
  wpAny c.M A (comprehension (.ListComp elt gens scope pos) scope env ipos (newList []) false (eval gc.iter env) use) Q (fun qa qb=>False) s:=by
 refine wpAny_comprehension_free (g:=gc) (gs:=gs) (by subst hgens; rfl) hs (hclos_of R OK) OK.fn (hnames_of OK) ?_
 refine wp_then h hA R fun Z₁ s₁ X σ₁ v S₁ R₁ r₁ kk=>?_
 refine E12 kk fun xs hseq y0=>E13 y0 fun g hsz hturn hkk=>?_; clear kk
 refine (hseq hA Z₁ P s₁ v R₁.inv.exZ R₁.hp r₁).run _ _ fun h' tk dr I fp Stt ys Nw hk hI hIe hNw hfp hst ho W=>?_
 subst ho
 have hk':Kp s₁.heap h':=hk
 have R₂:Rel c Z₁ P env σ₁ h':=R₁.kp hk'
 have none_not:∀ b,s₁.heap.get? b=none→¬ Z₁ b∧¬ P b∧¬ OwnA env b∧∀ o,(b,o)∉σ₁.hp:=by
  intro b hb
  refine (I04 (fun z=>?_) (fun p=>?_) (fun o=>?_) (fun o ho=>?_))
  ·obtain ⟨o,e⟩:=R₁.inv.exZ b z; rw [hb] at e; cases e
  ·obtain ⟨o,e⟩:=R₁.inv.exP b p; rw [hb] at e; cases e
  ·obtain ⟨o',e⟩:=R₁.exOwn o; rw [hb] at e; cases e
  ·obtain ⟨ob,e⟩:=(R₁.hp.obj b o ho).1.some; rw [hb] at e; cases e
 refine comp_block (s:={ s₁ with heap:=h',toks:=tk,drawn:=dr }) (Z:=Z₁) (P:=P) (σ:=σ₁) (gc:=gc) (inner:=inner I) (Nw:=Nw) (RR:=fun acc cenv=>compPost c.M A (fun qa qb=>False) use Q acc cenv.locals) g OK hA R₂ (by subst hgens; rfl) ha (htree I) W hst
  (fun b hb=>by
   rcases hfp b hb with h | h | h | h
   ·exact .inl h
   ·exact .inr (.inl h)
   ·exact h.elim
   ·exact .inr (.inr h))
  (fun b hb=>by
   have n:=none_not b (hNw b hb).2.1
   exact (I06 ((hNw b hb).1) (n.1) (n.2.1) (n.2.2.1) (n.2.2.2) ((hNw b hb).2.2)))
  (none_not I hI) hsz (hturn I) ?_
 intro D C Z' s'' S' R' hns hPC cenv hcenv
 subst hcenv
 exact done _ σ₁ D _ Z' s'' hkk (S₁.trans ((Step.kp hk').trans S')) R' hns hPC
theorem wE_comp {elt:Expr} {gens:List Comprehension} {scope:Scope} {pos:Pos} {gc:Comprehension} {gs:List Comprehension} {k:V→St→Prop} (inner:Addr→Addr→Addr→Sem PySem.Fin) (OK:CompOk scope env)
  (hgens:gens=gc::gs) (ha:gc.is_async=0) (hs:∀ x,foldedSetIterable gc.iter env x=pure x)
  (htree:∀ I C D,compTurn (.ListComp elt gens scope pos) 0 (.ref I) (.ref D) (cenvOf scope env C)=turnTree (.ref I) gc.iter.pos gc.target gc.ifs (cenvOf scope env C) (inner I C D) (.compLoop (.ListComp elt gens scope pos) 0 (.ref I) (.ref D) (cenvOf scope env C)))
  (h:CompSrc c A env σ gc.target gc.iter fun xs σ₁=>∃ g:V→List V,(xs.flatMap g).length≤sizeLine∧(∀ I C D,∀ X∈xs,TurnC c A (cenvOf scope env C) ⟨capsOf scope σ₁.loc,σ₁.hp⟩ D gc.target gc.ifs (inner I C D) (.compLoop (.ListComp elt gens scope pos) 0 (.ref I) (.ref D) (cenvOf scope env C)) X (g X))∧k (.lst (xs.flatMap g)) σ₁) :
  WE c A env σ (.ListComp elt gens scope pos) k:=by
 refine WP.mk fun hA Z P s R=>?_
 rw [arm_eval_ListComp]
 have e1:firstAsync gens=false:=by subst hgens; obtain ⟨t,i,f,a⟩:=gc; simp only at ha; subst ha; rfl
 have e2:firstIter gens env=eval gc.iter env:=by subst hgens; obtain ⟨t,i,f,a⟩:=gc; rfl
 dsimp only
 rw [e1,e2]
 refine comp_run inner OK hA R hgens ha hs htree (fun ys σ₁=>k (.lst ys) σ₁) h ?_
 intro ys σ₁ D C Z' s' hk S' R' hns hPC
 obtain ⟨m,hm⟩:=hns
 refine (I12 m hm (fun h'' hsb=>?_))
 have Ro:=R'.offC R.inv.tp R.freeP hPC hsb
 exact (fin_mk ((S'.trans (Step.offC R'.inv R.inv.tp hPC hsb)).trans Step.freeze) Ro.freezeHp (rd_frozen (Ro.hp.obj D _ (.head _)).1) hk)
theorem wS_AssignComp {elt t:Expr} {gens:List Comprehension} {scope:Scope} {pos spos:Pos} {gc:Comprehension} {gs:List Comprehension} {k:FV→St→Prop} (inner:Addr→Addr→Addr→Sem PySem.Fin) (OK:CompOk scope env)
  (hgens:gens=gc::gs) (ha:gc.is_async=0) (hs:∀ x,foldedSetIterable gc.iter env x=pure x)
  (htree:∀ I C D,compTurn (.ListComp elt gens scope pos) 0 (.ref I) (.ref D) (cenvOf scope env C)=turnTree (.ref I) gc.iter.pos gc.target gc.ifs (cenvOf scope env C) (inner I C D) (.compLoop (.ListComp elt gens scope pos) 0 (.ref I) (.ref D) (cenvOf scope env C)))
  (h:CompSrc c A env σ gc.target gc.iter fun xs σ₁=>∃ g:V→List V,(xs.flatMap g).length≤sizeLine∧(∀ I C D,∀ X∈xs,TurnC c A (cenvOf scope env C) ⟨capsOf scope σ₁.loc,σ₁.hp⟩ D gc.target gc.ifs (inner I C D) (.compLoop (.ListComp elt gens scope pos) 0 (.ref I) (.ref D) (cenvOf scope env C)) X (g X))∧WA c A env σ₁ t (.lst (xs.flatMap g)) fun σ₂=>k .next σ₂)
  (hsw:swapsWith (.ListComp elt gens scope pos) (some t) spos.line env=pure true) (hte:(assignEach [t] env).map (·.2)=[assign t env]) :
  WS c A env σ (.Assign [t] (.ListComp elt gens scope pos) spos) k:=by
 refine WP.mk fun hA Z P s R=>?_
 have e1:firstAsync gens=false:=by subst hgens; obtain ⟨t,i,f,a⟩:=gc; simp only at ha; subst ha; rfl
 have e2:firstIter gens env=eval gc.iter env:=by subst hgens; obtain ⟨t,i,f,a⟩:=gc; rfl
 show wpAny _ _ (do
  standAt spos
  if ← swapsWithSole [t] (.ListComp elt gens scope pos) spos.line env then do
   evalThenUse (.ListComp elt gens scope pos) env fun v=>assignAll v ((assignEach [t] env).map (fun x:Bool×(Value→Sem Unit)=>x.2))
   pure Flow.next
  else do
   let v ← eval (.ListComp elt gens scope pos) env
   assignStores env v (← swappedStores [t] (.ListComp elt gens scope pos) env) ((assignEach [t] env).map (fun x:Bool×(Value→Sem Unit)=>x.2))) _ _ s
 rw [show swapsWithSole [t] (.ListComp elt gens scope pos) spos.line env=swapsWith (.ListComp elt gens scope pos) (some t) spos.line env from rfl,hsw,hte]
 refine wpAny_bind (wpAny_standAt (wpAny_bind (wpAny_pure ?_)))
 simp only [if_true]
 refine wpAny_bind ?_
 show wpAny _ _ (do let _ ← comprehension (.ListComp elt gens scope pos) scope env (firstIterPos gens pos) (newList []) (firstAsync gens) (firstIter gens env) (some fun v=>assignAll v [assign t env])) _ _ s
 rw [e1,e2]
 refine wpAny_bind (comp_run inner OK hA R hgens ha hs htree (fun ys σ₁=>WA c A env σ₁ t (.lst ys) fun σ₂=>k .next σ₂) h ?_)
 intro ys σ₁ D C Z' s' hk S' R' hns hPC
 show wpAny c.M A (assign t env (.ref D)) _ _ _
 have hD:=(R'.hp.obj D _ (.head _)).1
 refine wpAny_mono (hk hA _ (fun b=>P b∨b=C) s' (.ref D) R'.freezeHp (rd_frozen hD)) ?_ fun qa qb x=>x
 refine fun qa s₂=>R34 fun Z₂ qa σ₂ S₂ R₂ qb k₂=>?_
 refine E42 hns fun m o es ep ho q=>?_; clear hns
 refine (I12 m (I32 o es ep (S₂.keepP C _ (.inr rfl) (R.inv.nT hPC) ho) q) (fun h'' hsb=>?_))
 refine wpAny_pure (wpAny_pure (fin_mk ?_ (R₂.offC R.inv.tp R.freeP hPC hsb) .next k₂))
 exact (S'.trans (Step.freeze.trans ⟨S₂.grow,S₂.keepZ,fun b o p e=>S₂.keepP b o (.inl p) e,S₂.keepT,S₂.os,S₂.gens⟩)).trans (Step.offC R₂.inv R.inv.tp hPC hsb)
end
end Mine
end
noncomputable section
namespace Mine
open PySem PySem.SeqAt
section
variable {c:Cx} {A:Around} {env:Env} {σ:St} {Z P:Addr→Prop}
theorem wE_Comp1 {elt target iter:Expr} {ifs:List Expr} {scope:Scope} {pos:Pos} {k:V→St→Prop} (OK:CompOk scope env)
  (h:CompSrc c A env σ target iter fun xs σ₁=>∃ g:V→List V,(xs.flatMap g).length≤sizeLine∧(∀ C,∀ X∈xs,Turn1 c A (cenvOf scope env C) ⟨capsOf scope σ₁.loc,σ₁.hp⟩ target ifs elt X (g X))∧k (.lst (xs.flatMap g)) σ₁)
  (hs:∀ x,foldedSetIterable iter env x=pure x:=by intro _; rfl):WE c A env σ (.ListComp elt [⟨target,iter,ifs,0⟩] scope pos) k:=by
 refine wE_comp (gc:=⟨target,iter,ifs,0⟩) (gs:=[]) (fun I C D=>do emitTree elt (.ref D) (cenvOf scope env C); again (.compLoop (.ListComp elt [⟨target,iter,ifs,0⟩] scope pos) 0 (.ref I) (.ref D) (cenvOf scope env C))) OK rfl rfl hs (fun I C D=>turn_one ..) ?_
 exact WP.imp h fun X σ₁ ⟨xs,h1,g,h2,h3,h4⟩=>(I12 xs h1 (I13 g h2 (fun I C D X hX=>(h3 C X hX).turnC) h4))
theorem wS_AssignComp1 {elt t target iter:Expr} {ifs:List Expr} {scope:Scope} {pos spos:Pos} {k:FV→St→Prop} (OK:CompOk scope env)
  (h:CompSrc c A env σ target iter fun xs σ₁=>∃ g:V→List V,(xs.flatMap g).length≤sizeLine∧(∀ C,∀ X∈xs,Turn1 c A (cenvOf scope env C) ⟨capsOf scope σ₁.loc,σ₁.hp⟩ target ifs elt X (g X))∧WA c A env σ₁ t (.lst (xs.flatMap g)) fun σ₂=>k .next σ₂)
  (hs:∀ x,foldedSetIterable iter env x=pure x:=by intro _; rfl) (hsw:swapsWith (.ListComp elt [⟨target,iter,ifs,0⟩] scope pos) (some t) spos.line env=pure true:=by rfl)
  (hte:(assignEach [t] env).map (·.2)=[assign t env]:=by rfl):WS c A env σ (.Assign [t] (.ListComp elt [⟨target,iter,ifs,0⟩] scope pos) spos) k:=by
 refine wS_AssignComp (gc:=⟨target,iter,ifs,0⟩) (gs:=[]) (fun I C D=>do emitTree elt (.ref D) (cenvOf scope env C); again (.compLoop (.ListComp elt [⟨target,iter,ifs,0⟩] scope pos) 0 (.ref I) (.ref D) (cenvOf scope env C))) OK rfl rfl hs (fun I C D=>turn_one ..) ?_ hsw hte
 exact WP.imp h fun X σ₁ ⟨xs,h1,g,h2,h3,h4⟩=>(I12 xs h1 (I13 g h2 (fun I C D X hX=>(h3 C X hX).turnC) h4))
noncomputable def Turn2 (c:Cx) (A:Around) (cenv:Env) (σc:St) (target:Expr) (ifs:List Expr) (target' iter':Expr) (ifs':List Expr) (elt:Expr) (X:V) (ys:List V):Prop :=
 ∀ D zs,WA c A cenv (σc.acc D zs) target X fun σ₂=>WTs c A cenv σ₂ ifs true fun ok σ₃=>if ok then CompSrc c A cenv σ₃ target' iter' fun xs' σ₄=>∃ (τ:St) (g':V→List V),σ₄.le (τ.acc D zs)∧ys=xs'.flatMap g' ∧
   (∀ x X,σc.loc.lookup x=some X→τ.loc.lookup x=some X)∧τ.hp=σc.hp∧∀ Y∈xs',Turn1 c A cenv τ target' ifs' elt Y (g' Y)
  else σ₃.le (σc.acc D zs)∧ys=[]
theorem Turn2.turnC {cenv:Env} {σc:St} {target:Expr} {ifs:List Expr} {target' iter':Expr} {ifs':List Expr} {elt iter:Expr} {scope:Scope} {pos:Pos} {X:V} {ys:List V} {D I:Addr} (hs:∀ x,foldedSetIterable iter' cenv x=pure x) (hfr:∀ (x:Str) (cl:Addr),cenv.kindOf x=some .free→cenv.cells.lookup x=some cl→False)
  (h:Turn2 c A cenv σc target ifs target' iter' ifs' elt X ys):TurnC c A cenv σc D target ifs (do
    let x ← eval iter' cenv
    standAt iter'.pos
    let x ← foldedSetIterable iter' cenv x
    let _ ← runOwn (.compStart (.ListComp elt [⟨target,iter,ifs,0⟩,⟨target',iter',ifs',0⟩] scope pos) 1 (← holding [x] (pyIter x)) (.ref D) cenv) cenv
    again (.compLoop (.ListComp elt [⟨target,iter,ifs,0⟩,⟨target',iter',ifs',0⟩] scope pos) 0 (.ref I) (.ref D) cenv)) (.compLoop (.ListComp elt [⟨target,iter,ifs,0⟩,⟨target',iter',ifs',0⟩] scope pos) 0 (.ref I) (.ref D) cenv) X ys:=by
 intro zs
 refine WA.imp (h D zs) fun σ₂ h₂=>WP.imp h₂ fun ok σ₃ h₃=>?_
 cases ok with
 | false=>exact h₃
 | true =>
  intro hA Z P s hsz R
  refine wpAny_bind (wp_then h₃ hA R fun Z₁ s₁ X' σ₄ v S₁ R₁ r₁ kk=>?_)
  refine E12 kk fun xs' hseq y0=>E25 y0 fun τ g' hle hys hloc hhp hturn=>?_; clear kk
  refine wpAny_bind (wpAny_standAt (wpAny_bind (wpAny_of_eq (hs v) (wpAny_bind (wpAny_holding ?_)))))
  refine (hseq hA Z₁ P s₁ v R₁.inv.exZ R₁.hp r₁).run _ _ fun h' tk dr J fp Stt ys' Nw hk hJ hJe hNw hfp hst ho W=>?_
  subst ho
  have hk':Kp s₁.heap h':=hk
  have R₂:Rel c Z₁ P cenv (τ.acc D zs) h':=(R₁.kp hk').le hle
  have none_not:∀ b,s₁.heap.get? b=none→¬ Z₁ b∧¬ P b∧¬ OwnA cenv b∧∀ o,(b,o)∉(τ.acc D zs).hp:=by
   intro b hb
   refine (I04 (fun z=>?_) (fun p=>?_) (fun o=>?_) (fun o ho=>?_))
   ·obtain ⟨o,e⟩:=R₁.inv.exZ b z; rw [hb] at e; cases e
   ·obtain ⟨o,e⟩:=R₁.inv.exP b p; rw [hb] at e; cases e
   ·obtain ⟨o',e⟩:=R₁.exOwn o; rw [hb] at e; cases e
   ·obtain ⟨ob,e⟩:=(R₁.hp.obj b o (hle.2.1 b o ho)).1.some; rw [hb] at e; cases e
  have nJ:=none_not J hJ
  have loop:=compLoop_core (c:=c) (A:=A) (env:=cenv) (σ:=τ) (P:=P) (Z:=Z₁) (H:=Nw) (s:={ s₁ with heap:=h',toks:=tk,drawn:=dr }) (zs:=zs) (D:=D) (I:=J) g'
   (e:=.ListComp elt [⟨target,iter,ifs,0⟩,⟨target',iter',ifs',0⟩] scope pos) (d:=1) (ipos:=iter'.pos) (ifs:=ifs') (target:=target') (inner:=do emitTree elt (.ref D) cenv; again (.compLoop (.ListComp elt [⟨target,iter,ifs,0⟩,⟨target',iter',ifs',0⟩] scope pos) 1 (.ref J) (.ref D) cenv)) rfl rfl rfl (turn_snd ..) hA W
   (fun b hb=>by
    rcases hfp b hb with h | h | h | h
    ·exact .inl h
    ·exact .inr (.inl h)
    ·exact h.elim
    ·exact .inr (.inr h))
   (fun n=>(hNw J n).1 rfl) hst R₂ nJ.2.1 nJ.1 nJ.2.2.1 nJ.2.2.2
   (fun b hb=>by
    have n:=none_not b (hNw b hb).2.1
    exact (I04 ((hNw b hb).2.2) (n.1) (n.2.2.1) (n.2.2.2)))
   (fun b hb=>R₁.inv.nT0 (hNw b hb).2.1)
   (by rw [← hys]; exact hsz) (fun Y hY=>(hturn Y hY).turnC)
  have fin:codeAny c.M A (.compLoop (.ListComp elt [⟨target,iter,ifs,0⟩,⟨target',iter',ifs',0⟩] scope pos) 1 (.ref J) (.ref D) cenv) (fun r s'=>match r with | .ok _=>wpAny c.M A (again (.compLoop (.ListComp elt [⟨target,iter,ifs,0⟩,⟨target',iter',ifs',0⟩] scope pos) 0 (.ref I) (.ref D) cenv)) (fun fin s'=>fin=.again (.compLoop (.ListComp elt [⟨target,iter,ifs,0⟩,⟨target',iter',ifs',0⟩] scope pos) 0 (.ref I) (.ref D) cenv)∧∃ Z',Step Z P (cr s) Z' (cr s')∧Rel c Z' P cenv (σc.acc D (zs++ys)) s'.heap) (fun qa qb=>False) s' | .error e=>cameBackBy c.M A cenv (fun qa qb=>False) e s') { s₁ with heap:=h',toks:=tk,drawn:=dr }:=by
   refine codeAny_mono loop ?_
   refine fun r s''=>R02 fun z0 y0=>E12 y0 fun Z' S' R'=>?_; subst z0
   refine wpAny_pure (I02 rfl (I12 Z' (S₁.trans ((Step.kp hk').trans ⟨S'.grow,S'.keepZ,fun b o p e=>S'.keepP b o (.inl p) e,S'.keepT,S'.os,S'.gens⟩)) ?_))
   rw [hys]
   have R'':Rel c Z' P cenv (τ.acc D (zs++ys'.flatMap g')) s''.heap:=R'.unprotect R.inv.tp (fun b p=>.inl p) (fun x cl h1 h2=>(hfr x cl h1 h2).elim)
   refine R''.le (I03 hloc (fun b o hb=>?_) ?_)
   ·show (b,o)∈(D,O.lst (zs++ys'.flatMap g'))::τ.hp
    rw [hhp]; exact hb
   ·intro this
    show (((D,O.lst (zs++ys'.flatMap g'))::σc.hp).map (·.1)).Nodup
    rw [← hhp]; exact this
  exact wpAny_bind (wpAny_runOwn (compStart_any (by rfl) (by rfl) fin (W.self 0 _ _ _ hst fin)))
theorem free_cenv {scope:Scope} {C:Addr} (hfn:env.scope.kind=.function) (OK:CompOk scope env):∀ (x:Str) (cl:Addr),(cenvOf scope env C).kindOf x=some .free→(cenvOf scope env C).cells.lookup x=some cl→False:=by
 intro x cl hx _
 rw [kindOf_cenv hfn] at hx
 cases hs:scope.names.lookup x with
 | none=>rw [hs] at hx; cases hx
 | some k =>
  rw [hs] at hx
  cases k <;> simp at hx
  exact hx (OK.free (x,.free) (PySem.mem_of_lookup hs) rfl)
theorem wE_Comp2 {elt target iter target' iter':Expr} {ifs ifs':List Expr} {scope:Scope} {pos:Pos} {k:V→St→Prop} (OK:CompOk scope env) (hfn:env.scope.kind=.function)
  (h:CompSrc c A env σ target iter fun xs σ₁=>∃ g:V→List V,(xs.flatMap g).length≤sizeLine∧(∀ C,∀ X∈xs,Turn2 c A (cenvOf scope env C) ⟨capsOf scope σ₁.loc,σ₁.hp⟩ target ifs target' iter' ifs' elt X (g X))∧k (.lst (xs.flatMap g)) σ₁)
  (hs:∀ x,foldedSetIterable iter env x=pure x:=by intro _; rfl) (hs':∀ C x,foldedSetIterable iter' (cenvOf scope env C) x=pure x:=by intro _ _; rfl):WE c A env σ (.ListComp elt [⟨target,iter,ifs,0⟩,⟨target',iter',ifs',0⟩] scope pos) k:=by
 refine wE_comp (gc:=⟨target,iter,ifs,0⟩) (gs:=[⟨target',iter',ifs',0⟩]) _ OK rfl rfl hs (fun I C D=>turn_fst ..) ?_
 exact WP.imp h fun X σ₁ ⟨xs,h1,g,h2,h3,h4⟩=>(I12 xs h1 (I13 g h2 (fun I C D X hX=>(h3 C X hX).turnC (hs' C) (free_cenv hfn OK)) h4))
end
end Mine
end
noncomputable section
namespace Mine
open PySem PySem.SeqAt
noncomputable def Fresh (c:Cx) (A:Around) (Z:Addr→Prop) (s:Shared) (t:Sem Value) (o:O):Prop :=
 ∀ Q E,(∀ a h' tk dr,Kp s.heap h'→s.heap.get? a=none→RdO c Z h' a o→Q (.ref a) { s with heap:=h',toks:=tk,drawn:=dr })→wpAny c.M A t Q E s
noncomputable def O.frz:O→Option V
 | .lst xs=>some (.lst xs)
 | .dct es=>some (.dct es)
 | .set xs=>some (.set xs)
 | _=>none
theorem RdO.frz {c:Cx} {Z:Addr→Prop} {h:Heap} {a:Addr} {o:O} {X:V} (r:RdO c Z h a o) (hX:o.frz=Option.some X):Rd c (fun b=>Z b∨b=a) h X (.ref a):=by
 cases o with
 | lst xs=>cases hX; refine E12 r fun items h1 h2=>?_; clear r; exact .lst (.inr rfl) h1 (h2.more fun qa z=>.inl z)
 | dct es=>cases hX; refine E24 r fun kvs ep h1 h2 h3 h4=>?_; clear r; exact .dct (.inr rfl) h1 h2 h3 (h4.more fun qa z=>.inl z)
 | set xs=>cases hX; exact .set (.inr rfl) r
 | inst C d=>cases hX
 | ns es=>cases hX
theorem Fresh.res {c:Cx} {A:Around} {Z:Addr→Prop} {s:Shared} {t:Sem Value} {o:O} {X:V} (f:Fresh c A Z s t o) (hX:o.frz=some X):Res c A Z s t X:=fun Q E hQ =>
 f Q E fun a h' tk dr hk hn r=>hQ (.ref a) h' tk dr (fun b=>b=a) hk (fun b hb=>by subst hb; exact ⟨hn,r.some⟩) (r.frz hX)
section
variable {c:Cx} {A:Around} {env:Env} {σ:St}
theorem Rel.adopt {Z P:Addr→Prop} {h h':Heap} {a:Addr} {o:O} (R:Rel c Z P env σ h) (hk:Kp h h') (hn:h.get? a=none) (ho:RdO c Z h' a o):Rel c Z P env ⟨σ.loc,(a,o)::σ.hp⟩ h':=by
 have R':=R.kp hk
 have hz:¬ Z a:=fun z=>by obtain ⟨o,e⟩:=R.inv.exZ a z; rw [hn] at e; cases e
 have hp:¬ P a:=fun z=>by obtain ⟨o,e⟩:=R.inv.exP a z; rw [hn] at e; cases e
 exact { R' with
  vars:=R'.vars
  hp:=⟨fun b ob hb=>by
   rcases List.mem_cons.mp hb with e | hb
   ·cases e; exact (I03 ho hz hp)
   ·exact R'.hp.obj b ob hb,by
   simp only [List.map_cons,List.nodup_cons]
   refine ⟨?_,R'.hp.nodup⟩
   intro hm
   refine E12 (List.mem_map.mp hm) fun z0 hb e=>?_; obtain ⟨b,ob⟩:=z0
   simp only at e; subst e
   obtain ⟨x,hx⟩:=(R.hp.obj _ ob hb).1.some
   rw [hn] at hx; cases hx⟩
  hpOff:=fun b ob hb=>by
   rcases List.mem_cons.mp hb with e | hb
   ·cases e
    intro hown
    obtain ⟨x,hx⟩:=R.exOwn hown
    rw [hn] at hx; cases hx
   ·exact R'.hpOff b ob hb }
theorem Rel.notin {Z P:Addr→Prop} {h:Heap} {a:Addr} (R:Rel c Z P env σ h) (hn:h.get? a=none):a∉σ.hp.map (·.1):=by
 intro hm
 refine E12 (List.mem_map.mp hm) fun z0 hb e=>?_; obtain ⟨b,ob⟩:=z0
 simp only at e; subst e
 obtain ⟨x,hx⟩:=(R.hp.obj _ ob hb).1.some
 rw [hn] at hx; cases hx
theorem Fresh.own {P Z Z₀:Addr→Prop} {s s₁:Shared} {t:Sem Value} {o:O} {k:V→St→Prop}
  (S:Step Z₀ P (cr s) Z (cr s₁)) (R:Rel c Z P env σ s₁.heap) (f:Fresh c A Z s₁ t o) (hk:∀ a,a∉σ.hp.map (·.1)→k (.ref a) ⟨σ.loc,(a,o)::σ.hp⟩) :
  wpAny c.M A t (Fin c P env (RV c) k Z₀ s) (fun qa qb=>False) s₁ :=
 f _ _ fun a h' tk dr hkp hn ho=>(fin_mk (S.trans (Step.kp hkp)) (R.adopt hkp hn ho) (.ref a) (hk a (R.notin hn)))
theorem RdL.two {Z:Addr→Prop} {h:Heap} {X Y:V} {vs:List Value} (r:RdL c Z h [X,Y] vs):∃ v u,vs=[v,u]∧Rd c Z h X v∧Rd c Z h Y u:=by
 cases r with | cons a b=>cases b with | cons a' b'=>cases b'; exact (I23 _ _ rfl a a')
@[elab_as_elim] theorem RdL.one_elim {Z:Addr→Prop} {h:Heap} {X:V} {vs:List Value} {C:List Value→Prop} (r:RdL c Z h [X] vs) (k:∀ v,Rd c Z h X v→C [v]):C vs:=by
 cases r with | cons a b=>cases b; exact k _ a
@[elab_as_elim] theorem RdL.two_elim {Z:Addr→Prop} {h:Heap} {X Y:V} {vs:List Value} {C:List Value→Prop} (r:RdL c Z h [X,Y] vs) (k:∀ v u,Rd c Z h X v→Rd c Z h Y u→C [v,u]):C vs:=by
 cases r with | cons a b=>cases b with | cons a' b'=>cases b'; exact k _ _ a a'
noncomputable def BCall (c:Cx) (A:Around) (hp:List (Addr×O)) (f:Value) (Xs:List V) (r:V):Prop :=
 AOk A→∀ Z P s vs,(Z sysModules∧∀ b,Z b→∃ o,s.heap.get? b=some o)→HpR c Z P s.heap hp→RdL c Z s.heap Xs vs→Res c A Z s (call f vs) r
noncomputable def FCall (c:Cx) (A:Around) (hp:List (Addr×O)) (f:Value) (Xs:List V) (o:O):Prop :=
 AOk A→∀ Z P s vs,(Z sysModules∧∀ b,Z b→∃ o,s.heap.get? b=some o)→HpR c Z P s.heap hp→RdL c Z s.heap Xs vs→Fresh c A Z s (call f vs) o
theorem FCall.frz {hp:List (Addr×O)} {f:Value} {Xs:List V} {o:O} {X:V} (h:FCall c A hp f Xs o) (hX:o.frz=some X):BCall c A hp f Xs X:=fun hA Z P s vs hZ H r=>(h hA Z P s vs hZ H r).res hX
inductive PlainF:Value→Prop
 | type (T):PlainF (.type T)
 | blt (id):PlainF (.builtin id)
theorem callWith_plain {f:Value} {pos:Pos} {e:Expr} {rest:List Expr} {s:Shared} {Q:Value→Shared→Prop} {E:Value→Shared→Prop} (hf:PlainF f)
  (h:wpAny c.M A (spliced (backTo pos (starEach (e::rest) env))) (fun vs s₁=>wpAny c.M A (call f vs) Q E s₁) E s) (he:starEach (e::rest) env=(false,eval e env)::starEach rest env)
  (hplain:(backTo pos (starEach rest env)).any (·.1)=false):wpAny c.M A (callWith pos f [] (backTo pos (starEach (e::rest) env)) []) Q E s:=by
 cases hf with
 | type T=>exact PyProof.Rows.callWith_type1 h he hplain
 | blt id=>exact PyProof.Rows.callWith_builtin1 h he hplain
theorem wE_CallB {f:Str} {fv:Value} {fpos pos:Pos} {e:Expr} {es:List Expr} {k:V→St→Prop} (hm:c.mg f=none) (hv:bootBuiltins f=some fv) (hf:PlainF fv) (hk:env.kindOf f=some .globalImplicit)
  (h:WEs c A env σ pos (e::es) fun Xs σ₁=>∃ r,BCall c A σ₁.hp fv Xs r∧k r σ₁)
  (hn:f ≠ "__name__" := by decide) (hd:(f == ("__debug__" : Str))=false:=by decide) (he:starEach (e::es) env=(false,eval e env)::starEach es env:=by rfl)
  (hplain:(backTo pos (starEach es env)).any (·.1)=false:=by rfl):WE c A env σ (.Call (.Name f fpos) (e::es) [] pos) k:=by
 refine WP.mk fun hA Z P s R=>?_
 show wpAny _ _ (do callWith pos (← eval (.Name f fpos) env) [] (backTo pos (starEach (e::es) env)) (backToKw pos (keywordEach [] env))) _ _ s
 refine wpAny_bind (load_builtin R hm hv hn hk ?_ hd)
 refine callWith_plain hf (wp_then h hA R fun Z₁ s₁ Xs σ₁ vs S₁ R₁ r₁ kk=>?_) he hplain
 refine E12 kk fun r hB k₁=>?_; clear kk
 exact Res.fin S₁ R₁ (hB hA Z₁ P _ vs ⟨R₁.inv.sys,R₁.inv.exZ⟩ R₁.hp r₁) k₁
theorem wE_CallF {f:Str} {fv:Value} {fpos pos:Pos} {e:Expr} {es:List Expr} {k:V→St→Prop} (hm:c.mg f=none) (hv:bootBuiltins f=some fv) (hf:PlainF fv) (hk:env.kindOf f=some .globalImplicit)
  (h:WEs c A env σ pos (e::es) fun Xs σ₁=>∃ o,FCall c A σ₁.hp fv Xs o∧∀ a,a∉σ₁.hp.map (·.1)→k (.ref a) ⟨σ₁.loc,(a,o)::σ₁.hp⟩)
  (hn:f ≠ "__name__" := by decide) (hd:(f == ("__debug__" : Str))=false:=by decide) (he:starEach (e::es) env=(false,eval e env)::starEach es env:=by rfl)
  (hplain:(backTo pos (starEach es env)).any (·.1)=false:=by rfl):WE c A env σ (.Call (.Name f fpos) (e::es) [] pos) k:=by
 refine WP.mk fun hA Z P s R=>?_
 show wpAny _ _ (do callWith pos (← eval (.Name f fpos) env) [] (backTo pos (starEach (e::es) env)) (backToKw pos (keywordEach [] env))) _ _ s
 refine wpAny_bind (load_builtin R hm hv hn hk ?_ hd)
 refine callWith_plain hf (wp_then h hA R fun Z₁ s₁ Xs σ₁ vs S₁ R₁ r₁ kk=>?_) he hplain
 refine E12 kk fun o hB k₁=>?_; clear kk
 exact Fresh.own S₁ R₁ (hB hA Z₁ P _ vs ⟨R₁.inv.sys,R₁.inv.exZ⟩ R₁.hp r₁) k₁
end
section
variable {c:Cx} {A:Around} {hp:List (Addr×O)}
theorem f_list_lst {xs:List V} (hl:xs.length≤sizeLine):FCall c A hp (.type "list") [.lst xs] (.lst xs):=by
 intro hA Z P s vs hZ H r Q E hQ
 refine RdL.one_elim r fun v r1=>?_
 refine Rd.lst_elim r1 fun a items z i ri=>?_
 have l:=ri.length
 simp only [Array.length_toList] at l
 obtain ⟨n,ho⟩:=i
 exact call_list_seq a (.inl rfl) ho rfl rfl (fun h' c' hk hn=>hQ _ h' s.toks s.drawn hk (fresh_none _ _ (Nat.le_refl _)) (I12 items ⟨c',hn⟩ (ri.kp hk))) (by omega)
theorem f_list_tup {xs:List V} (hl:xs.length≤sizeLine):FCall c A hp (.type "list") [.tup xs] (.lst xs):=by
 intro hA Z P s vs hZ H r Q E hQ
 refine RdL.one_elim r fun v r1=>?_
 refine Rd.tup_elim r1 fun a items z i ri=>?_
 have l:=ri.length
 simp only [Array.length_toList] at l
 obtain ⟨n,ho⟩:=i
 exact call_list_seq a (.inr rfl) ho rfl rfl (fun h' c' hk hn=>hQ _ h' s.toks s.drawn hk (fresh_none _ _ (Nat.le_refl _)) (I12 items ⟨c',hn⟩ (ri.kp hk))) (by omega)
theorem f_list_own {a:Addr} {xs:List V} (ha:(a,O.lst xs)∈hp) (hl:xs.length≤sizeLine):FCall c A hp (.type "list") [.ref a] (.lst xs):=by
 intro hA Z P s vs hZ H r Q E hQ
 refine RdL.one_elim r fun v r1=>?_
 first | refine Rd.int_elim r1 fun qa=>?_ | refine Rd.ref_elim r1 ?_ | refine Rd.str_elim r1 fun qa=>?_ | refine Rd.bool_elim r1 ?_ | refine Rd.typ_elim r1 ?_ | cases r1
 refine E12 ((H.obj a _ ha).1) fun items i r=>?_
 have l:=r.length
 simp only [Array.length_toList] at l
 obtain ⟨n,ho⟩:=i
 exact call_list_seq a (.inl rfl) ho rfl rfl (fun h' c' hk hn=>hQ _ h' s.toks s.drawn hk (fresh_none _ _ (Nat.le_refl _)) (I12 items ⟨c',hn⟩ (r.kp hk))) (by omega)
theorem b_len_lst {xs:List V} (hl:xs.length≤sizeLine):BCall c A hp (.builtin "len") [.lst xs] (.int xs.length):=by
 intro hA Z P s vs hZ H r
 refine RdL.one_elim r fun v r1=>?_
 refine Rd.lst_elim r1 fun a items z i ri=>?_
 have l:=ri.length
 simp only [Array.length_toList] at l
 refine Res.pure fun Q E h=>Calls.call_len_list i.isList (by rw [sizeLine_eq] at hl; omega) ?_
 rw [← l]; exact h _ _ (.int _ _)
theorem b_len_oset {a:Addr} {xs:List Str} (ha:(a,O.set xs)∈hp):BCall c A hp (.builtin "len") [.ref a] (.int xs.length):=by
 intro hA Z P s vs hZ H r
 refine RdL.one_elim r fun v r1=>?_
 first | refine Rd.int_elim r1 fun qa=>?_ | refine Rd.ref_elim r1 ?_ | refine Rd.str_elim r1 fun qa=>?_ | refine Rd.bool_elim r1 ?_ | refine Rd.typ_elim r1 ?_ | cases r1
 refine E59 ((H.obj a _ ha).1) fun o es ep t ks h1 h2 h3 h4 h5 h6 h7 h8 qa=>?_
 have hlen:es.size=xs.length:=by rw [← h5.length_eq,← h4.length]; simp
 have hb:scanBound < 2 ^ 60:=by decide
 refine Res.pure fun Q E h=>call_len_set h1 h2 h3 h8 (by omega) ?_
 rw [hlen]; exact h _ _ (.int _ _)
theorem b_type_int {i:Int}:BCall c A hp (.type "type") [.int i] (.typ "int"):=by
 intro hA Z P s vs hZ H r
 refine RdL.one_elim r fun v r1=>?_
 first | refine Rd.int_elim r1 fun qa=>?_ | refine Rd.ref_elim r1 ?_ | refine Rd.str_elim r1 fun qa=>?_ | refine Rd.bool_elim r1 ?_ | refine Rd.typ_elim r1 ?_ | cases r1
 exact Res.pure fun Q E h=>call_type_of (Tx:="int") rfl (by decide) (h _ s.toks (.typ _))
theorem b_max {i j:Int}:BCall c A hp (.builtin "max") [.int i,.int j] (.int (max i j)):=by
 intro hA Z P s vs hZ H r
 refine RdL.two_elim r fun v u r1 r2=>?_
 refine Rd.int_elim r1 fun t1=>?_
 refine Rd.int_elim r2 fun t2=>?_
 intro Q E h
 refine max_two_ints hA.handled fun h' tk hk=>?_
 by_cases hc:j > i
 ·rw [if_pos hc]
  have:=h (.int j t2) h' tk s.drawn (fun qa=>False) hk (fun qa f=>f.elim) (by rw [show max i j=j by omega]; exact .int _ _)
  exact this
 ·rw [if_neg hc]
  have:=h (.int i t1) h' tk s.drawn (fun qa=>False) hk (fun qa f=>f.elim) (by rw [show max i j=i by omega]; exact .int _ _)
  exact this
end
end Mine
end
noncomputable section
namespace Mine
open PySem PySem.SeqAt
noncomputable def sadd (xs:List Str) (k:Str):List Str:=if k∈xs then xs else xs++[k]
noncomputable def sof (xs:List Str):List Str:=xs.foldl sadd []
theorem sadd_len (xs:List Str) (k:Str):(sadd xs k).length≤xs.length + 1:=by
 unfold sadd; split <;> simp
theorem sfold_len:∀ (ks xs:List Str),(ks.foldl sadd xs).length≤xs.length + ks.length
 | [],xs=>by simp
 | k::ks,xs=>by
  have h1:=sfold_len ks (sadd xs k)
  have h2:=sadd_len xs k
  rw [List.foldl_cons,List.length_cons,Nat.add_comm ks.length,← Nat.add_assoc]; exact Nat.le_trans h1 (Nat.add_le_add_right h2 _)
section
variable {c:Cx} {A:Around} {E:Value→Shared→Prop} {s:Shared}
noncomputable def newSetObj (c:Cx):Obj:={ cls:=.type "set", dict:=none,data:=.set #[] 0 (.fresh 0 0 (!c.w.params.followText "set-order")) }
theorem newSetL {h:Heap} {a:Addr} (hg:h.get? a=some (newSetObj c)):SetL c h a []:=by
 refine (I510 _ (#[]) 0 _ [] hg (I03 rfl rfl rfl) rfl .nil (.refl _) .nil (by decide) (by rfl) ?_ (by simp))
 show (!c.w.params.followText "set-order")=true∨_
 cases c.w.params.followText "set-order" <;> simp
theorem code_set_newL (xs:List Value) {Q₁:Value→Shared→Prop} (hck:checkBuiltinCall "set.__new__" ⟨.type "set" :: xs,[]⟩=pure ())
  (h:Q₁ (.ref s.heap.objs.size) { s with heap:=s.heap.push (newSetObj c) }) :
  codeAny c.M A (.call (.builtin "set.__new__") ⟨.type "set" :: xs,[]⟩) (wants Q₁ E) s:=by
 refine codeAny_of_tree ?_
 show wpAny _ A.in1 (do checkBuiltinCall "set.__new__" ⟨.type "set" :: xs,[]⟩; again (.builtin "set.__new__" ⟨.type "set" :: xs,[]⟩)) _ _ s
 refine wpAny_bind (wpAny_of_eq hck (wpAny_pure ⟨plainId_quiet F.plain_set_new _,codeAny_builtin F.entry_set_new ?_⟩))
 rw [Around.under_plainId F.plain_set_new _]
 unfold Builtin.«set.__new__» Builtin.Frozenset.newClass
 have hsub:=sub_set_self
 obtain ⟨hp,g,d,tk,os⟩:=s
 dsimp only
 wp_walk
 refine wpAny_askSetting (wpAny_pure ?_)
 dsimp only
 simp only [newObj]
 refine wpAny_bind (wpAny_alloc (wpAny_pure ?_))
 exact wpAny_pure h
set_option maxHeartbeats 1000000 in
set_option maxRecDepth 100000 in
theorem call_set0L {Q:Value→Shared→Prop} (h:Q (.ref s.heap.objs.size) { s with heap:=s.heap.push (newSetObj c) }) :
  wpAny c.M A (call (.type "set") []) Q E s:=by
 refine E21 F.called_set.mro fun cc tl hmro=>?_
 have hmade:=F.called_set.made
 have hsub:=F.called_set.sub
 refine wpAny_call (codeAny_of_tree ?_)
 show wpAny _ _ (callAny (.type "set") _) _ _ _
 refine wpAny_pure ⟨Code.quiet_builtin _ (by decide +kernel),codeAny_builtin F.entry_type_call ?_⟩
 rw [Around.under_plain (weight_type_call_type "set" [] []) rfl]
 have h1:=F.called_set.notType
 have h2:=F.called_set.canCreate
 have hct:=F.typeCall_set_0
 repeat (any_goals (first | assumption | wp_step))
 refine codeAny_mono (code_set_newL [] (E:=E) (Q₁:=fun obj s₁=>obj=.ref s.heap.objs.size∧s₁={ s with heap:=s.heap.push (newSetObj c) }) F.newCall_set_0 ⟨rfl,rfl⟩) fun r s₁ hr=>?_
 cases r with
 | error e=>exact hr
 | ok fl =>
  cases fl with
  | ret obj =>
   obtain ⟨rfl,rfl⟩:=hr
   have hS:(s.heap.push (newSetObj c)).get? s.heap.objs.size=some (newSetObj c):=Heap.get?_push_size _ rfl
   have hT:Shared.TypeIs { s with heap:=s.heap.push (newSetObj c) } (.ref s.heap.objs.size) "set" := (I12 _ hS rfl)
   have hli:=F.called_set.init.lookup
   have hbi:=F.called_set.init.bind (.ref s.heap.objs.size)
   repeat (any_goals (first | assumption | wp_step))
   refine codeAny_mono (codeAny_call_builtin (R:=wants (fun r s₂=>r=.none∧Q (.ref s.heap.objs.size) s₂) E) F.called_set.init.plain F.entry_set_init (check_set_init hT ?_)) fun r₂ s₂ hr₂=>?_
   ·unfold Builtin.«set.__init__» noKeywords
    wp_walk
    exact ⟨rfl,h⟩
   ·cases r₂ with
    | error e=>exact hr₂
    | ok fl₂ =>
     cases fl₂ with
     | ret r =>
      obtain ⟨rfl,hq⟩:=hr₂
      repeat (any_goals (first | assumption | wp_step))
     | _=>exact hr₂.elim
  | _=>exact hr.elim
theorem update_loopL {R:Result→Shared→Prop} {I:Addr} {fp wr:List Addr} {n:Nat} {P:Nat→Value→Prop} {Stt:Nat→Heap→Prop} (W:Walks c.prog c.w A.in1 I fp wr n P Stt) (S:Addr) (hSf:S∉fp)
  (ks:List Str) (hn:ks.length=n) (hval:∀ (i:Nat) v,P i v→∃ k t,ks[i]?=some k∧v=.str k t) (hb:n + 1 < scanBound) :
  ∀ (k i:Nat) (s:Shared),n - i=k→i≤n→Stt i s.heap→SetL c s.heap S (sof (ks.take i)) →
   (∀ h' tk,(∀ b o,b∉S::wr→s.heap.get? b=some o→h'.get? b=some o)→SetL c h' S (sof ks)→R (.ok (.ret .none)) { s with heap:=h',toks:=tk }) →
   codeAny c.M A (.builtin "set.update.loop" ⟨[.ref S,.ref I],[]⟩) R s:=by
 have hSw:S∉wr:=fun h=>hSf (W.sub _ h)
 intro k
 induction k with
 | zero =>
  intro i s hk hi hst hS hR
  have hin:i=n:=oz hk hi
  subst hin
  refine codeAny_builtin PyProof.Rows.F.entry_set_update_loop ?_
  rw [Around.under_plainId PyProof.Rows.F.plain_set_update_loop _]
  show wpAny _ A.in1 (pyNext (.ref I) >>= _) _ _ s
  refine wpAny_bind (W.done s _ _ hst fun h' tk hm=>?_)
  show wpAny _ A.in1 (ret Value.none) _ _ _
  refine wpAny_pure (hR h' tk (fun b o hb e=>hm b o (fun h=>hb (List.mem_cons_of_mem _ h)) e) ?_)
  rw [List.take_of_length_le (by omega)] at hS
  exact hS.keep fun o=>hm S o hSw
 | succ k ih =>
  intro i s hk hi hst hS hR
  have hlt:i < n:=ol hk
  refine codeAny_builtin PyProof.Rows.F.entry_set_update_loop ?_
  rw [Around.under_plainId PyProof.Rows.F.plain_set_update_loop _]
  show wpAny _ A.in1 (pyNext (.ref I) >>= _) _ _ s
  refine wpAny_bind (W.item i s _ _ hlt hst fun v h₁ tk₁ hP hst' hm=>?_)
  refine E22 (hval i v hP) fun x t hx z3=>?_; subst z3
  have hS':SetL c h₁ S (sof (ks.take i)):=hS.keep fun o=>hm S o hSw
  show wpAny _ A.in1 (holding [Value.str x t] (setAdd S (.str x t)) >>= _) _ _ _
  refine wpAny_bind (wpAny_holding ?_)
  unfold setAdd
  refine wpAny_holding ?_
  refine wpAny_bind (c.K.pyHash (k:=x) (strKind_is _ _ _ _) ?_)
  have hroom:(sof (ks.take i)).length + 1 < scanBound:=by
   have:=sfold_len (ks.take i) []
   rw [List.length_nil,Nat.zero_add] at this
   exact Nat.lt_of_le_of_lt (Nat.succ_le_succ (Nat.le_trans this (Nat.le_trans (List.length_take_le i ks) hi))) hb
  refine setAddL (s:={ s with heap:=h₁,toks:=tk₁ + 1 }) (strKind_is _ _ _ _) rfl ⟨t,rfl⟩ hS' hroom fun h₂ b hsb hS2=>?_
  have hSi:SetL c h₂ S (sof (ks.take (i + 1))):=by
   have e:sof (ks.take (i + 1))=sadd (sof (ks.take i)) x:=by
    unfold sof
    rw [List.take_add_one,hx,List.foldl_append]; rfl
   rw [e]; exact hS2
  refine wpAny_pure ⟨plainId_quiet PyProof.Rows.F.plain_set_update_loop _,ih (i + 1) _ (os hk) hlt (W.frame _ h₁ _ hst' fun b hb o e=>?_) hSi fun h' tk hm'' hS''=>?_⟩
  ·rw [hsb.2 b (fun h:b=S=>hSf (by rw [← h]; exact hb))]; exact e
  ·refine hR h' tk (fun b o hb e=>hm'' b o hb ?_) hS''
   rw [hsb.2 b (fun h:b=S=>hb (by rw [h]; exact List.mem_cons_self))]
   exact hm b o (fun h=>hb (List.mem_cons_of_mem _ h)) e
set_option maxRecDepth 100000 in
set_option maxHeartbeats 3200000 in
theorem call_set_listL {l:Addr} {items:Array Value} {ks:List Str} {Q:Value→Shared→Prop}
  (hh:A.handled=none) (hl:s.heap.IsList l items) (hn:ks.length=items.size) (hval:∀ (i:Nat) v,items[i]?=some v→∃ k t,ks[i]?=some k∧v=.str k t) (hb:items.size + 1 < scanBound)
  (h:∀ (h':Heap) (tk:Nat),SetL c h' s.heap.objs.size (sof ks)→Kp s.heap h'→Q (.ref s.heap.objs.size) { s with heap:=h',toks:=tk }) :
  wpAny c.M A (call (.type "set") [.ref l]) Q E s:=by
 refine E21 F.called_set.mro fun cc tl hmro=>?_
 have hmade:=F.called_set.made
 have hsub:=F.called_set.sub
 refine wpAny_call (codeAny_of_tree ?_)
 show wpAny _ _ (callAny (.type "set") _) _ _ _
 refine wpAny_pure ⟨Code.quiet_builtin _ (by decide +kernel),codeAny_builtin F.entry_type_call ?_⟩
 rw [Around.under_plain (weight_type_call_type "set" [.ref l] []) rfl]
 have h1:=F.called_set.notType
 have h2:=F.called_set.canCreate
 have hct:=F.typeCall_set_1 (.ref l)
 repeat (any_goals (first | assumption | wp_step))
 refine codeAny_mono (code_set_newL [.ref l] (E:=E) (Q₁:=fun obj s₁=>obj=.ref s.heap.objs.size∧s₁={ s with heap:=s.heap.push (newSetObj c) }) (F.newCall_set_1 _) ⟨rfl,rfl⟩) fun r s₁ hr=>?_
 cases r with
 | error e=>exact hr
 | ok fl =>
  cases fl with
  | ret obj =>
   obtain ⟨rfl,rfl⟩:=hr
   have hS:(s.heap.push (newSetObj c)).get? s.heap.objs.size=some (newSetObj c):=Heap.get?_push_size _ rfl
   have hT:Shared.TypeIs { s with heap:=s.heap.push (newSetObj c) } (.ref s.heap.objs.size) "set" := (I12 _ hS rfl)
   have hli:=F.called_set.init.lookup
   have hbi:=F.called_set.init.bind (.ref s.heap.objs.size)
   repeat (any_goals (first | assumption | wp_step))
   refine codeAny_mono (codeAny_call_builtin (R:=wants (fun r s₂=>r=.none∧∃ h' tk,s₂={ s with heap:=h',toks:=tk }∧SetL c h' s.heap.objs.size (sof ks)∧Kp s.heap h') E) F.called_set.init.plain F.entry_set_init (check_set_init_1 hT ?_)) fun r₂ s₂ hr₂=>?_
   ·refine E13 hl fun ol hol hcl y0=>E11 y0 fun nl hdl=>?_; clear hl
    obtain ⟨ocls,odict,odata,oslots⟩:=ol
    simp only at hcl hdl
    subst hcl; subst hdl
    have hol':(s.heap.push (newSetObj c)).get? l=some { cls:=.type "list", dict:=odict,data:=.seq items nl,slots:=oslots }:=Heap.get?_push_of_some _ hol
    have hsls:=F.sub_list_set
    have hslf:=F.sub_list_frozenset
    have hne:(Value.type "list" == Value.type "dict")=false:=by decide
    have hl1:(s.heap.push (newSetObj c)).IsList l items:=(I13 _ hol' rfl (I11 nl rfl))
    unfold Builtin.«set.__init__» noKeywords Builtin.Frozenset.updateFrom
    generalize hPI:pyIter=PI
    wp_walk
    subst hPI
    refine wpAny_pyIter_list hl1 ?_
    refine wpAny_bind (wpAny_runValue ?_)
    have hlS:l < s.heap.objs.size:=Heap.lt_size hol
    have hh3:A.in1.in1.in1.handled=none:=by simp [hh]
    have hneI:l≠(s.heap.push (newSetObj c)).objs.size:=by
     rw [Heap.size_push]; exact Nat.ne_of_lt (Nat.lt_succ_of_lt hlS)
    have hSf:s.heap.objs.size∉[(s.heap.push (newSetObj c)).objs.size,l]:=by
     rw [Heap.size_push]; simp only [List.mem_cons,List.mem_singleton,List.not_mem_nil,or_false,not_or]
     exact ⟨Nat.ne_of_lt (Nat.lt_succ_self _),Nat.ne_of_gt hlS⟩
    refine update_loopL (Walks.list hh3 _ l hneI items) s.heap.objs.size hSf ks hn hval hb (items.size - 0) 0 _ (by omega) (Nat.zero_le _)
     ⟨(I13 _ (Heap.get?_push_size _ rfl) rfl rfl),(hl1.push _)⟩ (newSetL (Heap.get?_push_of_some _ hS)) fun h' tk hm hS'=>?_
    refine wpAny_pure ?_
    show wpAny _ _ (ret Value.none) _ _ _
    refine wpAny_pure (I02 rfl (I23 h' tk rfl hS' (fun b o e=>?_)))
    have hb:=Heap.lt_size e
    have hb1:b≠s.heap.objs.size:=Nat.ne_of_lt hb
    have hb2:b≠(s.heap.push (newSetObj c)).objs.size:=by
     rw [Heap.size_push]; exact Nat.ne_of_lt (Nat.lt_succ_of_lt hb)
    exact hm b o (by simp only [List.mem_cons,List.mem_singleton,List.not_mem_nil,or_false,not_or]; exact ⟨hb1,hb2⟩) (Heap.get?_push_of_some _ (Heap.get?_push_of_some _ e))
   ·cases r₂ with
    | error e=>exact hr₂
    | ok fl₂ =>
     cases fl₂ with
     | ret r =>
      refine E02 hr₂ fun z0 y0=>E23 y0 fun h' tk z3 hS' hk'=>?_; clear hr₂; subst z0; subst z3
      repeat (any_goals (first | assumption | wp_step))
      exact h _ _ hS' hk'
     | _=>exact hr₂.elim
  | _=>exact hr.elim
end
section
variable {c:Cx} {A:Around} {env:Env} {σ:St}
theorem wE_set0 {fpos pos:Pos} {k:V→St→Prop} (hm:c.mg "set" = none) (hk:env.kindOf "set" = some .globalImplicit)
  (h:∀ a,a∉σ.hp.map (·.1)→k (.ref a) ⟨σ.loc,(a,.set [])::σ.hp⟩):WE c A env σ (.Call (.Name "set" fpos) [] [] pos) k:=by
 refine WP.mk fun hA Z P s R=>?_
 show wpAny _ _ (do callWith pos (← eval (.Name "set" fpos) env) [] (backTo pos (starEach [] env)) (backToKw pos (keywordEach [] env))) _ _ s
 refine wpAny_bind (load_builtin R hm rfl (by decide) hk ?_ (by decide))
 refine PyProof.Rows.callWith_type0 ?_
 exact Fresh.own (o:=.set []) (s:=s) (Step.refl ..) R (fun Q E hQ=>call_set0L (hQ _ _ s.toks s.drawn (Kp.push _ _) (fresh_none _ _ (Nat.le_refl _)) (newSetL (Heap.get?_push_size _ rfl)))) h
theorem f_set_lst {hp:List (Addr×O)} {ks:List Str} (hl:ks.length + 1 < scanBound):FCall c A hp (.type "set") [.lst (ks.map .str)] (.set (sof ks)):=by
 intro hA Z P s vs hZ H r Q E hQ
 refine RdL.one_elim r fun v r1=>?_
 refine Rd.lst_elim r1 fun a items z i ri=>?_
 have l:=ri.length
 simp only [Array.length_toList,List.length_map] at l
 refine call_set_listL hA.handled i.isList l (fun i v hv=>?_) (by omega) fun h' tk hS hk=>hQ _ h' tk s.drawn hk (fresh_none _ _ (Nat.le_refl _)) hS
 refine E12 (ri.get' i v (by simpa using hv)) fun X hX rX=>?_
 simp only [List.getElem?_map,Option.map_eq_some_iff] at hX
 refine E12 hX fun k hk z2=>?_; clear hX; subst z2
 first | refine Rd.int_elim rX fun qa=>?_ | refine Rd.ref_elim rX ?_ | refine Rd.str_elim rX fun qa=>?_ | refine Rd.bool_elim rX ?_ | refine Rd.typ_elim rX ?_ | cases rX
 exact (I22 k _ hk rfl)
end
end Mine
end
noncomputable section
namespace Mine
open PySem PySem.SeqAt
noncomputable def dset (es:List (Str×V)) (k:Str) (X:V):List (Str×V) :=
 if es.any (fun e=>e.1=k) then es.map (fun e=>if e.1=k then (e.1,X) else e) else es++[(k,X)]
noncomputable def dfold (ps es:List (Str×V)):List (Str×V):=ps.foldl (fun es p=>dset es p.1 p.2) es
theorem dset_len (es:List (Str×V)) (k:Str) (X:V):(dset es k X).length≤es.length + 1:=by
 unfold dset; split <;> simp
theorem dset_rd {c:Cx} {Z:Addr→Prop} {h:Heap} {es:List (Str×V)} {kvs:List (Str×Value)} {k:Str} {X:V} {v:Value} (e:kvs.map (·.1)=es.map (·.1)) (r:RdL c Z h (es.map (·.2)) (kvs.map (·.2))) (rv:Rd c Z h X v) :
  (stored kvs k v).map (·.1)=(dset es k X).map (·.1)∧RdL c Z h ((dset es k X).map (·.2)) ((stored kvs k v).map (·.2)):=by
 have hany:kvs.any (fun e=>decide (e.1=k))=es.any (fun e=>decide (e.1=k)):=by
  have h1:kvs.any (fun e=>decide (e.1=k))=(kvs.map (·.1)).any (fun e=>decide (e=k)):=by rw [List.any_map]; rfl
  have h2:es.any (fun e=>decide (e.1=k))=(es.map (·.1)).any (fun e=>decide (e=k)):=by rw [List.any_map]; rfl
  rw [h1,h2,e]
 unfold stored dset
 rw [hany]
 split
 ·rename_i hany2; clear hany hany2
  induction es generalizing kvs with
  | nil=>cases kvs with
   | nil=>exact ⟨rfl,.nil⟩
   | cons q kvs=>exact absurd e (List.cons_ne_nil _ _)
  | cons p es ih=>cases kvs with
   | nil=>exact absurd e.symm (List.cons_ne_nil _ _)
   | cons q kvs =>
    have e1:=(List.cons.inj e).1
    cases r with | cons r1 r2 =>
    have i:=ih (List.cons.inj e).2 r2
    show (if q.1=k then (q.1,v) else q).1::_=(if p.1=k then (p.1,X) else p).1::_∧RdL c Z h ((if p.1=k then (p.1,X) else p).2::_) ((if q.1=k then (q.1,v) else q).2::_)
    by_cases hk:p.1=k
    ·have hq:q.1=k:=e1.trans hk
     rw [if_pos hk,if_pos hq]
     exact ⟨congr (congrArg List.cons e1) i.1,.cons rv i.2⟩
    ·have hq:¬ q.1=k:=fun z=>hk (e1.symm.trans z)
     rw [if_neg hk,if_neg hq]
     exact ⟨congr (congrArg List.cons e1) i.1,.cons r1 i.2⟩
 ·rw [List.map_append,List.map_append,List.map_append,List.map_append,e]
  exact ⟨rfl,r.append (.cons rv .nil)⟩
section
variable {c:Cx} {A:Around} {E:Value→Shared→Prop} {s:Shared}
theorem noKeys {l:Addr} {items:Array Value} {Q:Option Value→Shared→Prop} (hl:s.heap.PlainList l items) (hA:A.handled=none) (h:∀ h' tk,Kp s.heap h'→Q none { s with heap:=h',toks:=tk }) :
  wpAny c.M A (getAttr? (.ref l) "keys") Q E s:=by
 obtain ⟨n,hx⟩:=hl
 obtain ⟨hp,g,d,tk,os⟩:=s
 have hT:∀ tk',(⟨hp,g,d,tk',os⟩:Shared).TypeIs (.ref l) "list" := fun qa=>(I12 _ hx rfl)
 have f1:=sub_AttributeError
 have f3:=F.slot_list_getattribute.lookup
 have f4:=F.slot_list_getattribute.bind (.ref l)
 have f5:=am_list_getattr_none
 have hmiss:typeLookup (.type "list") "keys" = pure none:=by rw [typeLookup_type,builtinLookup_eq_fast]; kernel_rfl
 unfold getAttr? getAttrBy? getAttrBy
 refine wpAny_bind (wpAny_mkText (wpAny_bind (wpAny_attempt ?_)))
 repeat (any_goals (first | assumption | exact hT _ | ((with_reducible show wpAny _ _ (call (Value.builtin "list.__getattribute__") _ _) _ _ _); refine call_meets F.slot_list_getattribute (hT _) am_entry_list_getattribute (F.args_list_getattribute_2 _ _) (meets_getattribute_miss_list l items n #[] "keys" _ hmiss (by decide) (by decide)) (I03 hx hA (fun h' tk' e hx'=>?_))) | wp_step))
 refine E21 hx'.there fun t' u' he=>?_
 show wpAny _ _ (getattributeRaised _ _ _ _ _ _ _) _ _ _
 unfold getattributeRaised
 repeat (any_goals (first | assumption | wp_step))
 exact h _ _ hx'.of.keeps
theorem entry_dict_loop:entryFor table "dict.update.loop" = some Builtin.«dict.update.loop»:=entryFor_of_tree (by kernel_rfl)
theorem plain_dict_loop:plainId "dict.update.loop" = true:=by decide +kernel
noncomputable def RdPairs (ps:List (Str×V)):List V:=ps.map fun p=>.tup [.str p.1,p.2]
theorem RdO.dctAt {Z:Addr→Prop} {h:Heap} {a:Addr} {es:List (Str×V)} (r:RdO c Z h a (.dct es)):∃ kvs,(a == sysModules)=false∧h.DictOf c.K a kvs∧kvs.map (·.1)=es.map (·.1)∧RdL c Z h (es.map (·.2)) (kvs.map (·.2)) :=
 let ⟨kvs,_,h1,h2,h3,h4⟩:=r; (I14 kvs h1 h2.dictOf h3 h4)
theorem RdO.ofDict {Z:Addr→Prop} {h:Heap} {a:Addr} {es:List (Str×V)} {kvs:List (Str×Value)} (h1:(a == sysModules)=false) (h2:h.DictOf c.K a kvs) (h3:kvs.map (·.1)=es.map (·.1)) (h4:RdL c Z h (es.map (·.2)) (kvs.map (·.2))):RdO c Z h a (.dct es) :=
 let ⟨ep,h2⟩:=h2.dictAt; (I24 kvs ep h1 h2 h3 h4)
theorem dict_loopL {R:Result→Shared→Prop} {Z:Addr→Prop} {I l d:Addr} {items:Array Value} {result:Value} (hh:A.handled=none) (hne:l≠I) (hdI:d≠I) (hdl:d≠l) (hZI:¬ Z I) (hZd:¬ Z d) (ps:List (Str×V)) :
  ∀ (k i:Nat) (es:List (Str×V)) (t:Tok) (s:Shared),items.size - i=k→i≤items.size→s.heap.IsListIter I l i→s.heap.IsList l items→RdL c Z s.heap (RdPairs ps) items.toList→RdO c Z s.heap d (.dct es)→es.length + k≤sizeLine →
   (∀ h' tk,(∀ b o,b≠d→b≠I→s.heap.get? b=some o→h'.get? b=some o)→RdO c Z h' d (.dct (dfold (ps.drop i) es))→R (.ok (.ret result)) { s with heap:=h',toks:=tk }) →
   codeAny c.M A (.builtin "dict.update.loop" ⟨[.ref d,.ref I,.int i t,result],[]⟩) R s:=by
 have W:=Walks.list (prog:=c.prog) (w:=c.w) (A:=A.in1) (by simp [hh]) I l hne items
 intro k
 induction k with
 | zero =>
  intro i es t s hk hi hit hl hps hd hlen hR
  have hin:i=items.size:=oz hk hi
  subst hin
  refine codeAny_builtin entry_dict_loop ?_
  rw [Around.under_plainId plain_dict_loop _]
  show wpAny _ A.in1 (pyNext (.ref I) >>= _) _ _ s
  refine wpAny_bind (W.done s _ _ ⟨hit,hl⟩ fun h' tk hm=>?_)
  show wpAny _ A.in1 (do Builtin.Dict.addKeywords d []; ret result) _ _ _
  refine wpAny_bind (m:=Builtin.Dict.addKeywords d []) (wpAny_pure (wpAny_pure (hR h' tk (fun b o hb hb' e=>hm b o (by simpa using hb') e) ?_)))
  have hlen:=hps.length
  simp only [RdPairs,List.length_map,Array.length_toList] at hlen
  rw [List.drop_of_length_le (Nat.le_of_eq hlen)]
  exact hd.keep (fun qa z=>z) (fun b o z e=>hm b o (by rintro hb; simp at hb; subst hb; exact hZI z) e) fun o e=>hm d o (by simpa using hdI) e
 | succ k ih =>
  intro i es t s hk hi hit hl hps hd hlen hR
  have hlt:i < items.size:=ol hk
  refine codeAny_builtin entry_dict_loop ?_
  rw [Around.under_plainId plain_dict_loop _]
  show wpAny _ A.in1 (pyNext (.ref I) >>= _) _ _ s
  refine wpAny_bind (W.item i s _ _ hlt ⟨hit,hl⟩ fun v h₁ tk₁ hP hst' hm=>?_)
  have kZ:∀ b o,Z b→s.heap.get? b=some o→h₁.get? b=some o:=fun b o z e=>hm b o (by rintro hb; simp at hb; subst hb; exact hZI z) e
  have hps₁:RdL c Z h₁ (RdPairs ps) items.toList:=hps.keep (fun qa z=>z) kZ
  have hd₁:RdO c Z h₁ d (.dct es):=hd.keep (fun qa z=>z) kZ fun o e=>hm d o (by simpa using hdI) e
  refine E12 (hps₁.get' i v (by simpa using hP)) fun X hX rX=>?_
  simp only [RdPairs,List.getElem?_map,Option.map_eq_some_iff] at hX
  refine E12 hX fun p hp z2=>?_; clear hX; subst z2
  refine Rd.tup_elim rX fun a its z ht rs=>?_
  obtain ⟨n,ht⟩:=ht
  refine E23 rs.two fun kv vv hkv rk rv=>?_
  show wpAny _ A.in1 (holding [Value.ref a] _ >>= _) _ _ _
  refine wpAny_bind (wpAny_holding ?_)
  refine wpAny_bind (wpAny_tryCatch ?_)
  unfold Builtin.Dict.pairItems
  have hT:Shared.TypeIs { s with heap:=h₁,toks:=tk₁ } (.ref a) "tuple" := (I12 _ ht rfl)
  refine wpAny_bind (wpAny_typeOf hT ?_)
  rw [if_pos (by decide)]
  refine wpAny_bind (m:=seqItems? _) ?_
  unfold seqItems?
  refine wpAny_bind (wpAny_load ht ?_)
  refine wpAny_pure (wpAny_pure ?_)
  simp only [Option.getD_some,hkv]
  refine wpAny_holding ?_
  refine Rd.str_elim rk fun tk'=>?_
  refine E14 hd₁.dctAt fun kvs h1 h2 h3 h4=>?_
  have hkl:kvs.length=es.length:=by simpa using congrArg List.length h3
  refine wpAny_dictSet_pairs (knd:=c.K) (strKind_is _ _ p.1 tk') h2 (fun h₂ hd₂ hs₂=>?_) (by omega)
  have kZ₂:∀ b o,Z b→h₁.get? b=some o→h₂.get? b=some o:=fun b o z e=>hs₂.extBut b o (fun e'=>hZd (e'▸z)) e
  obtain ⟨h5,h6⟩:=dset_rd (k:=p.1) h3 (h4.keep (fun qa z=>z) kZ₂) (rv.keep (fun qa z=>z) kZ₂)
  refine wpAny_pure ⟨plainId_quiet plain_dict_loop _,?_⟩
  refine ih (i + 1) (dset es p.1 p.2) _ _ (os hk) hlt (hst'.1.at fun o e=>hs₂.extBut I o hdI.symm e) (hst'.2.at fun o e=>hs₂.extBut l o hdl.symm e) (hps₁.keep (fun qa z=>z) kZ₂) (.ofDict h1 hd₂ h5 h6) (by have:=dset_len es p.1 p.2; omega) fun h' tk hm' hd'=>hR h' tk (fun b o hb hb' e=>hm' b o hb hb' (hs₂.extBut b o hb (hm b o (by simpa using hb') e))) ?_
  have e:ps.drop i=p::ps.drop (i + 1):=by
   rw [List.drop_eq_getElem_cons (by have:=(List.getElem?_eq_some_iff.mp hp).1; exact this)]
   rw [(List.getElem?_eq_some_iff.mp hp).2]
  rw [e]; exact hd'
theorem updateFromL {R:Result→Shared→Prop} {Z:Addr→Prop} {id:String} {l d:Addr} {items:Array Value} {result:Value} {es ps:List (Str×V)} (hh:A.handled=none) (hdl:d≠l) (hZd:¬ Z d) (hZ:∀ b,Z b→∃ o,s.heap.get? b=some o) (hl:s.heap.PlainList l items)
  (hps:RdL c Z s.heap (RdPairs ps) items.toList) (hd:RdO c Z s.heap d (.dct es)) (hlen:es.length + ps.length≤sizeLine)
  (hR:∀ h' tk,(∀ b o,b≠d→s.heap.get? b=some o→h'.get? b=some o)→RdO c Z h' d (.dct (dfold ps es))→R (.ok (.ret result)) { s with heap:=h',toks:=tk }) :
  wpAny c.M A.in1 (Builtin.Dict.updateFrom id d (.ref l) [] result) (fun fin s'=>match fin with | .done f=>R (.ok f) s' | .again c'=>c'.quiet=true∧codeAny c.M A c' R s') (fun e s'=>R (.error e) s') s:=by
 unfold Builtin.Dict.updateFrom
 refine wpAny_bind (wpAny_typeOf hl.isList.typeIs ?_)
 rw [if_pos (by decide)]
 refine wpAny_bind (noKeys hl (by simp [hh]) fun h₁ tk₁ hk₁=>?_)
 rw [if_pos (by rfl)]
 have hl₁:h₁.PlainList l items:=hl.at fun o=>hk₁ l o
 refine wpAny_bind (wpAny_rule ?_)
 refine wpAny_bind (wpAny_pyIter_list (s:={ s with heap:=h₁,toks:=tk₁ }) hl₁.isList ?_)
 have hlt:l < h₁.objs.size:=let ⟨_,e⟩:=hl₁; Heap.lt_size e
 have hd₁:RdO c Z h₁ d (.dct es):=hd.keep (fun qa z=>z) (fun b o qa e=>hk₁ b o e) fun o=>hk₁ d o
 obtain ⟨od,hod⟩:=hd₁.some
 have hdlt:d < h₁.objs.size:=Heap.lt_size hod
 have kp:Kp s.heap (h₁.push { cls:=.type "list_iterator", data:=.fields #[.ref l,.int 0 0] }):=hk₁.trans (Kp.push _ _)
 have hsz:=hps.length
 simp only [RdPairs,List.length_map,Array.length_toList] at hsz
 refine wpAny_pure ⟨plainId_quiet plain_dict_loop _,?_⟩
 refine dict_loopL (Z:=Z) (I:=h₁.objs.size) (l:=l) (d:=d) (items:=items) hh (Nat.ne_of_lt hlt) (Nat.ne_of_lt hdlt) hdl (fun z=>?_) hZd ps (items.size - 0) 0 es _ _ (by omega) (Nat.zero_le _) (I13 _ (Heap.get?_push_size _ rfl) rfl rfl) (hl₁.isList.push _) (hps.kp kp) (hd.keep (fun qa z=>z) (fun b o qa e=>kp b o e) fun o=>kp d o) (by omega) fun h' tk hm hd'=>?_
 ·obtain ⟨o,e⟩:=hZ _ z
  exact absurd (Heap.lt_size (hk₁ _ _ e)) (Nat.lt_irrefl _)
 ·exact hR h' tk (fun b o hb e=>hm b o hb (Nat.ne_of_lt (Heap.lt_size (hk₁ _ _ e))) (kp b o e)) (by simpa using hd')
theorem f_dict_pairs {hp:List (Addr×O)} {ps:List (Str×V)} (hl:ps.length≤sizeLine):FCall c A hp (.type "dict") [.lst (RdPairs ps)] (.dct (dfold ps [])):=by
 intro hA Z P s vs hZ H r Q E hQ
 refine RdL.one_elim r fun v r1=>?_
 refine Rd.lst_elim r1 fun l items z i ri=>?_
 refine callType_codes (Q₁:=fun obj s₁=>obj=.ref s.heap.objs.size∧s₁={ s with heap:=s.heap.push { cls:=.type "dict", data:=.dict #[] } }) F.kt_called_dict (F.kt_typeCall_dict_1 _) F.entry_dict_init (kt_code_dict_new _ ⟨rfl,rfl⟩) ?_
 rintro obj s₁ ⟨rfl,rfl⟩
 have hnew:(s.heap.push { cls:=.type "dict", data:=.dict #[] }).DictOf c.K s.heap.objs.size []:=Heap.DictOf.new s.heap
 refine (I03 hnew.typeIs (F.args_dict_init_2 _ _) ?_)
 unfold Builtin.«dict.__init__»
 refine wpAny_bind ?_
 unfold Builtin.Dict.selfAndRest
 refine wpAny_bind (wpAny_notOrdered_dict hnew.typeIs ?_)
 show wpAny _ _ (pure (s.heap.objs.size,[Value.ref l])) _ _ _
 refine wpAny_pure ?_
 show wpAny _ _ (Builtin.Dict.updateFrom "dict.__init__" s.heap.objs.size (.ref l) [] .none) _ _ _
 have hk:=Kp.push s.heap { cls:=.type "dict", data:=.dict #[] }
 have hlt:l < s.heap.objs.size:=let ⟨_,e⟩:=i; Heap.lt_size e
 refine updateFromL (Z:=Z) (es:=[]) (ps:=ps) (items:=items) (by simp [hA.handled]) (Nat.ne_of_gt hlt) (fun z=>?_) (fun b z=>let ⟨o,e⟩:=hZ.2 b z; ⟨o,hk b o e⟩) (i.at fun o=>hk l o) (ri.kp hk) (.ofDict ?_ hnew rfl .nil) (by simpa using hl) fun h' tk hm hd'=>⟨rfl,?_⟩
 ·obtain ⟨o,e⟩:=hZ.2 _ z
  exact absurd (Heap.lt_size e) (Nat.lt_irrefl _)
 ·obtain ⟨o,e⟩:=hZ.2 _ hZ.1
  exact beq_false_of_ne (Nat.ne_of_gt (Heap.lt_size e))
 ·exact hQ _ h' tk s.drawn (fun b o e=>hm b o (Nat.ne_of_lt (Heap.lt_size e)) (hk b o e)) (fresh_none _ _ (Nat.le_refl _)) hd'
end
end Mine
end
noncomputable section
namespace Mine
open PySem PySem.SeqAt
noncomputable def hset (hp:List (Addr×O)) (a:Addr) (o:O):List (Addr×O):=hp.map fun e=>if e.1=a then (a,o) else e
theorem hset_fst (hp:List (Addr×O)) (a:Addr) (o:O):(hset hp a o).map (·.1)=hp.map (·.1):=by
 unfold hset
 rw [List.map_map]
 refine List.map_congr_left fun e qa=>?_
 simp only [Function.comp]
 split
 ·rename_i h; exact h.symm
 ·rfl
section
variable {c:Cx} {A:Around} {env:Env} {σ:St}
theorem Rel.hp_upd {Z P:Addr→Prop} {h h':Heap} {a:Addr} {o o':O} (R:Rel c Z P env σ h) (ha:(a,o)∈σ.hp) (hs:∀ b ob,b≠a→h.get? b=some ob→h'.get? b=some ob) (ho:RdO c Z h' a o'):Rel c Z P env ⟨σ.loc,hset σ.hp a o'⟩ h':=by
 have hA:=R.hp.obj a o ha
 have hown:=R.hpOff a o ha
 have hnd:=R.hp.nodup
 let rest:=σ.hp.filter fun e=>e.1≠a
 have hmr:∀ b ob,(b,ob)∈rest→(b,ob)∈σ.hp∧b≠a:=fun b ob hb=>by
  have:=List.mem_filter.mp hb
  exact ⟨this.1,by simpa using this.2⟩
 have R':Rel c Z P env ⟨σ.loc,rest⟩ h:=R.le (I03 (fun x X e=>e) (fun b ob hb=>(hmr b ob hb).1) (fun hnd=>(List.filter_sublist.map _).nodup hnd))
 have R2:Rel c Z P env ⟨σ.loc,rest⟩ h':=R'.but (N:=fun b=>b=a) (fun b ob n e=>hs b ob n e) (by rintro b rfl; exact R.inv.nT hA.2.2) (by rintro b rfl; exact hA.2.1) (by rintro b rfl; exact hown) (by rintro b rfl ob hb; exact (hmr _ ob hb).2 rfl)
  (by rintro b p rfl; exact absurd p hA.2.2) (by rintro x cl h1 h2 rfl; exact hA.2.2 (R.freeP x _ h1 h2))
 have hmem:∀ b ob,(b,ob)∈hset σ.hp a o'→(b=a∧ob=o')∨((b,ob)∈rest):=fun b ob hb=>by
  refine E12 (List.mem_map.mp hb) fun e he e'=>?_
  by_cases h1:e.1=a
  ·simp only [h1,if_true,Prod.mk.injEq] at e'
   exact .inl ⟨e'.1.symm,e'.2.symm⟩
  ·simp only [h1,if_false] at e'
   subst e'
   exact .inr (List.mem_filter.mpr ⟨he,by simpa using h1⟩)
 refine { R2 with
  vars:=R2.vars
  hp:=⟨fun b ob hb=>?_,by show ((hset σ.hp a o').map (·.1)).Nodup; rw [hset_fst]; exact hnd⟩
  hpOff:=fun b ob hb=>?_ }
 ·rcases hmem b ob hb with ⟨rfl,rfl⟩ | hb
  ·exact ⟨ho,hA.2⟩
  ·exact R2.hp.obj b ob hb
 ·rcases hmem b ob hb with ⟨rfl,rfl⟩ | hb
  ·exact hown
  ·exact R2.hpOff b ob hb
theorem Rel.step_upd {Z P:Addr→Prop} {s:Shared} {h':Heap} {a:Addr} {o:O} (R:Rel c Z P env σ s.heap) (ha:(a,o)∈σ.hp) (hs:∀ b ob,b≠a→s.heap.get? b=some ob→h'.get? b=some ob):Step Z P (cr s) Z (cr { s with heap:=h' }) :=
 ⟨fun qa z=>z,fun b ob z e=>hs b ob (fun e'=>(R.hp.obj a o ha).2.1 (e'▸z)) e,fun b ob p qa e=>hs b ob (fun e'=>(R.hp.obj a o ha).2.2 (e'▸p)) e,fun q hq t=>t.at (fun ob e=>hs _ ob (fun e'=>(R.hp.obj a o ha).2.1 (e'▸(R.inv.tab q hq).1)) e) (fun ob e=>hs _ ob (fun e'=>(R.hp.obj a o ha).2.2 (e'▸R.inv.tp q hq)) e),rfl,GB.refl _⟩
noncomputable def Upd (c:Cx) (A:Around) (Z:Addr→Prop) (s:Shared) (t:Sem Value) (a:Addr) (o':O) (r:V):Prop :=
 ∀ Q E,(∀ v h' tk dr,(∀ b ob,b≠a→s.heap.get? b=some ob→h'.get? b=some ob)→RdO c Z h' a o'→Rd c Z h' r v→Q v { s with heap:=h',toks:=tk,drawn:=dr })→wpAny c.M A t Q E s
noncomputable def UCall (c:Cx) (A:Around) (hp:List (Addr×O)) (f:Value) (Xs:List V) (a:Addr) (o':O) (r:V):Prop :=
 AOk A→∀ Z P s vs,(Z sysModules∧∀ b,Z b→∃ o,s.heap.get? b=some o)→HpR c Z P s.heap hp→RdL c Z s.heap Xs vs→Upd c A Z s (call f vs) a o' r
theorem Upd.fin {P Z Z₀:Addr→Prop} {s s₁:Shared} {t:Sem Value} {a:Addr} {o o':O} {r:V} {k:V→St→Prop}
  (S:Step Z₀ P (cr s) Z (cr s₁)) (R:Rel c Z P env σ s₁.heap) (ha:(a,o)∈σ.hp) (f:Upd c A Z s₁ t a o' r) (hk:k r ⟨σ.loc,hset σ.hp a o'⟩) :
  wpAny c.M A t (Fin c P env (RV c) k Z₀ s) (fun qa qb=>False) s₁ :=
 f _ _ fun v h' tk dr hs ho hr=>(fin_mk (S.trans (R.step_upd ha hs)) (R.hp_upd ha hs ho) hr hk)
noncomputable def VT (c:Cx) (hp:List (Addr×O)) (X:V) (T:String):Prop :=
 ∀ Z P (s:Shared) v,HpR c Z P s.heap hp→Rd c Z s.heap X v→s.TypeIs v T∧(∀ a,v=.ref a→∃ ob,s.heap.get? a=some ob∧ob.dict=none)
theorem vt_lst {hp:List (Addr×O)} {xs:List V}:VT c hp (.lst xs) "list" := by
 intro Z P s v H r
 refine Rd.lst_elim r fun a items z i ri=>?_
 refine ⟨i.isList.typeIs,?_⟩
 rintro a ⟨⟩
 obtain ⟨n,e⟩:=i; exact (I12 _ e rfl)
theorem vt_dct {hp:List (Addr×O)} {es:List (Str×V)}:VT c hp (.dct es) "dict" := by
 intro Z P s v H r
 refine Rd.dct_elim r fun a kvs ep z hs i e ri=>?_
 refine ⟨i.dictOf.typeIs,?_⟩
 rintro a ⟨⟩
 refine E23 i fun o es ho h1 qa=>?_; clear i; exact (I12 _ ho (h1.2.1))
theorem vt_olst {hp:List (Addr×O)} {a:Addr} {xs:List V} (ha:(a,O.lst xs)∈hp):VT c hp (.ref a) "list" := by
 intro Z P s v H r
 first | refine Rd.int_elim r fun qa=>?_ | refine Rd.ref_elim r ?_ | refine Rd.str_elim r fun qa=>?_ | refine Rd.bool_elim r ?_ | refine Rd.typ_elim r ?_ | cases r
 refine E12 ((H.obj a _ ha).1) fun items i ri=>?_
 refine ⟨i.isList.typeIs,?_⟩
 rintro a ⟨⟩
 obtain ⟨n,e⟩:=i; exact (I12 _ e rfl)
theorem vt_odct {hp:List (Addr×O)} {a:Addr} {es:List (Str×V)} (ha:(a,O.dct es)∈hp):VT c hp (.ref a) "dict" := by
 intro Z P s v H r
 first | refine Rd.int_elim r fun qa=>?_ | refine Rd.ref_elim r ?_ | refine Rd.str_elim r fun qa=>?_ | refine Rd.bool_elim r ?_ | refine Rd.typ_elim r ?_ | cases r
 refine E23 ((H.obj a _ ha).1) fun kvs ep qa i qb=>?_
 refine ⟨i.dictOf.typeIs,?_⟩
 rintro a ⟨⟩
 refine E23 i fun o es ho h1 qa=>?_; clear i; exact (I12 _ ho (h1.2.1))
theorem vt_oset {hp:List (Addr×O)} {a:Addr} {xs:List Str} (ha:(a,O.set xs)∈hp):VT c hp (.ref a) "set" := by
 intro Z P s v H r
 first | refine Rd.int_elim r fun qa=>?_ | refine Rd.ref_elim r ?_ | refine Rd.str_elim r fun qa=>?_ | refine Rd.bool_elim r ?_ | refine Rd.typ_elim r ?_ | cases r
 have i:SetL c s.heap a xs:=(H.obj a _ ha).1
 refine ⟨i.typeIs,?_⟩
 rintro a ⟨⟩
 refine E53 i fun o qa qb qc qd ho h1 qe=>?_; clear i; exact (I12 _ ho (h1.2.1))
structure MethOf (T:String) (name:Str) (id:String):Prop where
 attrs:PlainAttrs T
 slot:Slot T name id
 ty:typeOf (.builtin id)=pure (.type "method_descriptor")
noncomputable def MRest (c:Cx) (A:Around) (id:String) (Xs:List V) (k:V→St→Prop) (σ:St):Prop :=
 (∃ r,BCall c A σ.hp (.builtin id) Xs r∧k r σ)∨(∃ a o o' r,(a,o)∈σ.hp∧UCall c A σ.hp (.builtin id) Xs a o' r∧k r ⟨σ.loc,hset σ.hp a o'⟩)
theorem MRest.run {P Z Z₀:Addr→Prop} {s s₁:Shared} {id:String} {Xs:List V} {vs:List Value} {k:V→St→Prop} (hA:AOk A) (m:MRest c A id Xs k σ) (S:Step Z₀ P (cr s) Z (cr s₁)) (R:Rel c Z P env σ s₁.heap) (r:RdL c Z s₁.heap Xs vs) :
  wpAny c.M A (call (.builtin id) vs) (Fin c P env (RV c) k Z₀ s) (fun qa qb=>False) s₁:=by
 rcases m with ⟨x,hB,hk⟩ | ⟨a,o,o',x,ha,hU,hk⟩
 ·exact Res.fin S R (hB hA Z P _ vs ⟨R.inv.sys,R.inv.exZ⟩ R.hp r) hk
 ·exact Upd.fin S R ha (hU hA Z P _ vs ⟨R.inv.sys,R.inv.exZ⟩ R.hp r) hk
theorem wE_Meth0 {o:Expr} {name:Str} {apos pos:Pos} {T id:String} {k:V→St→Prop} (m:MethOf T name id) (h:WE c A env σ o fun X σ₁=>VT c σ₁.hp X T∧MRest c A id [X] k σ₁)
  (hbase:attributeBase o name env (eval o env)=eval o env:=by rfl) (hline:(apos.endLine == pos.line)=true:=by rfl):WE c A env σ (.Call (.Attribute o name apos) [] [] pos) k:=by
 refine WP.mk fun hA Z P s R=>?_
 refine wpAny_Call_method hbase rfl hline m.attrs m.slot m.ty (wp_then h hA R fun Z₁ s₁ X σ₁ v S₁ R₁ r₁ kk=>?_)
 obtain ⟨hT,hm⟩:=kk
 obtain ⟨t1,t2⟩:=hT Z₁ P s₁ v R₁.hp r₁
 refine (I03 t1 t2 ?_)
 refine Calls.callWith_builtin rfl (evalArgs_none ?_)
 exact hm.run hA S₁ R₁ (.cons r₁ .nil)
theorem wE_Meth {o:Expr} {name:Str} {apos pos:Pos} {T id:String} {e:Expr} {es:List Expr} {k:V→St→Prop} (m:MethOf T name id) (h:WE c A env σ o fun X σ₁=>VT c σ₁.hp X T∧WEs c A env σ₁ pos (e::es) fun Xs σ₂=>MRest c A id (X::Xs) k σ₂)
  (hbase:attributeBase o name env (eval o env)=eval o env:=by rfl) (hline:(apos.endLine == pos.line)=true:=by rfl)
  (hfew:((backTo pos (starEach (e::es) env)).all (fun x=>!x.1)&&(backToKw pos (keywordEach [] env)).all (fun x=>x.1.isSome)&&decide ((e::es).length + ([]:List Keyword).length + (if ([]:List Keyword).isEmpty then 0 else 1) < 30))=true:=by rfl)
  (he:starEach (e::es) env=(false,eval e env)::starEach es env:=by rfl) (hplain:(backTo pos (starEach (e::es) env)).any (·.1)=false:=by rfl):WE c A env σ (.Call (.Attribute o name apos) (e::es) [] pos) k:=by
 refine WP.mk fun hA Z P s R=>?_
 refine wpAny_Call_method hbase hfew hline m.attrs m.slot m.ty (wp_then h hA R fun Z₁ s₁ X σ₁ v S₁ R₁ r₁ kk=>?_)
 obtain ⟨hT,hm⟩:=kk
 obtain ⟨t1,t2⟩:=hT Z₁ P s₁ v R₁.hp r₁
 refine (I03 t1 t2 ?_)
 refine Calls.callWith_builtin hplain ?_
 have:=hm.run hA Z₁ P s₁ R₁
 unfold WEs at hm
 rw [he] at this ⊢
 refine Calls.evalArgs_plain (wpAny_mono this ?_ fun qa qb x=>x)
 refine fun vs s₂=>R34 fun Z₂ Xs σ₂ S₂ R₂ r₂ hr=>?_
 exact hr.run hA (S₁.trans S₂) R₂ (.cons (r₁.step S₂) r₂)
end
theorem meth_append:MethOf "list" "append" "list.append" := ⟨F.plainAttrs_list,F.slot_list_append,by kernel_rfl⟩
theorem meth_pop:MethOf "list" "pop" "list.pop" := ⟨F.plainAttrs_list,F.slot_list_pop,by kernel_rfl⟩
theorem meth_index:MethOf "list" "index" "list.index" := ⟨F.plainAttrs_list,F.slot_list_index,by kernel_rfl⟩
theorem meth_get:MethOf "dict" "get" "dict.get" := ⟨F.plainAttrs_dict,F.slot_dict_get,by kernel_rfl⟩
theorem meth_items:MethOf "dict" "items" "dict.items" := ⟨F.plainAttrs_dict,F.slot_dict_items,by kernel_rfl⟩
theorem meth_update:MethOf "dict" "update" "dict.update" := ⟨F.plainAttrs_dict,F.slot_dict_update,by kernel_rfl⟩
theorem meth_add:MethOf "set" "add" "set.add" := ⟨F.plainAttrs_set,F.slot_set_add,by kernel_rfl⟩
theorem meth_discard:MethOf "set" "discard" "set.discard" := ⟨F.plainAttrs_set,F.slot_set_discard,by kernel_rfl⟩
section
variable {c:Cx} {A:Around} {hp:List (Addr×O)}
theorem u_append {a:Addr} {xs:List V} {X:V} (ha:(a,O.lst xs)∈hp) (hl:xs.length≤sizeLine):UCall c A hp (.builtin "list.append") [.ref a,X] a (.lst (xs++[X])) .none:=by
 intro hA Z P s vs hZ H r Q E hQ
 refine RdL.two_elim r fun v u r1 r2=>?_
 first | refine Rd.int_elim r1 fun qa=>?_ | refine Rd.ref_elim r1 ?_ | refine Rd.str_elim r1 fun qa=>?_ | refine Rd.bool_elim r1 ?_ | refine Rd.typ_elim r1 ?_ | cases r1
 refine E12 ((H.obj a _ ha).1) fun items i ri=>?_
 obtain ⟨n,e⟩:=i
 have l:=ri.length
 simp only [Array.length_toList] at l
 have hT:s.TypeIs (.ref a) "list" := (I12 _ e rfl)
 refine call_meets F.slot_list_append hT F.entry_list_append (F.args_list_append_2 _ _) (PySem.list_append a items n u (by omega)) ⟨e,?_⟩
 have hs:Heap.SameBut a s.heap (s.heap.update a (Obj.mapSeq fun x=>x.push u)):=Heap.SameBut.update ..
 have kZ:∀ b o,Z b→s.heap.get? b=some o→(s.heap.update a (Obj.mapSeq fun x=>x.push u)).get? b=some o:=fun b o z e=>hs.extBut b o (fun e'=>(H.obj a _ ha).2.1 (e'▸z)) e
 have e2:=Heap.get?_update_self (Obj.mapSeq fun x=>x.push u) e (by rfl)
 refine hQ _ _ s.toks s.drawn (fun b ob hb e=>hs.extBut b ob hb e) (I12 (items.push u) ⟨_,e2⟩ ?_) .none
 rw [Array.toList_push]
 exact (ri.append (.cons r2 .nil)).keep (fun qa z=>z) kZ
theorem u_pop0 {a:Addr} {X:V} {xs:List V} (ha:(a,O.lst (X::xs))∈hp) (hl:xs.length + 1≤sizeLine):UCall c A hp (.builtin "list.pop") [.ref a,.int 0] a (.lst xs) X:=by
 intro hA Z P s vs hZ H r Q E hQ
 refine RdL.two_elim r fun v u r1 r2=>?_
 first | refine Rd.int_elim r1 fun qa=>?_ | refine Rd.ref_elim r1 ?_ | refine Rd.str_elim r1 fun qa=>?_ | refine Rd.bool_elim r1 ?_ | refine Rd.typ_elim r1 ?_ | cases r1
 refine Rd.int_elim r2 fun t=>?_
 refine E12 ((H.obj a _ ha).1) fun items i ri=>?_
 obtain ⟨n,e⟩:=i
 have l:=ri.length
 simp only [Array.length_toList,List.length_cons] at l
 have hT:s.TypeIs (.ref a) "list" := (I12 _ e rfl)
 refine E12 (ri.get 0 X (by simp)) fun y hy ry=>?_
 refine call_meets F.slot_list_pop hT F.entry_list_pop (F.args_list_pop_2 _ _) (PySem.MeetsSeq.list_pop_at a items n 0 t 0 y (by decide) ?_ (by simpa using hy) (by omega)) ⟨e,?_⟩
 ·unfold seqIndex?
  simp only [show ¬ (0:Int) < 0 by omega,if_false]
  rw [if_pos]
  ·rfl
  ·simp only [Bool.and_eq_true,decide_eq_true_eq]; omega
 have hs:Heap.SameBut a s.heap (s.heap.update a (Obj.mapSeq fun xs=>xs.eraseIdxIfInBounds 0)):=Heap.SameBut.update ..
 have kZ:∀ b o,Z b→s.heap.get? b=some o→(s.heap.update a (Obj.mapSeq fun xs=>xs.eraseIdxIfInBounds 0)).get? b=some o:=fun b o z e=>hs.extBut b o (fun e'=>(H.obj a _ ha).2.1 (e'▸z)) e
 have e2:=Heap.get?_update_self (Obj.mapSeq fun xs=>xs.eraseIdxIfInBounds 0) e (by rfl)
 refine hQ _ _ s.toks s.drawn (fun b ob hb e=>hs.extBut b ob hb e) (I12 (items.eraseIdxIfInBounds 0) ⟨_,e2⟩ ?_) (ry.keep (fun qa z=>z) kZ)
 have e3:(items.eraseIdxIfInBounds 0).toList=items.toList.tail:=by
  rw [Array.toList_eraseIdxIfInBounds]
  cases items.toList <;> rfl
 rw [e3]
 have:=(ri.drop 1).keep (fun qa z=>z) kZ
 simpa using this
end
end Mine
end
noncomputable section
namespace Mine
open PySem PySem.SeqAt
theorem eraseAt_perm {α:Type} (xs:Array α) (i:Nat) (x:α) (h:xs[i]?=some x):List.Perm (x::(SetTable.eraseAt xs i).toList) xs.toList:=by
 unfold SetTable.eraseAt
 have hi:i < xs.size:=by
  have:=(Array.getElem?_eq_some_iff.mp h).1; exact this
 have e1:(xs.extract 0 i++xs.extract (i + 1) xs.size).toList=xs.toList.take i++xs.toList.drop (i + 1):=by
  simp only [Array.toList_append,Array.toList_extract,List.extract_eq_drop_take,List.drop_zero,Nat.sub_zero]
  congr 1
  rw [List.take_of_length_le (by simp)]
 rw [e1]
 have h':xs.toList[i]?=some x:=by simpa using h
 have hlt:i < xs.toList.length:=by simpa using hi
 have e2:xs.toList=xs.toList.take i++x::xs.toList.drop (i + 1):=by
  conv=>lhs; rw [← List.take_append_drop i xs.toList,List.drop_eq_getElem_cons hlt]
  rw [List.getElem?_eq_getElem hlt] at h'
  cases h'; rfl
 conv=>rhs; rw [e2]
 exact List.perm_middle.symm
theorem er_size {α:Type} {xs:Array α} {i:Nat} (h:i < xs.size):(SetTable.eraseAt xs i).size + 1=xs.size:=by
 unfold SetTable.eraseAt
 rw [Array.size_append,Array.size_extract,Array.size_extract,Nat.min_eq_left (Nat.le_of_lt h),Nat.min_self,Nat.sub_zero,Nat.add_right_comm]
 exact Nat.add_sub_of_le h
theorem ar_ins (n p:Nat):min p n - 0 + 1 + (min n n - p)=n + 1:=by
 rw [Nat.sub_zero,Nat.min_self,Nat.add_right_comm]
 rcases Nat.le_total p n with h | h
 ·rw [Nat.min_eq_left h,Nat.add_sub_of_le h]
 ·rw [Nat.min_eq_right h,Nat.sub_eq_zero_of_le h]
theorem in_size (xs:Array Nat) (p x:Nat):(SetTable.insertAt xs p x).size=xs.size + 1:=by
 unfold SetTable.insertAt
 rw [Array.size_append,Array.size_push,Array.size_extract,Array.size_extract]
 exact ar_ins _ _
theorem drop_fits {t:SetTable} {n i:Nat} (h:t.fits (n + 1)=true) (hi:i < n + 1):(t.drop i).fits n=true:=by
 unfold SetTable.fits SetTable.fill at h ⊢
 rw [Bool.and_eq_true,beq_iff_eq,decide_eq_true_eq] at h ⊢
 have hi':i < t.place.size:=h.1.symm▸hi
 have e:=er_size hi'
 unfold SetTable.drop
 rw [Array.getElem?_eq_getElem hi']
 dsimp only
 refine ⟨Nat.succ.inj (e.trans h.1),?_⟩
 rw [in_size,← Nat.succ_add_eq_add_succ]
 exact (congrArg (· + t.dummies.size) e).symm▸h.2
theorem drop_led (t:SetTable) (i:Nat):(t.drop i).led=t.led:=by
 unfold SetTable.drop; split <;> rfl
theorem drop_plain (t:SetTable) (i:Nat):(t.drop i).plain=t.plain:=by
 unfold SetTable.drop; split <;> rfl
section
variable {c:Cx} {A:Around} {hp:List (Addr×O)}
theorem setDiscardL {s:Shared} {E:Value→Shared→Prop} {a:Addr} {xs:List Str} {k:Str} {x:Value} {Q:Bool→Shared→Prop} (hkey:c.K.is k x=true) (hsc:x.scannable=true) (hS:SetL c s.heap a xs)
  (h:∀ h' b,Heap.SameBut a s.heap h'→SetL c h' a (xs.filter fun y=>decide (y≠k))→Q b { s with heap:=h' }):wpAny c.M A (setDiscardHashed a x (c.K.hash k)) Q E s:=by
 refine E510 (id hS) fun o es ep t ks ho hex hd hel hp hnd hb hf hled hpl=>?_
 have hlen:es.size=xs.length:=by rw [← hp.length_eq,← hel.length]; simp
 have hel':=elems_of hel
 unfold setDiscardHashed
 refine wpAny_bind ?_
 unfold setFind setFindIn
 refine wpAny_bind (wpAny_setState_of ho hd hf ?_)
 dsimp only
 rw [byScan_of hsc hb hel']
 simp only [↓reduceIte]
 refine wpAny_bind (wpAny_rule ?_)
 refine wpAny_bind (wpAny_setScan_of hkey ho hd hf hel' ?_)
 cases hr:List.findIdx? (fun e=>c.K.is k e.2) es.toList with
 | none =>
  dsimp only
  have hk:k∉xs:=by
   intro hk
   refine E12 ((mem_keys hel k).mp (hp.mem_iff.mpr hk)) fun e he h1=>?_
   have:=List.findIdx?_eq_none_iff.mp hr e he
   rw [h1] at this; cases this
  refine wpAny_pure (wpAny_pure (h s.heap _ (Heap.SameBut.refl a s.heap) ?_))
  rw [List.filter_eq_self.mpr]
  ·exact hS
  ·intro y hy
   exact decide_eq_true fun e=>hk (e▸hy)
 | some j =>
  dsimp only
  refine E12 (List.findIdx?_eq_some_iff_getElem.mp hr) fun hj hpj qa=>?_
  refine wpAny_pure ?_
  rw [Nat.zero_add]
  refine wpAny_bind (wpAny_setState_of ho hd hf ?_)
  dsimp only
  have hj':es[j]?=some es.toList[j]:=by
   rw [← Array.getElem?_toList]; exact List.getElem?_eq_getElem hj
  have hperm:=eraseAt_perm es j _ hj'
  refine E12 (hel.perm hperm) fun ks1 h1 h2=>?_
  cases h1 with | cons r1 rs =>
  rename_i k1 ks2
  have hk1:k1=k:=c.K.inj _ _ _ r1.1 hpj
  subst hk1
  have hpk:(k1::ks2).Perm xs:=h2.trans hp
  have hnd2:(k1::ks2).Nodup:=hpk.nodup_iff.mpr hnd
  have hfil:ks2.Perm (xs.filter fun y=>decide (y≠k1)):=by
   have:=hpk.filter (fun y=>decide (y≠k1))
   rw [List.filter_cons_of_neg (by simp),List.filter_eq_self.mpr] at this
   ·exact this
   ·intro y hy
    refine decide_eq_true fun e=>?_
    subst e
    exact (List.nodup_cons.mp hnd2).1 hy
  have hsz:(SetTable.eraseAt es j).size + 1=es.size:=by
   have:=hperm.length_eq
   simpa using this
  refine wpAny_bind (storeSetL ho hex hd rs hfil (hnd.filter _) (by omega) (drop_fits (by rw [hsz]; exact hf) (by have:es.toList.length=es.size:=(by simp); omega)) (by rw [drop_led]; exact hled) (fun h0=>by rw [drop_plain]; exact hpl (by omega)) fun h' o' hsb qa qb qc hS'=>?_)
  exact wpAny_bind (wpAny_point (wpAny_pure (h h' _ hsb hS')))
theorem u_add {a:Addr} {xs:List Str} {k:Str} (ha:(a,O.set xs)∈hp) (hl:xs.length + 1 < scanBound):UCall c A hp (.builtin "set.add") [.ref a,.str k] a (.set (sadd xs k)) .none:=by
 intro hA Z P s vs hZ H r Q E hQ
 refine RdL.two_elim r fun v u r1 r2=>?_
 cases r1; cases r2 with | str _ t =>
 have hS:SetL c s.heap a xs:=(H.obj a _ ha).1
 refine wpAny_call_entry F.slot_set_add hS.typeIs F.entry_set_add ?_ (F.args_set_add_2 _ _)
 unfold Builtin.«set.add»
 refine wpAny_bind (m:=Builtin.Frozenset.oneOther _ _) ?_
 unfold Builtin.Frozenset.oneOther
 refine wpAny_bind (m:=Builtin.Frozenset.addrOf _) (wpAny_pure (wpAny_pure ?_))
 refine wpAny_bind (m:=setAdd _ _) ?_
 unfold setAdd
 refine wpAny_holding (wpAny_bind (c.K.pyHash (k:=k) (strKind_is _ _ _ _) ?_))
 refine setAddL (s:={ s with toks:=s.toks + 1 }) (strKind_is _ _ _ _) rfl ⟨t,rfl⟩ hS hl fun h' b hsb hS'=>?_
 exact wpAny_pure (I12 _ rfl (hQ _ h' (s.toks + 1) s.drawn (fun b ob hb e=>hsb.extBut b ob hb e) hS' .none))
theorem u_discard {a:Addr} {xs:List Str} {k:Str} (ha:(a,O.set xs)∈hp):UCall c A hp (.builtin "set.discard") [.ref a,.str k] a (.set (xs.filter fun y=>decide (y≠k))) .none:=by
 intro hA Z P s vs hZ H r Q E hQ
 refine RdL.two_elim r fun v u r1 r2=>?_
 cases r1; cases r2 with | str _ t =>
 have hS:SetL c s.heap a xs:=(H.obj a _ ha).1
 refine wpAny_call_entry F.slot_set_discard hS.typeIs F.entry_set_discard ?_ (F.args_set_discard_2 _ _)
 unfold Builtin.«set.discard»
 refine wpAny_bind (m:=Builtin.Frozenset.oneOther _ _) ?_
 unfold Builtin.Frozenset.oneOther
 refine wpAny_bind (m:=Builtin.Frozenset.addrOf _) (wpAny_pure (wpAny_pure ?_))
 refine wpAny_bind (m:=Builtin.Frozenset.withSetAsKey _ _ _) ?_
 unfold Builtin.Frozenset.withSetAsKey
 refine wpAny_tryCatch ?_
 unfold setDiscard
 refine wpAny_holding (wpAny_bind (c.K.pyHash (k:=k) (strKind_is _ _ _ _) ?_))
 refine setDiscardL (s:={ s with toks:=s.toks + 1 }) (strKind_is _ _ _ _) rfl hS fun h' b hsb hS'=>?_
 exact wpAny_pure (I12 _ rfl (hQ _ h' (s.toks + 1) s.drawn (fun b ob hb e=>hsb.extBut b ob hb e) hS' .none))
theorem b_items_dct {es:List (Str×V)}:BCall c A hp (.builtin "dict.items") [.dct es] (.view (.dct es)):=by
 intro hA Z P s vs hZ H r Q E hQ
 refine RdL.one_elim r fun v r1=>?_
 refine Rd.dct_elim r1 fun a kvs ep z hs i e ri=>?_
 refine call_meetsIn F.slot_dict_items i.dictOf.typeIs F.entry_dict_items (F.args_dict_items_1 _) (meets_dict_items c.K a hs) ⟨⟨_,i.dictOf⟩,?_⟩
 have hk:=Kp.push s.heap { cls:=.type "dict_items", data:=.fields #[.ref a] }
 exact hQ _ _ s.toks s.drawn (fun b=>b=s.heap.objs.size) hk new_one (.view (.inr rfl) (I13 _ (Heap.get?_push_size _ rfl) rfl rfl) ((Rd.dct z hs i e ri).keep (fun qa z=>.inl z) fun b o qa e=>hk b o e))
theorem b_items_odct {d:Addr} {es:List (Str×V)} (hd:(d,O.dct es)∈hp):BCall c A hp (.builtin "dict.items") [.ref d] (.view (.ref d)):=by
 intro hA Z P s vs hZ H r Q E hQ
 refine RdL.one_elim r fun v r1=>?_
 first | refine Rd.int_elim r1 fun qa=>?_ | refine Rd.ref_elim r1 ?_ | refine Rd.str_elim r1 fun qa=>?_ | refine Rd.bool_elim r1 ?_ | refine Rd.typ_elim r1 ?_ | cases r1
 refine E23 ((H.obj d _ hd).1) fun kvs ep hs i qa=>?_
 refine call_meetsIn F.slot_dict_items i.dictOf.typeIs F.entry_dict_items (F.args_dict_items_1 _) (meets_dict_items c.K d hs) ⟨⟨_,i.dictOf⟩,?_⟩
 have hk:=Kp.push s.heap { cls:=.type "dict_items", data:=.fields #[.ref d] }
 exact hQ _ _ s.toks s.drawn (fun b=>b=s.heap.objs.size) hk new_one (.view (.inr rfl) (I13 _ (Heap.get?_push_size _ rfl) rfl rfl) (.ref d))
theorem b_get {es:List (Str×V)} {k:Str} {X:V}:BCall c A hp (.builtin "dict.get") [.dct es,.str k,X] ((dget es k).getD X):=by
 intro hA Z P s vs hZ H r
 cases r with | cons r1 r=>cases r with | cons r2 r=>cases r with | cons r3 r=>cases r with | nil =>
 refine Rd.str_elim r2 fun t=>?_
 cases r1 with | dct z hs i e ri =>
 rename_i dv a kvs ep
 refine Res.pure fun Q E h=>call_meetsIn F.slot_dict_get i.dictOf.typeIs F.entry_dict_get (F.args_dict_get_3 _ _ _) (meets_dict_get_default c.K a (strKind_is _ _ k t) hs dv) (I12 _ i.dictOf.mapOf ?_)
 rcases dget_rd e ri k with ⟨h1,h2⟩ | ⟨X',v,h1,h2,rv⟩
 ·rw [h2]; rw [h1] at h; exact h _ _ r3
 ·rw [h2]; rw [h1] at h; exact h _ _ rv
theorem u_update {d:Addr} {es ps:List (Str×V)} (hd:(d,O.dct es)∈hp) (hl:es.length + ps.length≤sizeLine):UCall c A hp (.builtin "dict.update") [.ref d,.lst (RdPairs ps)] d (.dct (dfold ps es)) .none:=by
 intro hA Z P s vs hZ H r Q E hQ
 refine RdL.two_elim r fun v u r1 r2=>?_
 cases r1; cases r2 with | lst z i ri =>
 rename_i l items
 have hO:=H.obj d _ hd
 refine E23 (id hO.1) fun kvs ep hs hD qa=>?_
 have hdl:d≠l:=fun e=>hO.2.1 (e▸z)
 refine wpAny_call (codeAny_call_builtin F.slot_dict_update.plain F.entry_dict_update (F.slot_dict_update.check _ _ _ _ _ _ _ _ hD.dictOf.typeIs (F.args_dict_update_2 _ _) ?_))
 unfold Builtin.«dict.update»
 refine wpAny_bind (m:=Builtin.Dict.selfAndRest _ _) ?_
 unfold Builtin.Dict.selfAndRest
 refine wpAny_bind (wpAny_notOrdered_dict hD.dictOf.typeIs ?_)
 show wpAny _ _ (pure (d,[Value.ref l])) _ _ _
 refine wpAny_pure ?_
 show wpAny _ _ (Builtin.Dict.updateFrom "dict.update" d (.ref l) [] .none) _ _ _
 exact updateFromL (R:=wants Q E) (Z:=Z) (es:=es) (ps:=ps) hA.handled hdl hO.2.1 hZ.2 i ri hO.1 hl fun h' tk hm hd'=>hQ _ h' tk s.drawn (fun b ob hb e=>hm b ob hb e) hd' .none
theorem b_index {xs:List Str} {k:Str} {j:Nat} (hj:xs[j]?=some k) (hno:∀ m,m < j→xs[m]?≠some k) (hl:xs.length≤sizeLine):BCall c A hp (.builtin "list.index") [.lst (xs.map .str),.str k] (.int j):=by
 intro hA Z P s vs hZ H r
 refine RdL.two_elim r fun v u r1 r2=>?_
 refine Rd.str_elim r2 fun t=>?_
 refine Rd.lst_elim r1 fun a items z i ri=>?_
 obtain ⟨n,ho⟩:=id i
 have l:=ri.length
 simp only [Array.length_toList,List.length_map] at l
 have key:∀ (m:Nat) y,items[m]?=some y→∃ x u,xs[m]?=some x∧y=.str x u:=fun m y hy=>by
  refine E12 (ri.get' m y (by simpa using hy)) fun X hX rX=>?_
  simp only [List.getElem?_map,Option.map_eq_some_iff] at hX
  refine E12 hX fun x hx z2=>?_; clear hX; subst z2
  cases rX; exact (I22 x _ hx rfl)
 let e:Value→Bool:=fun y=>match y with | .str x _=>x.cps.toList == k.cps.toList | _=>false
 have ek:∀ x:Str,(x.cps.toList == k.cps.toList)=true↔x=k:=fun x=>by
  rw [beq_iff_eq]
  constructor
  ·intro h
   have:x.cps=k.cps:=Array.toList_inj.mp h
   cases x; cases k; simp_all
  ·rintro rfl; rfl
 have hjl:j < items.size:=by have:=(List.getElem?_eq_some_iff.mp hj).1; omega
 refine Res.pure fun Q E h=>call_meets F.slot_list_index i.isList.typeIs F.entry_list_index (F.args_list_index_2 _ _) (PySem.MeetsSeq.list_index a items n (.str k t) e (fun y hy=>?_) j hjl (by rw [sizeLine_eq] at hl; omega) ?_ fun m hm hmj=>?_) ⟨ho,h _ _ (.int _ _)⟩
 ·obtain ⟨m,hm⟩:=Array.mem_iff_getElem?.mp hy
  refine E22 (key m y hm) fun x u qa z3=>?_; subst z3
  exact PySem.SeqRoads2.EqGives.str x k u t
 ·refine E22 (key j _ (Array.getElem?_eq_getElem hjl)) fun x u hx hy=>?_
  rw [hy]
  rw [hj] at hx; cases hx
  exact (ek k).mpr rfl
 ·refine E22 (key m _ (Array.getElem?_eq_getElem hm)) fun x u hx hy=>?_
  rw [hy]
  have:x≠k:=fun e=>hno m hmj (e▸hx)
  exact Bool.eq_false_iff.mpr fun h=>this ((ek x).mp h)
end
end Mine
end
noncomputable section
namespace Mine
open PySem PySem.SeqAt
theorem setAt_own {c:Cx} {A:Around} {E:Value→Shared→Prop} {s:Shared} {a:Addr} {items:Array Value} {n:Nat} {i:Int} {t:Tok} {v:Value} {Q:Unit→Shared→Prop} (ho:s.heap.get? a=some { cls:=.type "list", data:=.seq items n }) (h0:0≤i) (h1:i < 2 ^ 62) (h2:i < items.size)
  (hQ:Q () { s with heap:=s.heap.update a (Obj.mapSeq (·.setIfInBounds i.toNat v)) }):wpAny c.M A (setItem (.ref a) (.int i t) v) Q E s:=by
 have hT:s.TypeIs (.ref a) "list" := (I12 _ ho rfl)
 have hf:=fitsIndex_of h0 (Int.lt_trans h1 (by decide))
 clear h1
 unfold setItem
 refine wpAny_holding (wpAny_bind (wpAny_sequenceKey hT (by decide) ?_))
 refine wpAny_bind (wpAny_callSpecial?_slot (name:=Str.ofString "__setitem__") hT slot_list_setitem (wpAny_call_entry slot_list_setitem hT entry_list_setitem ?_ (args_list_setitem _ _ _)))
 show wpAny _ _ (Builtin.List.listSubscript? (.int i t) >>= _) _ _ s
 refine wpAny_bind (wpAny_listSubscript_int hf ?_)
 clear hf
 obtain ⟨j,rfl⟩:=Int.eq_ofNat_of_zero_le h0
 have hj:j < items.size:=by omega
 have hx:items[j]?=some items[j]:=Array.getElem?_eq_getElem hj
 show wpAny _ _ ((seqItemAt a j >>= fun r=>pure (r.map (j,·))) >>= _) _ _ s
 refine wpAny_bind (wpAny_bind (wpAny_seqItemAt ho rfl (wpAny_pure ?_)))
 rw [hx]
 show wpAny _ _ (setSeqItemAt a j v >>= _) _ _ s
 refine wpAny_bind (wpAny_setSeqItemAt ho rfl ?_)
 exact wpAny_pure (I12 .none rfl (wpAny_pure hQ))
section
variable {c:Cx} {A:Around} {env:Env} {σ:St} {hp:List (Addr×O)}
noncomputable def SetV (c:Cx) (A:Around) (hp:List (Addr×O)) (X Y W:V) (a:Addr) (o':O):Prop :=
 AOk A→∀ Z P s x y v,HpR c Z P s.heap hp→Rd c Z s.heap X x→Rd c Z s.heap Y y→Rd c Z s.heap W v →
  ∀ Q E,(∀ h' tk,(∀ b ob,b≠a→s.heap.get? b=some ob→h'.get? b=some ob)→RdO c Z h' a o'→Q () { s with heap:=h',toks:=tk })→wpAny c.M A (setItem x y v) Q E s
theorem set_odct {d:Addr} {es:List (Str×V)} {k:Str} {W:V} (hd:(d,O.dct es)∈hp) (hl:es.length≤sizeLine):SetV c A hp (.ref d) (.str k) W d (.dct (dset es k W)):=by
 intro hA Z P s x y v H rX rY rW Q E hQ
 cases rX; cases rY with | str _ t =>
 refine E14 (RdO.dctAt (H.obj d _ hd).1) fun kvs h1 h2 h3 h4=>?_
 have hkl:kvs.length=es.length:=by simpa using congrArg List.length h3
 refine wpAny_setItem_pairs (knd:=c.K) (strKind_is _ _ k t) h2 (fun h' hd' hs=>?_) (by omega)
 have kZ:∀ b o,Z b→s.heap.get? b=some o→h'.get? b=some o:=fun b o z e=>hs.extBut b o (fun e'=>(H.obj d _ hd).2.1 (e'▸z)) e
 obtain ⟨h5,h6⟩:=dset_rd (k:=k) h3 (h4.keep (fun qa z=>z) kZ) (rW.keep (fun qa z=>z) kZ)
 exact hQ h' _ (fun b ob hb e=>hs.extBut b ob hb e) (.ofDict h1 hd' h5 h6)
theorem RdL.set {Z:Addr→Prop} {h:Heap} {W:V} {v:Value} (rW:Rd c Z h W v):∀ {xs:List V} {vs:List Value},RdL c Z h xs vs→∀ n,RdL c Z h (xs.set n W) (vs.set n v)
 | _,_,.nil,n=>by simpa using RdL.nil
 | _,_,.cons a b,0=>by simpa using RdL.cons rW b
 | _,_,.cons a b,n + 1=>by simpa using RdL.cons a (b.set rW n)
theorem set_olst {a:Addr} {xs:List V} {i:Int} {W:V} (ha:(a,O.lst xs)∈hp) (h0:0≤i) (h1:i < xs.length) (hl:xs.length≤sizeLine):SetV c A hp (.ref a) (.int i) W a (.lst (xs.set i.toNat W)):=by
 intro hA Z P s x y v H rX rY rW Q E hQ
 cases rX; cases rY with | int _ t =>
 refine E12 ((H.obj a _ ha).1) fun items ht rs=>?_
 have l:=rs.length
 simp only [Array.length_toList] at l
 obtain ⟨n,ho⟩:=ht
 refine setAt_own (items:=items) (n:=n) ho h0 (Int.lt_of_lt_of_le (b:=2 ^ 40) (by rw [sizeLine_eq] at hl; omega) (by decide)) (by omega) ?_
 have hs:Heap.SameBut a s.heap (s.heap.update a (Obj.mapSeq (·.setIfInBounds i.toNat v))):=Heap.SameBut.update ..
 have kZ:∀ b o,Z b→s.heap.get? b=some o→(s.heap.update a (Obj.mapSeq (·.setIfInBounds i.toNat v))).get? b=some o:=fun b o z e=>hs.extBut b o (fun e'=>(H.obj a _ ha).2.1 (e'▸z)) e
 have e2:=Heap.get?_update_self (Obj.mapSeq (·.setIfInBounds i.toNat v)) ho (by rfl)
 refine hQ _ s.toks (fun b ob hb e=>hs.extBut b ob hb e) (I12 _ ⟨_,e2⟩ ?_)
 rw [Array.toList_setIfInBounds]
 exact (rs.keep (fun qa z=>z) kZ).set (rW.keep (fun qa z=>z) kZ) _
theorem wA_Sub {o i:Expr} {pos:Pos} {W:V} {k:St→Prop} (h:WE c A env σ o fun X σ₁=>WE c A env σ₁ i fun Y σ₂=>∃ a oo o',(a,oo)∈σ₂.hp∧SetV c A σ₂.hp X Y W a o'∧k ⟨σ₂.loc,hset σ₂.hp a o'⟩):WA c A env σ (.Subscript o i pos) W k:=by
 intro hA Z P s v R r
 rw [arm_assign_Subscript]
 refine wpAny_bind (wpAny_holding (wp_then h hA R fun Z₁ s₁ X σ₁ v₁ S₁ R₁ r₁ k₁=>?_))
 refine wpAny_bind (wpAny_holding (wp_then k₁ hA R₁ fun Z₂ s₂ Y σ₂ v₂ S₂ R₂ r₂ kk=>?_))
 refine E33 kk fun a oo o' ha hS hk=>?_; clear kk
 refine wpAny_bind (wpAny_standAt (wpAny_bind (wpAny_holding (hS hA Z₂ P s₂ v₁ v₂ v R₂.hp (r₁.step S₂) r₂ (r.step (S₁.trans S₂)) _ _ fun h' tk hs ho=>?_))))
 exact wpAny_release (fin_mk (b:=()) ((S₁.trans S₂).trans (R₂.step_upd ha hs)) (R₂.hp_upd ha hs ho) trivial hk)
theorem wS_AugSub {o i value:Expr} {spos pos:Pos} {op:Operator} {k:FV→St→Prop}
  (h:WE c A env σ o fun X σ₁=>WE c A env σ₁ i fun Y σ₂=>∃ w,ItemV c A σ₂.hp X Y w∧WE c A env σ₂ value fun U σ₃=>∃ w',(AOk A→∀ Z P s x y,HpR c Z P s.heap σ₃.hp→Rd c Z s.heap w x→Rd c Z s.heap U y→Res c A Z s (inplaceOp op x y) w') ∧
   ∃ a oo o',(a,oo)∈σ₃.hp∧SetV c A σ₃.hp X Y w' a o'∧k .next ⟨σ₃.loc,hset σ₃.hp a o'⟩)
  (hi:∀ ov iv new,augStore i ov iv new=(do holding [new,ov,iv] (setItem ov iv new); release [new,ov,iv] []; pure .next):=by intros; rfl):WS c A env σ (.AugAssign (.Subscript o i spos) op value pos) k:=by
 refine WP.mk fun hA Z P s R=>?_
 show wpAny _ _ (exec _ _) _ _ _
 rw [arm_exec_AugAssign_3]
 refine wpAny_bind (wpAny_standAt (wpAny_bind (wp_then h hA R fun Z₁ s₁ X σ₁ v₁ S₁ R₁ r₁ k₁=>?_)))
 refine wpAny_bind (wpAny_holding (wp_then k₁ hA R₁ fun Z₂ s₂ Y σ₂ v₂ S₂ R₂ r₂ kk=>?_))
 refine E12 kk fun w hI k₂=>?_; clear kk
 have hI:=(hI hA Z₂ P s₂ v₁ v₂ R₂.hp (r₁.step S₂) r₂).2
 refine wpAny_bind (wpAny_holding (wpAny_bind (wpAny_standAt (wpAny_bind (hI _ _ fun v₃ h₃ tk₃ dr₃ N hkp hN rd=>?_)))))
 have R₃:=R₂.new hkp hN
 have S₃:Step Z₂ P (cr s₂) (fun b=>Z₂ b∨N b) (cr { s₂ with heap:=h₃ }):=Step.new hkp N
 refine wpAny_bind (wpAny_holding (wpAny_mono (k₂.run hA _ P { s₂ with heap:=h₃,toks:=tk₃,drawn:=dr₃ } R₃) ?_ fun qa qb x=>x))
 refine fun v₄ s₄=>R34 fun Z₄ U σ₄ S₄ R₄ r₄ y0=>E12 y0 fun w' hop y1=>E33 y1 fun a oo o' ha hS hk=>?_
 refine wpAny_bind (wpAny_standAt (wpAny_operateT (hop hA Z₄ P s₄ v₃ v₄ R₄.hp (rd.step S₄) r₄ _ _ fun v₅ h₅ tk₅ dr₅ N' hkp' hN' rd'=>?_)))
 have R₅:=R₄.new hkp' hN'
 have S₅:Step Z₄ P (cr s₄) (fun b=>Z₄ b∨N' b) (cr { s₄ with heap:=h₅ }):=Step.new hkp' N'
 have S35:=(S₃.trans S₄).trans S₅
 refine wpAny_bind (wpAny_standAt ?_)
 rw [hi]
 refine wpAny_bind (wpAny_holding (hS hA _ P { s₄ with heap:=h₅,toks:=tk₅,drawn:=dr₅ } v₁ v₂ v₅ R₅.hp (r₁.step (S₂.trans S35)) (r₂.step S35) rd' _ _ fun h' tk hs ho=>?_))
 exact wpAny_bind (wpAny_release (wpAny_pure (fin_mk (((S₁.trans S₂).trans S35).trans (R₅.step_upd ha hs)) (R₅.hp_upd ha hs ho) .next hk)))
theorem inp_add {i j:Int}:AOk A→∀ Z (P:Addr→Prop) s x y,HpR c Z P s.heap hp→Rd c Z s.heap (.int i) x→Rd c Z s.heap (.int j) y→Res c A Z s (inplaceOp .Add x y) (.int (i + j)):=by
 intro hA Z P s x y _ rX rY
 first | refine Rd.int_elim rX fun qa=>?_ | refine Rd.ref_elim rX ?_ | refine Rd.str_elim rX fun qa=>?_ | refine Rd.bool_elim rX ?_ | refine Rd.typ_elim rX ?_ | cases rX
 first | refine Rd.int_elim rY fun qa=>?_ | refine Rd.ref_elim rY ?_ | refine Rd.str_elim rY fun qa=>?_ | refine Rd.bool_elim rY ?_ | refine Rd.typ_elim rY ?_ | cases rY
 exact Res.pure fun Q E h=>wpAny_iadd_int (h _ _ (.int _ _))
theorem inp_sub {i j:Int}:AOk A→∀ Z (P:Addr→Prop) s x y,HpR c Z P s.heap hp→Rd c Z s.heap (.int i) x→Rd c Z s.heap (.int j) y→Res c A Z s (inplaceOp .Sub x y) (.int (i - j)):=by
 intro hA Z P s x y _ rX rY
 first | refine Rd.int_elim rX fun qa=>?_ | refine Rd.ref_elim rX ?_ | refine Rd.str_elim rX fun qa=>?_ | refine Rd.bool_elim rX ?_ | refine Rd.typ_elim rX ?_ | cases rX
 first | refine Rd.int_elim rY fun qa=>?_ | refine Rd.ref_elim rY ?_ | refine Rd.str_elim rY fun qa=>?_ | refine Rd.bool_elim rY ?_ | refine Rd.typ_elim rY ?_ | cases rY
 exact Res.pure fun Q E h=>PySem.P.isub_int (h _ _ (.int _ _))
noncomputable def DelV (c:Cx) (A:Around) (hp:List (Addr×O)) (X Y:V) (a:Addr) (o':O):Prop :=
 AOk A→∀ Z P s x y,HpR c Z P s.heap hp→Rd c Z s.heap X x→Rd c Z s.heap Y y →
  ∀ Q E,(∀ h' tk,(∀ b ob,b≠a→s.heap.get? b=some ob→h'.get? b=some ob)→RdO c Z h' a o'→Q () { s with heap:=h',toks:=tk })→wpAny c.M A (delItem x y) Q E s
noncomputable def ddel (es:List (Str×V)) (k:Str):List (Str×V):=es.filter fun e=>decide (e.1≠k)
theorem ddel_rd {Z:Addr→Prop} {h:Heap} {k:Str}:∀ {es:List (Str×V)} {kvs:List (Str×Value)},kvs.map (·.1)=es.map (·.1)→RdL c Z h (es.map (·.2)) (kvs.map (·.2)) →
  (without kvs k).map (·.1)=(ddel es k).map (·.1)∧RdL c Z h ((ddel es k).map (·.2)) ((without kvs k).map (·.2))
 | [],[],_,_=>⟨rfl,.nil⟩
 | [],_::_,e,_=>by simp at e
 | _::_,[],e,_=>by simp at e
 | p::es,q::kvs,e,r=>by
  simp only [List.map_cons,List.cons.injEq] at e
  simp only [List.map_cons] at r
  cases r with | cons r1 r2 =>
  obtain ⟨i1,i2⟩:=ddel_rd (k:=k) e.2 r2
  unfold without ddel at *
  simp only [List.filter_cons,e.1]
  by_cases hk:p.1=k
  ·simp only [hk,ne_eq,not_true_eq_false,decide_false,Bool.false_eq_true,if_false]; exact ⟨i1,i2⟩
  ·simp only [hk,ne_eq,not_false_eq_true,decide_true,if_true,List.map_cons]; exact ⟨by rw [i1,e.1],.cons r1 i2⟩
theorem del_odct {d:Addr} {es:List (Str×V)} {k:Str} (hd:(d,O.dct es)∈hp) (hk:(dget es k).isSome=true) (hl:es.length≤sizeLine):DelV c A hp (.ref d) (.str k) d (.dct (ddel es k)):=by
 intro hA Z P s x y H rX rY Q E hQ
 cases rX; cases rY with | str _ t =>
 refine E14 (RdO.dctAt (H.obj d _ hd).1) fun kvs h1 h2 h3 h4=>?_
 have hkl:kvs.length=es.length:=by simpa using congrArg List.length h3
 unfold delItem
 try with_reducible refine wpAny_holding ?_
 refine wpAny_bind (wpAny_sequenceKey h2.typeIs (by decide) ?_)
 refine wpAny_bind (wpAny_callSpecial?_slot (name:=Str.ofString "__delitem__") h2.typeIs PySem.F.slot_dict_delitem
  (call_meetsIn PySem.F.slot_dict_delitem h2.typeIs PySem.F.entry_dict_delitem (PySem.F.args_dict_delitem_2 _ _) (meets_dict_delitem_pairs c.K d (strKind_is _ _ k t)) (I14 kvs h2 (by omega) (by rw [isSome_dget h3 h4]; exact hk) (fun h' hmm hs=>?_))))
 have kZ:∀ b o,Z b→s.heap.get? b=some o→h'.get? b=some o:=fun b o z e=>hs.extBut b o (fun e'=>(H.obj d _ hd).2.1 (e'▸z)) e
 obtain ⟨h5,h6⟩:=ddel_rd (k:=k) h3 (h4.keep (fun qa z=>z) kZ)
 exact wpAny_pure (hQ h' _ (fun b ob hb e=>hs.extBut b ob hb e) (.ofDict h1 hmm h5 h6))
theorem wS_Del {o i:Expr} {tpos pos:Pos} {k:FV→St→Prop} (h:WE c A env σ o fun X σ₁=>WE c A env σ₁ i fun Y σ₂=>∃ a oo o',(a,oo)∈σ₂.hp∧DelV c A σ₂.hp X Y a o'∧k .next ⟨σ₂.loc,hset σ₂.hp a o'⟩)
  (he:deleteEach [.Subscript o i tpos] env=(do delete (.Subscript o i tpos) env; pure ()):=by rfl):WS c A env σ (.Delete [.Subscript o i tpos] pos) k:=by
 refine WP.mk fun hA Z P s R=>?_
 refine wpAny_Delete ?_
 rw [he]
 refine wpAny_bind (m:=delete _ _) ?_
 rw [arm_delete_Subscript]
 refine wpAny_bind (wp_then h hA R fun Z₁ s₁ X σ₁ v₁ S₁ R₁ r₁ k₁=>?_)
 refine wpAny_bind (wpAny_holding (wp_then k₁ hA R₁ fun Z₂ s₂ Y σ₂ v₂ S₂ R₂ r₂ kk=>?_))
 refine E33 kk fun a oo o' ha hD hk=>?_; clear kk
 refine wpAny_bind (wpAny_standAt (wpAny_bind (wpAny_holding (hD hA Z₂ P s₂ v₁ v₂ R₂.hp (r₁.step S₂) r₂ _ _ fun h' tk hs ho=>?_))))
 exact wpAny_release (wpAny_pure (fin_mk ((S₁.trans S₂).trans (R₂.step_upd ha hs)) (R₂.hp_upd ha hs ho) .next hk))
theorem wE_Dict0 {pos:Pos} {k:V→St→Prop} (h:∀ a,a∉σ.hp.map (·.1)→k (.ref a) ⟨σ.loc,(a,.dct [])::σ.hp⟩):WE c A env σ (.Dict [] [] pos) k:=by
 refine WP.mk fun hA Z P s R=>?_
 refine wpAny_Dict_empty ?_
 have hk:=Kp.push s.heap { cls:=.type "dict", data:=.dict #[] }
 have hn:s.heap.get? s.heap.objs.size=none:=fresh_none _ _ (Nat.le_refl _)
 refine (fin_mk (Step.kp hk) (R.adopt hk hn (o:=.dct []) (.ofDict (kvs:=[]) ?_ (Heap.DictOf.new s.heap) rfl .nil)) (.ref _) (h _ (R.notin hn)))
 obtain ⟨o,e⟩:=R.inv.exZ _ R.inv.sys
 exact beq_false_of_ne (Nat.ne_of_gt (Heap.lt_size e))
theorem wE_ListO {es:List Expr} {pos:Pos} {k:V→St→Prop} (h:WEs c A env σ pos es fun Xs σ₁=>Xs.length≤sizeLine∧∀ a,a∉σ₁.hp.map (·.1)→k (.ref a) ⟨σ₁.loc,(a,.lst Xs)::σ₁.hp⟩):WE c A env σ (.List es pos) k:=by
 refine WP.mk fun hA Z P s R=>?_
 refine wpAny_List_spliced (wp_then h hA R fun Z₁ s₁ Xs σ₁ vs S₁ R₁ r₁ kk=>?_)
 obtain ⟨hsz,k₁⟩:=kk
 refine ⟨by rw [← r₁.length]; exact hsz,?_⟩
 have hk:=Kp.push s₁.heap { cls:=.type "list", data:=.seq vs.toArray }
 have hn:s₁.heap.get? s₁.heap.objs.size=none:=fresh_none _ _ (Nat.le_refl _)
 exact (fin_mk (S₁.trans (Step.kp hk)) (R₁.adopt hk hn (o:=.lst Xs) (I12 vs.toArray ⟨0,Heap.get?_push_size _ rfl⟩ (by simpa using r₁.kp hk))) (.ref _) (k₁ _ (R₁.notin hn)))
theorem zip_items (es:List (Str×V)) (kvs:List (Str×Value)) (e:kvs.map (·.1)=es.map (·.1)):(kvs.map (·.1)).zipWith (fun k X=>V.tup [.str k,X]) (es.map (·.2))=RdPairs es:=by
 rw [e]
 unfold RdPairs
 induction es with
 | nil=>rfl
 | cons p es ih=>simp
theorem seq_view {elts:List Expr} {n:Nat} {pos:Pos} {es:List (Str×V)}:SeqV c A (.Tuple elts n pos) hp (.view (.dct es)) (fun qa=>False) (fun ys=>ys=RdPairs es):=by
 intro hA Z P s v hZ H r
 cases r with | view z hv r'=>cases r' with | dct z' hs hd e ri =>
 have:=(SeqO.items (elts:=elts) (n:=n) (pos:=pos) (H:=fun qa=>False) hA hv hd ri (.inl z') hZ).seq
 rw [zip_items es _ e] at this
 exact this
theorem seq_oview {elts:List Expr} {n:Nat} {pos:Pos} {d:Addr} {es:List (Str×V)} (hm:(d,O.dct es)∈hp):SeqV c A (.Tuple elts n pos) hp (.view (.ref d)) (fun b=>b=d) (fun ys=>ys=RdPairs es):=by
 intro hA Z P s v hZ H r
 cases r with | view z hv r'=>cases r' with | ref _ =>
 refine E24 ((H.obj d _ hm).1) fun kvs ep hs hd e ri=>?_
 have:=(SeqO.items (elts:=elts) (n:=n) (pos:=pos) (H:=fun b=>b=d) hA hv hd ri (.inr rfl) hZ).seq
 rw [zip_items es _ e] at this
 exact this
end
end Mine
end
noncomputable section
namespace Mine
open PySem PySem.SeqAt
structure ClsOk (c:Cx) (C N:Addr) (mN:Str→Option Value):Prop where
 at_:PyProof.Rows.ClsAt c.G C N mN
 ga:mN "__getattribute__" = none
 gh:mN "__getattr__" = none
 sa:mN "__setattr__" = none
theorem cls_elim {h:Heap} {C N:Addr} {mN:Str→Option Value} {P:Prop} (G:PyProof.Rows.ClsAt h C N mN) (k:∀ nm q bs sn sub col dd k0 k1 k2 k3 k5,h.get? C=some (excClassObj nm q C N bs [.type "object"] true sn sub false col dd k0 k1 k2 k3 k5 "object.__new__")→P):P :=
 E51 G.obj fun nm q bs sn sub h=>E51 h fun col dd k0 k1 k2 h=>E21 h fun k3 k5 e=>k nm q bs sn sub col dd k0 k1 k2 k3 k5 e
structure MethAt (c:Cx) (f:Addr) (fd:FuncData):Prop where
 obj:∃ o,c.G.get? f=some o∧o.cls=.type "function" ∧ o.data=.func fd
 code:c.G.CodeRec fd.code fd.qualname
theorem MethAt.fn {c:Cx} {f:Addr} {fd:FuncData} (m:MethAt c f fd):FnAt c f fd:=⟨let ⟨o,h1,_,h2⟩:=m.obj; (I12 o h1 h2),m.code⟩
section
variable {c:Cx} {A:Around} {env:Env} {σ:St} {Z P:Addr→Prop}
theorem inst_of {h:Heap} {x d C:Addr} {es:List (Str×V)} (hx:RdO c Z h x (.inst C d)) (hd:RdO c Z h d (.ns es)) :
  ∃ mA,h.Inst x C mA∧(∀ y,es.lookup y=none→mA y=none)∧∀ y Y,es.lookup y=some Y→∃ v,mA y=some v∧Rd c Z h Y v:=by
 refine E02 hx fun hne y0=>E14 y0 fun o ho hc hnc hdd=>?_; clear hx
 refine E13 hd fun mA hn h1 h2=>?_; clear hd
 exact (I13 mA (I14 o ho hc hnc (.inr (I13 d hdd hne hn))) h1 h2)
theorem Rd.handed {h:Heap} {X:V} {v:Value} (r:Rd c Z h X v):handedOut v=pure v:=by
 cases r <;> rfl
theorem wE_Attr {C N:Addr} {mN:Str→Option Value} {o:Expr} {name:Str} {pos:Pos} {k:V→St→Prop} (K:ClsOk c C N mN) (hna:mN name=none) (hB:typeLookup (.type "object") name=pure none)
  (h:WE c A env σ o fun X σ₁=>∃ x d es Y,X=.ref x∧(x,O.inst C d)∈σ₁.hp∧(d,O.ns es)∈σ₁.hp∧es.lookup name=some Y∧k Y σ₁)
  (hbase:attributeBase o name env (eval o env)=eval o env:=by rfl):WE c A env σ (.Attribute o name pos) k:=by
 refine WP.mk fun hA Z P s R=>?_
 rw [arm_eval_Attribute,hbase]
 refine wpAny_bind (wp_then h hA R fun Z₁ s₁ X σ₁ v₁ S₁ R₁ r₁ kk=>?_)
 refine E45 kk fun x d es Y z4 hx hd hY k₁=>?_; clear kk; subst z4
 first | refine Rd.int_elim r₁ fun qa=>?_ | refine Rd.ref_elim r₁ ?_ | refine Rd.str_elim r₁ fun qa=>?_ | refine Rd.bool_elim r₁ ?_ | refine Rd.typ_elim r₁ ?_ | cases r₁
 refine E13 (inst_of (R₁.hp.obj x _ hx).1 (R₁.hp.obj d _ hd).1) fun mA I qa hm=>?_
 refine E12 (hm name Y hY) fun v hv rv=>?_
 have G:=K.at_.keeps fun b o e=>(R₁.inv.ground b o e).2
 refine cls_elim G fun nm q bs sn sub col dd k0 k1 k2 k3 k5 hC=>?_
 refine wpAny_bind (wpAny_standAt (wpAny_bind (wpAny_holding (load_attr hC G.ns K.ga hna hB I hv rv.handed ?_))))
 exact wpAny_bind (wpAny_letTemporaryGo (wpAny_pure (fin_mk S₁ R₁ rv k₁)))
theorem Rel.hp_updN {h h':Heap} {N:Addr→Prop} {hp':List (Addr×O)} (R:Rel c Z P env σ h) (hN:∀ b,N b→∃ o,(b,o)∈σ.hp) (hs:∀ b ob,¬ N b→h.get? b=some ob→h'.get? b=some ob)
  (hfst:hp'.map (·.1)=σ.hp.map (·.1)) (hobj:∀ b ob,(b,ob)∈hp'→N b→RdO c Z h' b ob) (hsame:∀ b ob,(b,ob)∈hp'→¬ N b→(b,ob)∈σ.hp):Rel c Z P env ⟨σ.loc,hp'⟩ h':=by
 have hnd:=R.hp.nodup
 have hZ:∀ b,N b→¬ Z b:=fun b n=>let ⟨o,ho⟩:=hN b n; (R.hp.obj b o ho).2.1
 have hP:∀ b,N b→¬ P b:=fun b n=>let ⟨o,ho⟩:=hN b n; (R.hp.obj b o ho).2.2
 have hO:∀ b,N b→¬ OwnA env b:=fun b n=>let ⟨o,ho⟩:=hN b n; R.hpOff b o ho
 have R':Rel c Z P env ⟨σ.loc,[]⟩ h:=R.le (I03 (fun x X e=>e) (fun b ob hb=>(by cases hb)) (fun qa=>by simp))
 have R2:Rel c Z P env ⟨σ.loc,[]⟩ h':=R'.but (N:=N) hs (fun b n=>R.inv.nT (hP b n)) hZ hO (fun b qa o ho=>by cases ho) (fun b p n=>absurd p (hP b n)) (fun x cl h1 h2 n=>hP cl n (R.freeP x cl h1 h2))
 refine { R2 with
  vars:=R2.vars
  hp:=⟨fun b ob hb=>?_,by rw [hfst]; exact hnd⟩
  hpOff:=fun b ob hb=>?_ }
 ·by_cases n:N b
  ·exact (I03 (hobj b ob hb n) (hZ b n) (hP b n))
  ·have:=R.hp.obj b ob (hsame b ob hb n)
   exact ⟨this.1.keep (fun qa z=>z) (fun b' o' z e=>hs b' o' (fun n'=>hZ b' n' z) e) (fun o' e=>hs b o' n e),this.2⟩
 ·by_cases n:N b
  ·exact hO b n
  ·exact R.hpOff b ob (hsame b ob hb n)
theorem HpR.fn {h:Heap} {hp:List (Addr×O)} (H:HpR c Z P h hp) {b:Addr} {o o':O} (h1:(b,o)∈hp) (h2:(b,o')∈hp):o=o':=by
 have hnd:=H.nodup
 clear H
 induction hp with
 | nil=>cases h1
 | cons e hp ih =>
  simp only [List.map_cons,List.nodup_cons] at hnd
  rcases List.mem_cons.mp h1 with e1 | h1
  ·rcases List.mem_cons.mp h2 with e2 | h2
   ·rw [← e1] at e2; exact (Prod.mk.inj e2).2.symm
   ·exact absurd (by rw [← e1]; exact List.mem_map_of_mem (f:=(·.1)) h2) hnd.1
  ·rcases List.mem_cons.mp h2 with e2 | h2
   ·exact absurd (by rw [← e2]; exact List.mem_map_of_mem (f:=(·.1)) h1) hnd.1
   ·exact ih h1 h2 hnd.2
theorem mem_hset {hp:List (Addr×O)} {a b:Addr} {o ob:O} (h:(b,ob)∈hset hp a o):(b=a∧ob=o)∨(b≠a∧(b,ob)∈hp):=by
 refine E12 (List.mem_map.mp h) fun e he e'=>?_
 by_cases h1:e.1=a
 ·simp only [h1,if_true,Prod.mk.injEq] at e'
  exact .inl ⟨e'.1.symm,e'.2.symm⟩
 ·simp only [h1,if_false] at e'
  subst e'
  exact .inr ⟨h1,he⟩
theorem wA_Attr {C N:Addr} {mN:Str→Option Value} {o:Expr} {name:Str} {pos:Pos} {W:V} {k:St→Prop} (K:ClsOk c C N mN) (hna:mN name=none) (hB:typeLookup (.type "object") name=pure none)
  (h:WE c A env σ o fun X σ₁=>∃ x d es,X=.ref x∧(x,O.inst C d)∈σ₁.hp∧(d,O.ns es)∈σ₁.hp∧es.length≤sizeLine∧k ⟨σ₁.loc,hset σ₁.hp d (.ns (setL es name W))⟩):WA c A env σ (.Attribute o name pos) W k:=by
 intro hA Z P s v R r
 rw [arm_assign_Attribute]
 refine wpAny_bind (wpAny_holding (wp_then h hA R fun Z₁ s₁ X σ₁ v₁ S₁ R₁ r₁ kk=>?_))
 refine E35 kk fun x d es z3 hx hd hlen k₁=>?_; clear kk; subst z3
 first | refine Rd.int_elim r₁ fun qa=>?_ | refine Rd.ref_elim r₁ ?_ | refine Rd.str_elim r₁ fun qa=>?_ | refine Rd.bool_elim r₁ ?_ | refine Rd.typ_elim r₁ ?_ | cases r₁
 refine E13 (inst_of (R₁.hp.obj x _ hx).1 (R₁.hp.obj d _ hd).1) fun mA I hm0 hm=>?_
 refine E02 (id (R₁.hp.obj x _ hx).1) fun hne y0=>E14 y0 fun ox hox hcx hnc hdx=>?_
 have G:=K.at_.keeps fun b o e=>(R₁.inv.ground b o e).2
 refine cls_elim G fun nm q bs sn sub col dd k0 k1 k2 k3 k5 hC=>?_
 refine cls_elim K.at_ fun qa qb qc qd qe qf qg qh qi qj qk ql hC0=>?_
 have hxC:x≠C:=fun e=>(R₁.hp.obj x _ hx).2.1 (e▸(R₁.inv.ground C _ hC0).1)
 have rW:Rd c Z₁ s₁.heap W v:=r.step S₁
 refine wpAny_bind (wpAny_standAt (wpAny_bind (wpAny_holding (store_attr (ns:=es.map (·.1)) PySem.F.store_object hC G.ns K.sa hna hB hxC I ?_ ?_ (by simpa using hlen)))))
 ·intro h' tk' I' hk hx'
  have hs:∀ b ob,¬ (b=x∨b=d)→s₁.heap.get? b=some ob→h'.get? b=some ob:=fun b ob hb e=>hk b ob (fun e=>hb (.inl e)) (fun o₀ dx h0 h1 e'=>by
   rw [hox] at h0; cases h0
   rw [hdx] at h1; cases h1
   exact hb (.inr e')) e
  refine E15 (hx' ox hox) fun o₁ ho₁ hc₁ hd₁ hsl hdd=>?_
  have kZ:∀ b o,Z₁ b→s₁.heap.get? b=some o→h'.get? b=some o:=fun b o z e=>hs b o (fun hb=>by
   rcases hb with rfl | rfl
   ·exact (R₁.hp.obj _ _ hx).2.1 z
   ·exact (R₁.hp.obj _ _ hd).2.1 z) e
  have ox':RdO c Z₁ h' x (.inst C d):=(I02 hne (I14 o₁ ho₁ (hc₁.trans hcx) (fun k'=>by rw [hd₁]; exact hnc k') (hdd d hdx)))
  have od':RdO c Z₁ h' d (.ns (setL es name W)):=by
   refine E14 I' fun o₂ ho₂ qa qb hI=>?_; clear I'
   rw [ho₁] at ho₂; cases ho₂
   rcases hI with ⟨hn,_⟩ | ⟨d',hd',_,hns⟩
   ·rw [hdd d hdx] at hn; cases hn
   ·rw [hdd d hdx] at hd'; cases hd'
    refine (I13 _ hns (fun y hy=>?_) (fun y Y hy=>?_))
    ·rw [lookup_setL] at hy
     by_cases e:y=name
     ·simp [e] at hy
     ·simp only [if_neg e] at hy ⊢; exact hm0 y hy
    ·rw [lookup_setL] at hy
     by_cases e:y=name
     ·simp only [if_pos e,Option.some.injEq] at hy ⊢; subst hy; exact (I12 v rfl (rW.keep (fun qa z=>z) kZ))
     ·simp only [if_neg e] at hy ⊢
      refine E12 (hm y Y hy) fun u hu ru=>?_
      exact (I12 u hu (ru.keep (fun qa z=>z) kZ))
  have R₂:Rel c Z₁ P env ⟨σ₁.loc,hset σ₁.hp d (.ns (setL es name W))⟩ h':=by
   refine R₁.hp_updN (N:=fun b=>b=x∨b=d) ?_ hs (hset_fst ..) ?_ ?_
   ·rintro b (rfl | rfl)
    ·exact ⟨_,hx⟩
    ·exact ⟨_,hd⟩
   ·intro b ob hb n
    rcases mem_hset hb with ⟨rfl,rfl⟩ | ⟨hbd,hb'⟩
    ·exact od'
    ·rcases n with rfl | rfl
     ·have:ob=O.inst C d:=by
       have h1:=R₁.hp.nodup
       exact R₁.hp.fn hb' hx
      subst this; exact ox'
     ·exact absurd rfl hbd
   ·intro b ob hb n
    rcases mem_hset hb with ⟨rfl,rfl⟩ | ⟨hbd,hb'⟩
    ·exact absurd (.inr rfl) n
    ·exact hb'
  refine wpAny_release (fin_mk (b:=()) (S₁.trans ⟨fun qa z=>z,kZ,fun b o p qa e=>hs b o (fun hb=>?_) e,fun q hq qa=>(R₂.inv.tab q hq).2,rfl,GB.refl _⟩) R₂ trivial k₁)
  rcases hb with rfl | rfl
  ·exact (R₁.hp.obj _ _ hx).2.2 p
  ·exact (R₁.hp.obj _ _ hd).2.2 p
 ·intro y hu
  cases e:es.lookup y with
  | none=>exact absurd (hm0 y e) hu
  | some Y=>exact List.mem_map_of_mem (f:=(·.1)) (PySem.mem_of_lookup e)
theorem Rel.adoptL {h h':Heap} {news:List (Addr×O)} (R:Rel c Z P env σ h) (hk:Kp h h') (hn:∀ a o,(a,o)∈news→h.get? a=none∧RdO c Z h' a o) (hnd:(news.map (·.1)).Nodup):Rel c Z P env ⟨σ.loc,news++σ.hp⟩ h':=by
 have R':=R.kp hk
 exact { R' with
  vars:=R'.vars
  hp:=⟨fun b ob hb=>by
   rcases List.mem_append.mp hb with hb | hb
   ·have h0:=hn b ob hb
    refine (I03 (h0.2) (fun z=>?_) (fun p=>?_))
    ·obtain ⟨o,e⟩:=R.inv.exZ b z; rw [h0.1] at e; cases e
    ·obtain ⟨o,e⟩:=R.inv.exP b p; rw [h0.1] at e; cases e
   ·exact R'.hp.obj b ob hb,by
   rw [List.map_append,List.nodup_append]
   refine (I03 hnd R'.hp.nodup ?_)
   rintro a ha b hb rfl
   refine E12 (List.mem_map.mp ha) fun z0 h1 z2=>?_; obtain ⟨a',o⟩:=z0; subst z2
   refine E12 (List.mem_map.mp hb) fun z0 h2 e=>?_; obtain ⟨b',o'⟩:=z0
   simp only at e; subst e
   obtain ⟨x,hx⟩:=(R.hp.obj _ o' h2).1.some
   rw [(hn _ o h1).1] at hx; cases hx⟩
  hpOff:=fun b ob hb=>by
   rcases List.mem_append.mp hb with hb | hb
   ·intro hown
    obtain ⟨x,hx⟩:=R.exOwn hown
    rw [(hn b ob hb).1] at hx; cases hx
   ·exact R'.hpOff b ob hb }
noncomputable def CRest (c:Cx) (A:Around) (f:Addr) (Xs:List V) (k:V→St→Prop) (σ:St):Prop :=
 ∃ n H rest post,Rm n A∧σ.hp.Perm (H++rest)∧CallSpec c n f H Xs post∧∀ Y H',post Y H'→k Y ⟨σ.loc,H'++rest⟩
theorem method_get {C N:Addr} {mN:Str→Option Value} {name:Str} {pl:Sem Bool} {f:Addr} {fd:FuncData} {y:Option Value} {s:Shared} {x d:Addr} {es:List (Str×V)} {Q:Value×List Value→Shared→Prop} {E:Value→Shared→Prop} (K:ClsOk c C N mN) (hf:mN name=some (.ref f)) (M:MethAt c f fd)
  (hB:typeLookup (.type "object") name=pure y) (R:Rel c Z P env σ s.heap) (hx:(x,O.inst C d)∈σ.hp) (hd:(d,O.ns es)∈σ.hp) (hno:es.lookup name=none) (hq:Q (.ref f,[.ref x]) s):wpAny c.M A (getMethod (.ref x) name pl) Q E s:=by
 refine E13 (inst_of (R.hp.obj x _ hx).1 (R.hp.obj d _ hd).1) fun mA I hm0 hm=>?_
 have G:=K.at_.keeps fun b o e=>(R.inv.ground b o e).2
 refine cls_elim G fun nm q bs sn sub col dd k0 k1 k2 k3 k5 hC=>?_
 refine E13 M.obj fun of hof hfc hfd=>?_
 obtain ⟨h,g,dr,t,os⟩:=s
 exact method_of hC G.ns K.ga K.gh hf (R.inv.ground f of hof).2 hfc hB I (hm0 name hno) hq
theorem wE_MethI0 {C N:Addr} {mN:Str→Option Value} {o:Expr} {name:Str} {apos pos:Pos} {f:Addr} {fd:FuncData} {y:Option Value} {k:V→St→Prop} (K:ClsOk c C N mN) (hf:mN name=some (.ref f)) (M:MethAt c f fd) (hB:typeLookup (.type "object") name=pure y)
  (h:WE c A env σ o fun X σ₁=>∃ x d es,X=.ref x∧(x,O.inst C d)∈σ₁.hp∧(d,O.ns es)∈σ₁.hp∧es.lookup name=none∧CRest c A f [X] k σ₁)
  (hbase:attributeBase o name env (eval o env)=eval o env:=by rfl) (hline:(apos.endLine == pos.line)=true:=by rfl):WE c A env σ (.Call (.Attribute o name apos) [] [] pos) k:=by
 refine WP.mk fun hA Z P s R=>?_
 rw [arm_eval_Call,hbase]
 refine wpAny_bind (wp_then h hA R fun Z₁ s₁ X σ₁ v₁ S₁ R₁ r₁ kk=>?_)
 refine E35 kk fun x d es z3 hx hd hno y0=>E44 y0 fun n H rest post hR hsp hC k₁=>?_; clear kk; subst z3
 first | refine Rd.int_elim r₁ fun qa=>?_ | refine Rd.ref_elim r₁ ?_ | refine Rd.str_elim r₁ fun qa=>?_ | refine Rd.bool_elim r₁ ?_ | refine Rd.typ_elim r₁ ?_ | cases r₁
 refine E13 M.obj fun of hof hfc hfd=>?_
 refine wpAny_bind (wpAny_standAt ?_)
 have hform:methodCallForm (([]:List Expr).length + ([]:List Keyword).length) (backTo pos (starEach [] env)) (backToKw pos (keywordEach [] env))=true:=rfl
 have hpos:methodCallPos true o env apos pos=pure pos:=by unfold methodCallPos; simp [hline]
 unfold methodCall
 rw [hform]
 refine wpAny_bind (wpAny_holding (method_get (s:=s₁) K hf M hB R₁ hx hd hno ?_))
 refine wpAny_bind (wpAny_of_eq hpos ?_)
 refine Calls.callWith_function (o:=of) (fd:=fd) (evalArgs_none ⟨⟨(R₁.inv.ground f of hof).2,hfd⟩,?_⟩)
 exact call_from S₁ R₁ hR hsp hC (.cons (.ref x) .nil) k₁
theorem wE_MethI {C N:Addr} {mN:Str→Option Value} {o:Expr} {name:Str} {apos pos:Pos} {f:Addr} {fd:FuncData} {y:Option Value} {e:Expr} {args:List Expr} {k:V→St→Prop} (K:ClsOk c C N mN) (hf:mN name=some (.ref f)) (M:MethAt c f fd) (hB:typeLookup (.type "object") name=pure y)
  (h:WE c A env σ o fun X σ₁=>∃ x d es,X=.ref x∧(x,O.inst C d)∈σ₁.hp∧(d,O.ns es)∈σ₁.hp∧es.lookup name=none∧WEs c A env σ₁ pos (e::args) fun Xs σ₂=>CRest c A f (X::Xs) k σ₂)
  (hbase:attributeBase o name env (eval o env)=eval o env:=by rfl) (hline:(apos.endLine == pos.line)=true:=by rfl)
  (hform:methodCallForm ((e::args).length + ([]:List Keyword).length) (backTo pos (starEach (e::args) env)) (backToKw pos (keywordEach [] env))=true:=by rfl)
  (he:starEach (e::args) env=(false,eval e env)::starEach args env:=by rfl):WE c A env σ (.Call (.Attribute o name apos) (e::args) [] pos) k:=by
 refine WP.mk fun hA Z P s R=>?_
 rw [arm_eval_Call,hbase]
 refine wpAny_bind (wp_then h hA R fun Z₁ s₁ X σ₁ v₁ S₁ R₁ r₁ kk=>?_)
 refine E35 kk fun x d es z3 hx hd hno ha=>?_; clear kk; subst z3
 first | refine Rd.int_elim r₁ fun qa=>?_ | refine Rd.ref_elim r₁ ?_ | refine Rd.str_elim r₁ fun qa=>?_ | refine Rd.bool_elim r₁ ?_ | refine Rd.typ_elim r₁ ?_ | cases r₁
 refine E13 M.obj fun of hof hfc hfd=>?_
 refine wpAny_bind (wpAny_standAt ?_)
 have hpos:methodCallPos true o env apos pos=pure pos:=by unfold methodCallPos; simp [hline]
 unfold methodCall
 rw [hform]
 refine wpAny_bind (wpAny_holding (method_get (s:=s₁) K hf M hB R₁ hx hd hno ?_))
 refine wpAny_bind (wpAny_of_eq hpos ?_)
 have ha':=ha.run hA Z₁ P s₁ R₁
 rw [he] at ha' ⊢
 refine Calls.callWith_function (o:=of) (fd:=fd) (Calls.evalArgs_plain (wpAny_mono ha' ?_ fun qa qb x=>x))
 refine fun vs s₂=>R34 fun Z₂ Xs σ₂ S₂ R₂ r₂ y0=>E44 y0 fun n H rest post hR hsp hC k₁=>?_
 exact ⟨⟨(R₂.inv.ground f of hof).2,hfd⟩,call_from (S₁.trans S₂) R₂ hR hsp hC (.cons (.ref x) r₂) k₁⟩
theorem Rm.make {n:Nat} {C:Addr} {vals:List Value} (h:Rm (n + 1) A):Rm n (A.under (.builtin "type.__call__" ⟨.ref C::vals,[]⟩)) :=
 ⟨h.handled,Nat.lt_of_le_of_lt (show A.units + (1 + 3 * 0) + 300 + 100 * n≤_ from Rm.ar (by decide)) h.units,Nat.lt_of_le_of_lt (show A.depth + 1 + 5 + 10 * n≤_ from Rm.ar (by decide)) h.depth⟩
theorem wE_New {C N:Addr} {mN:Str→Option Value} {f:Str} {fpos pos:Pos} {fI:Addr} {fd:FuncData} {e:Expr} {args:List Expr} {k:V→St→Prop} (K:ClsOk c C N mN) (hg:c.mg f=some (.ref C)) (hi:mN "__init__" = some (.ref fI)) (M:MethAt c fI fd) (hkd:env.kindOf f=some .globalImplicit)
  (h:WEs c A env σ pos (e::args) fun Xs σ₁=>∃ (n:Nat) (post:Addr→Addr→V→List (Addr×O)→Prop),Rm (n + 1) A∧(∀ x d,x∉σ₁.hp.map (·.1)→d∉σ₁.hp.map (·.1)→d≠x→CallSpec c n fI [(x,.inst C d),(d,.ns [])] (.ref x::Xs) (post x d)∧∀ Y H',post x d Y H'→Y=.none∧k (.ref x) ⟨σ₁.loc,H'++σ₁.hp⟩))
  (hd:(f == ("__debug__" : Str))=false:=by decide) (he:starEach (e::args) env=(false,eval e env)::starEach args env:=by rfl)
  (hplain:(backTo pos (starEach args env)).any (·.1)=false:=by rfl):WE c A env σ (.Call (.Name f fpos) (e::args) [] pos) k:=by
 refine WP.mk fun hA Z P s R=>?_
 show wpAny _ _ (do callWith pos (← eval (.Name f fpos) env) [] (backTo pos (starEach (e::args) env)) (backToKw pos (keywordEach [] env))) _ _ s
 refine wpAny_bind (load_global R hg hkd ?_ hd)
 refine PyProof.Rows.callWith_cls (h₀:=c.G) K.at_ (wp_then h hA R fun Z₁ s₁ Xs σ₁ vs S₁ R₁ r₁ kk=>?_) he hplain
 refine E22 kk fun n post hR hpost=>?_; clear kk
 refine ⟨fun b o e=>(R₁.inv.ground b o e).2,?_⟩
 have G:=K.at_.keeps fun b o e=>(R₁.inv.ground b o e).2
 refine cls_elim G fun nm q bs sn sub col dd k0 k1 k2 k3 k5 hC=>?_
 refine E13 M.obj fun of hof hfc hfd=>?_
 refine wpAny_call_obj_init PySem.F.objNew hC G.ns hi (R₁.inv.ground fI of hof).2 hfc fun h' x d Mk=>?_
 refine E14 (id Mk.inst) fun ox hox hcx hnc hdx=>?_
 have hdd:=Mk.dict ox hox
 have hns:d≠x∧h'.Ns1 d fun qa=>none:=by
  rcases hdx with ⟨hn0,_⟩ | ⟨d',hd',hne,hns'⟩
  ·rw [hn0] at hdd; cases hdd
  ·obtain rfl:=Option.some.inj (hd'.symm.trans hdd); exact ⟨hne,hns'⟩
 have hk:Kp s₁.heap h':=Mk.keeps
 have R₂:Rel c Z₁ P env ⟨σ₁.loc,[(x,O.inst C d),(d,O.ns [])]++σ₁.hp⟩ h':=by
  refine R₁.adoptL hk (fun a o ha=>?_) ?_
  ·simp only [List.mem_cons,List.not_mem_nil,or_false,Prod.mk.injEq] at ha
   rcases ha with ⟨rfl,rfl⟩ | ⟨rfl,rfl⟩
   ·exact (I03 Mk.newX (hns.1) (I14 ox hox hcx hnc hdd))
   ·exact (I02 Mk.newD (I13 _ (hns.2) (fun qa qb=>rfl) (fun qa qb e=>by simp at e)))
  ·simp only [List.map_cons,List.map_nil,List.nodup_cons,List.mem_singleton,List.not_mem_nil,not_false_eq_true,List.nodup_nil,and_true]
   exact fun e=>hns.1 e.symm
 obtain ⟨hCS,hfin⟩:=hpost x d (R₁.notin Mk.newX) (R₁.notin Mk.newD) hns.1
 refine wpAny_mono (call_from (k:=fun Y σ'=>Y=.none∧k (.ref x) σ') (A:=A.under (.builtin "type.__call__" ⟨.ref C::vs,[]⟩)) (s:=s) (s₁:={ s₁ with heap:=h' }) (S₁.trans (Step.kp hk)) R₂ hR.make (.refl _) hCS (.cons (.ref x) (r₁.kp hk)) fun Y H' hp=>hfin Y H' hp) ?_ fun qa qb x=>x.elim
 refine fun r s₃ q=>E35 q fun Z₃ Y σ₃ S₃ R₃ r₃ z10 k₃=>?_; subst z10
 first | refine Rd.int_elim r₃ fun qa=>?_ | refine Rd.ref_elim r₃ ?_ | refine Rd.str_elim r₃ fun qa=>?_ | refine Rd.bool_elim r₃ ?_ | refine Rd.typ_elim r₃ ?_ | cases r₃
 exact (I02 rfl (I34 Z₃ _ σ₃ S₃ R₃ (.ref x) k₃))
end
end Mine
end
noncomputable section
namespace Mine
open PySem PySem.SeqAt
section
variable {c:Cx} {A:Around} {env:Env} {σ:St}
theorem WP.nd {α β:Type} {t:Sem α} {Rr:(Addr→Prop)→Heap→β→α→Prop} {k:β→St→Prop} (h:(σ.hp.map (·.1)).Nodup→WP c A env σ t Rr k):WP c A env σ t Rr k :=
 ⟨fun hA Z P s R=>(h R.hp.nodup).run hA Z P s R⟩
theorem wE_Bname {f:Str} {T:String} {pos:Pos} {k:V→St→Prop} (hm:c.mg f=none) (hv:bootBuiltins f=some (.type T)) (hk:env.kindOf f=some .globalImplicit) (h:k (.typ T) σ)
  (hn:f ≠ "__name__" := by decide) (hd:(f == ("__debug__" : Str))=false:=by decide):WE c A env σ (.Name f pos) k:=by
 refine WP.mk fun hA Z P s R=>?_
 exact load_builtin R hm hv hn hk (fin_mk (Step.refl ..) R (.typ T) h) hd
theorem wE_Gname {f:Str} {v:Value} {X:V} {pos:Pos} {k:V→St→Prop} (hm:c.mg f=some v) (hr:Rd c (fun b=>∃ o,c.G.get? b=some o) c.G X v) (hk:env.kindOf f=some .globalImplicit) (h:k X σ)
  (hd:(f == ("__debug__" : Str))=false:=by decide):WE c A env σ (.Name f pos) k:=by
 refine WP.mk fun hA Z P s R=>?_
 exact load_global R hm hk (fin_mk (Step.refl ..) R (hr.keep (fun b ⟨o,e⟩=>(R.inv.ground b o e).1) (fun b o qa e=>(R.inv.ground b o e).2)) h) hd
noncomputable def WPart (c:Cx) (A:Around) (env:Env) (σ:St) (e:Option Expr) (k:Option Int→St→Prop):Prop :=
 WP c A env σ (evalPart e env) (fun qa qb i v=>IsPart v i) k
theorem wPart_none {k:Option Int→St→Prop} (h:k none σ):WPart c A env σ none k:=by
 refine WP.mk fun hA Z P s R=>?_
 rw [evalPart_none]
 exact wpAny_pure (fin_mk (Step.refl ..) R .none h)
theorem wPart_some {e:Expr} {k:Option Int→St→Prop} (h:WE c A env σ e fun X σ₁=>∃ i,X=.int i∧k (some i) σ₁):WPart c A env σ (some e) k:=by
 refine WP.mk fun hA Z P s R=>?_
 rw [evalPart_some]
 refine wp_then h hA R fun Z₁ s₁ X σ₁ v S₁ R₁ r₁ kk=>?_
 refine E12 kk fun i z1 hk=>?_; clear kk; subst z1
 first | refine Rd.int_elim r₁ fun qa=>?_ | refine Rd.ref_elim r₁ ?_ | refine Rd.str_elim r₁ fun qa=>?_ | refine Rd.bool_elim r₁ ?_ | refine Rd.typ_elim r₁ ?_ | cases r₁
 exact (fin_mk S₁ R₁ (.int _ _) hk)
theorem drop_take_clip {α:Type} (l:List α) (a b:Nat):(l.drop (min a l.length)).take (min b l.length - min a l.length)=(l.drop a).take (b - a):=by
 by_cases ha:a≤l.length
 ·rw [Nat.min_eq_left ha]
  by_cases hb:b≤l.length
  ·rw [Nat.min_eq_left hb]
  ·have hb':=Nat.le_of_not_le hb
   rw [Nat.min_eq_right hb',List.take_of_length_le (by rw [List.length_drop]; exact Nat.le_refl _),List.take_of_length_le (by rw [List.length_drop]; exact Nat.sub_le_sub_right hb' a)]
 ·have ha':=Nat.le_of_not_le ha
  rw [Nat.min_eq_right (a:=a) (b:=l.length) ha',List.drop_of_length_le (Nat.le_refl _),List.drop_of_length_le (i:=a) ha',List.take_nil,List.take_nil]
theorem min_cast (a n:Nat):max 0 (min (a:Int) (n:Int))=((min a n:Nat):Int):=by omega
theorem slice_gen (items:Array Value) (lo hi:Option Nat):slicePick items (lo.map fun (n:Nat)=>(n:Int)) (hi.map fun (n:Nat)=>(n:Int)) none=((items.toList.drop (lo.getD 0)).take (hi.getD items.size - lo.getD 0)).toArray:=by
 have e:sliceBounds (lo.map fun (n:Nat)=>(n:Int)) (hi.map fun (n:Nat)=>(n:Int)) none items.size=(((min (lo.getD 0) items.size:Nat):Int),((min (hi.getD items.size) items.size:Nat):Int),1):=by
  simp only [sliceBounds,Option.getD_none]
  cases lo with
  | none =>
   cases hi with
   | none=>simp
   | some b =>
    have h2:¬ ((b:Int) < 0):=Int.not_lt.mpr (Int.natCast_nonneg b)
    simp only [Option.map_none,Option.map_some,Option.getD_none,Option.getD_some,h2,if_false,show (1:Int) > 0 by decide,if_true]
    congr 1
    congr 1; exact min_cast b _
  | some a =>
   have h1:¬ ((a:Int) < 0):=Int.not_lt.mpr (Int.natCast_nonneg a)
   cases hi with
   | none =>
    simp only [Option.map_none,Option.map_some,Option.getD_none,Option.getD_some,h1,if_false,show (1:Int) > 0 by decide,if_true]
    congr 1
    ·exact min_cast a _
    ·congr 1; rw [Nat.min_self]
   | some b =>
    have h2:¬ ((b:Int) < 0):=Int.not_lt.mpr (Int.natCast_nonneg b)
    simp only [Option.map_some,Option.getD_some,h1,h2,if_false,show (1:Int) > 0 by decide,if_true]
    congr 1
    ·exact min_cast a _
    ·congr 1; exact min_cast b _
 unfold slicePick
 rw [e]
 simp only [sliceRange_one,pick_run]
 have:=drop_take_clip items.toList (lo.getD 0) (hi.getD items.size)
 simp only [Array.length_toList] at this
 rw [this]
theorem wE_Slice {value:Expr} {lower upper:Option Expr} {p pos:Pos} {k:V→St→Prop}
  (h:WE c A env σ value fun X σ₁=>∃ xs,X=.lst xs∧xs.length≤sizeLine∧WPart c A env σ₁ lower fun lo σ₂=>WPart c A env σ₂ upper fun hi σ₃=>∃ a b:Option Nat,lo=a.map (fun (n:Nat)=>(n:Int))∧hi=b.map (fun (n:Nat)=>(n:Int))∧k (.lst ((xs.drop (a.getD 0)).take (b.getD xs.length - a.getD 0))) σ₃) :
  WE c A env σ (.Subscript value (.Slice lower upper none p) pos) k:=by
 refine WP.mk fun hA Z P s R=>?_
 rw [arm_eval_Subscript]
 refine wpAny_bind (wp_then h hA R fun Z₁ s₁ X σ₁ v₁ S₁ R₁ r₁ kk=>?_)
 refine E13 kk fun xs z1 hsz k₁=>?_; clear kk; subst z1
 refine Rd.lst_elim r₁ fun l items z i ri=>?_
 have hl:=ri.length
 simp only [Array.length_toList] at hl
 refine wpAny_bind (wpAny_holding (wpAny_Slice (wp_then k₁ hA R₁ fun Z₂ s₂ lo σ₂ vl S₂ R₂ r₂ k₂=>?_)))
 refine wp_then k₂ hA R₂ fun Z₃ s₃ hi σ₃ vu S₃ R₃ r₃ kk=>?_
 refine E23 kk fun a b z2 z3 k₃=>?_; clear kk; subst z2; subst z3
 rw [evalPart_none]
 refine wpAny_pure ?_
 have S13:=S₂.trans S₃
 have i₃:s₃.heap.PlainList l items:=i.at fun o e=>S13.keepZ l o z e
 have ri₃:=ri.keep S13.grow S13.keepZ
 have kp1:=Kp.push s₃.heap { cls:=.type "slice", data:=.fields #[vl,vu,.none] }
 have i₄:=i₃.at fun o=>kp1 l o
 refine wpAny_bind (wpAny_standAt (wpAny_bind (gip (T:="list") (s:={ s₃ with heap:=s₃.heap.push { cls:=.type "slice", data:=.fields #[vl,vu,.none] } }) i₄.isList.typeIs list_getitem_lookup (by intro e; cases e) ?_)))
 have fin:wpAny c.M A (getItem (.ref l) (.ref s₃.heap.objs.size)) (fun r s₄=>wpAny c.M A (letTemporaryGo value (.ref l) r >>= fun qa=>pure r) (Fin c P env (RV c) k Z s) (fun qa qb=>False) s₄) (fun qa qb=>False) { s₃ with heap:=s₃.heap.push { cls:=.type "slice", data:=.fields #[vl,vu,.none] } }:=by
  refine wpAny_getItem_list_slice i₄.isList (Heap.IsSliceOf.new ..) r₂ r₃ .none (by simp) ?_ (by omega)
  refine wpAny_bind (wpAny_letTemporaryGo (wpAny_pure ?_))
  have kp2:=Kp.push (s₃.heap.push { cls:=.type "slice", data:=.fields #[vl,vu,.none] }) { cls:=.type "list", data:=.seq (slicePick items (a.map fun (n:Nat)=>(n:Int)) (b.map fun (n:Nat)=>(n:Int)) none) }
  have kp:=kp1.trans kp2
  have hnew:∀ bb,bb=(s₃.heap.push { cls:=.type "slice", data:=.fields #[vl,vu,.none] }).objs.size→s₃.heap.get? bb=none∧∃ o,((s₃.heap.push { cls:=.type "slice", data:=.fields #[vl,vu,.none] }).push { cls:=.type "list", data:=.seq (slicePick items (a.map fun (n:Nat)=>(n:Int)) (b.map fun (n:Nat)=>(n:Int)) none) }).get? bb=some o:=by
   rintro bb rfl
   exact (I02 (fresh_none _ _ (by rw [Heap.size_push]; omega)) (I11 _ (Heap.get?_push_size _ rfl)))
  refine (fin_mk (((S₁.trans S13)).trans (Step.new kp _)) (R₃.new kp hnew) (.lst (.inr rfl) ⟨0,Heap.get?_push_size _ rfl⟩ ?_) k₃)
  have hfin:=((ri₃.drop (a.getD 0)).take (b.getD xs.length - a.getD 0)).keep (Z':=fun bb=>Z₃ bb∨bb=(s₃.heap.push { cls:=.type "slice", data:=.fields #[vl,vu,.none] }).objs.size) (fun qa z=>.inl z) fun b o qa e=>kp b o e
  have e:(slicePick items (a.map fun (n:Nat)=>(n:Int)) (b.map fun (n:Nat)=>(n:Int)) none).toList=(items.toList.drop (a.getD 0)).take (b.getD xs.length - a.getD 0):=by rw [slice_gen,hl]
  rw [e]
  exact hfin
 exact wpAny_bind (wpAny_operating fin)
end
end Mine
end
noncomputable section
namespace Mine
open PySem PySem.SeqAt
section
variable {c:Cx} {A:Around} {env:Env} {σ:St}
theorem WP.fin {α β:Type} {t:Sem α} {Rr:(Addr→Prop)→Heap→β→α→Prop} {k:β→St→Prop} (h:WP c A env σ t Rr fun b σ'=>∃ τ,σ'.le τ∧k b τ):WP c A env σ t Rr k:=by
 refine WP.mk fun hA Z P s R=>?_
 refine wp_then h hA R fun Z₁ s₁ b σ₁ v S₁ R₁ r₁ kk=>?_
 refine E12 kk fun τ hle hk=>?_; clear kk
 exact (fin_mk S₁ (R₁.le hle) r₁ hk)
noncomputable def Sub:List (Str×V)→List (Str×V)→Prop
 | [],_=>True
 | (x,X)::r,l=>l.lookup x=some X∧Sub r l
theorem Sub.lk:∀ {r l:List (Str×V)},Sub r l→∀ x X,r.lookup x=some X→l.lookup x=some X
 | [],_,_,x,X,e=>by simp at e
 | (y,Y)::r,l,h,x,X,e=>by
  rw [List.lookup_cons] at e
  cases hx:x == y with
  | true=>rw [hx] at e; cases e; rw [eq_of_beq hx]; exact h.1
  | false=>rw [hx] at e; exact h.2.lk x X e
theorem le_loc {l l':List (Str×V)} {hp:List (Addr×O)} (h:Sub l' l):St.le ⟨l,hp⟩ ⟨l',hp⟩:=(I03 h.lk (fun qa qb x=>x) id)
theorem le_nil {l:List (Str×V)} {hp:List (Addr×O)}:St.le ⟨l,hp⟩ ⟨[],[]⟩:=(I03 (fun qa qb e=>by simp at e) (fun qa qb x=>(by cases x)) (fun qa=>.nil))
theorem le_hp {l:List (Str×V)} {hp hp':List (Addr×O)} (h:hp'.Sublist hp):St.le ⟨l,hp⟩ ⟨l,hp'⟩:=(I03 (fun qa qb e=>e) (fun qa qb x=>h.subset x) (fun x=>(h.map _).nodup x))
theorem le_perm {l:List (Str×V)} {hp hp':List (Addr×O)} (h:hp'.Perm hp):St.le ⟨l,hp⟩ ⟨l,hp'⟩:=(I03 (fun qa qb e=>e) (fun qa qb x=>h.mem_iff.mp x) (fun x=>((h.map _).nodup_iff).mpr x))
theorem St.le.trans {a b d:St} (x:a.le b) (y:b.le d):a.le d:=(I03 (fun z Z e=>x.1 z Z (y.1 z Z e)) (fun z o e=>x.2.1 z o (y.2.1 z o e)) (fun e=>y.2.2 (x.2.2 e)))
theorem St.le.refl (a:St):a.le a:=(I03 (fun qa qb e=>e) (fun qa qb e=>e) id)
structure DefD where
 params:Arguments
 body:List Stmt
 scope:Scope
noncomputable def defD:Option Stmt→DefD
 | some (.FunctionDef _ a b _ _ _ sc _ _ _)=>⟨a,b,sc⟩
 | _=>⟨default,[],default⟩
noncomputable def clsBody:Option Stmt→List Stmt
 | some (.ClassDef _ _ _ b _ _ _ _ _ _ _)=>b
 | _=>[]
noncomputable def fdOf (D:DefD) (nm qual:Str) (pm code doc:Value):FuncData :=
 { name:=nm,qualname:=qual,params:=D.params,body:=.stmts D.body,scope:=D.scope,globals:=mainGlobals,closure:=[],defaults:=.none,kwdefaults:=.none,doc,pyModule:=pm,code,builtins:=builtinsNs }
noncomputable def IsFn (c:Cx) (a:Addr) (D:DefD):Prop:=∃ nm qual pm code doc,MethAt c a (fdOf D nm qual pm code doc)
structure DefK (D:DefD) (ps:List Str) (body:List Stmt):Prop where
 body:D.body=body
 fn:D.scope.kind=.function
 co:D.scope.isCoroutine=false
 gen:D.scope.isGenerator=false
 bind:∀ nm qual pm code doc (vs:List Value),vs.length=ps.length→bindArgs (fdOf D nm qual pm code doc) ⟨vs,[]⟩=pure (ps.zip vs)
 nodup:ps.Nodup
 kinds:∀ p∈ps,D.scope.names.lookup p=some .local∨D.scope.names.lookup p=some .cell
 noFree:∀ p∈D.scope.names,p.2≠.free
noncomputable def defKB (D:DefD) (ps:List Str):Bool :=
 (match D.scope.kind with | .function=>true | _=>false)&&(!D.scope.isCoroutine&&(!D.scope.isGenerator&&(decide ps.Nodup&&(ps.all (fun p=>match D.scope.names.lookup p with | some .local=>true | some .cell=>true | _=>false)&&D.scope.names.all fun p=>match p.2 with | .free=>false | _=>true))))
theorem mkK {D:DefD} {ps:List Str} (h:defKB D ps=true) (hb:∀ nm qual pm code doc (vs:List Value),vs.length=ps.length→bindArgs (fdOf D nm qual pm code doc) ⟨vs,[]⟩=pure (ps.zip vs)):DefK D ps D.body:=by
 unfold defKB at h
 rw [Bool.and_eq_true,Bool.and_eq_true,Bool.and_eq_true,Bool.and_eq_true,Bool.and_eq_true,Bool.not_eq_true',Bool.not_eq_true',decide_eq_true_eq,List.all_eq_true,List.all_eq_true] at h
 obtain ⟨h1,h2,h3,h4,h5,h6⟩:=h
 refine ⟨rfl,?_,h2,h3,hb,h4,fun p hp=>?_,fun p hp e=>?_⟩
 ·cases hk:D.scope.kind <;> rw [hk] at h1 <;> first | rfl | cases h1
 ·have:=h5 p hp
  split at this
  ·rename_i e; exact .inl e
  ·rename_i e; exact .inr e
  ·cases this
 ·have:=h6 p hp
  rw [e] at this; cases this
noncomputable def envD (D:DefD) (qual:Str) (code:Value) (L a:Addr):Env:=newEnv D.scope L mainGlobals (cellsFrom (L + 1) D.scope.names []) (qual ++ ".<locals>.") (some a) code none builtinsNs
theorem call_def {a:Addr} {D:DefD} {n:Nat} {ps:List Str} {Xs:List V} {H:List (Addr×O)} {post:V→List (Addr×O)→Prop} {body:List Stmt} (F:IsFn c a D) (K:DefK D ps body) (hlen:Xs.length=ps.length)
  (h:∀ A qual code L,Rm n A→WSs c A (envD D qual code L a) ⟨ps.zip Xs,H⟩ body fun f σ=>∃ τ,σ.le τ∧post (retV f) τ.hp):CallSpec c (n + 1) a H Xs post:=by
 refine E51 F fun nm qual pm code doc M=>?_; clear F
 refine call_intro (ps:=ps) (body:=body) M.fn ⟨?_,rfl,rfl,rfl,K.fn,K.co,K.gen,K.bind nm qual pm code doc,K.nodup,K.kinds,K.noFree⟩ hlen fun A L hR=>?_
 ·show FuncBody.stmts D.body=_
  rw [K.body]
 ·exact WP.fin (h A qual code L hR)
end
end Mine
end
noncomputable section
namespace Mine
open PySem PySem.SeqAt
theorem hset_mid {pre post:List (Addr×O)} {d:Addr} {o o':O} (hnd:((pre++(d,o)::post).map (·.1)).Nodup):hset (pre++(d,o)::post) d o'=pre++(d,o')::post:=by
 have h1:∀ (l:List (Addr×O)),(∀ e∈l,e.1≠d)→hset l d o'=l:=by
  intro l hl
  unfold hset
  have:∀ e∈l,(if e.1=d then (d,o') else e)=e:=fun e he=>if_neg (hl e he)
  rw [List.map_congr_left this,List.map_id']
 rw [List.map_append,List.nodup_append] at hnd
 refine E03 hnd fun qa h2 h3=>?_; clear hnd
 simp only [List.map_cons,List.nodup_cons] at h2
 have e:hset (pre++(d,o)::post) d o'=hset pre d o'++(d,o')::hset post d o':=by
  unfold hset
  rw [List.map_append,List.map_cons]
  simp
 rw [e,h1 pre,h1 post]
 ·intro e he h; exact h2.1 (h▸List.mem_map_of_mem (f:=(·.1)) he)
 ·intro e he h; exact h3 e.1 (List.mem_map_of_mem (f:=(·.1)) he) d (by simp) h
section
variable {c:Cx} {A:Around} {env:Env} {σ:St}
theorem WSs.nd {sts:List Stmt} {k:FV→St→Prop} (h:(σ.hp.map (·.1)).Nodup→WSs c A env σ sts k):WSs c A env σ sts k:=WP.nd h
end
theorem le_lp {l l':List (Str×V)} {H H':List (Addr×O)} (h:Sub l' l) (hp:H'.Perm H):St.le ⟨l,H⟩ ⟨l',H'⟩:=(le_loc h).trans (le_perm hp)
section
variable {c:Cx} {A:Around} {hp:List (Addr×O)}
theorem inS {Z:Addr→Prop} {s:Shared} {a:Addr} {k:Str} {t:Tok} {xs:List Str} {b:Bool} {Q:Value→Shared→Prop} {E:Value→Shared→Prop} (hS:SetL c s.heap a xs) (hb:b=true↔k∈xs) (h:∀ tk,Q (.bool b) { s with toks:=tk }):wpAny c.M A (compareOp .In (.str k t) (.ref a)) Q E s:=by
 have:=hS.setOf
 refine wpAny_inSet_of (knd:=c.K) (k:=k) (strKind_is _ _ k t) rfl this ?_
 have e:decide (k∈xs)=b:=by cases b <;> simp_all
 rw [e]; exact h _
theorem notinS {Z:Addr→Prop} {s:Shared} {a:Addr} {k:Str} {t:Tok} {xs:List Str} {b:Bool} {Q:Value→Shared→Prop} {E:Value→Shared→Prop} (hS:SetL c s.heap a xs) (hb:b=true↔k∉xs) (h:∀ tk,Q (.bool b) { s with toks:=tk }):wpAny c.M A (compareOp .NotIn (.str k t) (.ref a)) Q E s:=by
 have:=hS.setOf
 refine wpAny_notInSet_of (knd:=c.K) (k:=k) (strKind_is _ _ k t) rfl this ?_
 have e:(!decide (k∈xs))=b:=by cases b <;> simp_all
 rw [e]; exact h _
theorem cmp_eq_str {x y:Str}:CmpV c A hp .Eq (.str x) (.str y) (decide (x=y)):=cmp_eq (T:=.str) (.str _) (.str _) (by simp)
theorem cmp_ne_str {x y:Str}:CmpV c A hp .NotEq (.str x) (.str y) (!decide (x=y)):=cmp_ne (T:=.str) (.str _) (.str _) (by simp)
theorem cmp_eq_int {x y:Int}:CmpV c A hp .Eq (.int x) (.int y) (decide (x=y)):=cmp_eq (T:=.int) (.int _) (.int _) (by simp)
theorem cmp_ne_int {x y:Int}:CmpV c A hp .NotEq (.int x) (.int y) (!decide (x=y)):=cmp_ne (T:=.int) (.int _) (.int _) (by simp)
theorem ht_strs (xs:List Str):∀ y∈xs.map V.str,HT .str y:=by
 intro y hy; refine E12 (List.mem_map.mp hy) fun s qa z2=>?_; subst z2; exact .str s
theorem mem_strs {k:Str} {xs:List Str}:V.str k∈xs.map V.str↔k∈xs:=by
 simp
theorem cmp_in_strs {k:Str} {xs:List Str}:CmpV c A hp .In (.str k) (.lst (xs.map .str)) (decide (k∈xs)):=cmp_in_lst (T:=.str) (.str _) (ht_strs _) (by rw [decide_eq_true_eq,mem_strs])
theorem cmp_notin_strs {k:Str} {xs:List Str}:CmpV c A hp .NotIn (.str k) (.lst (xs.map .str)) (!decide (k∈xs)):=cmp_notin_lst (T:=.str) (.str _) (ht_strs _) (by rw [decide_eq_true_eq,mem_strs])
theorem cmp_in_set {k:Str} {xs:List Str} {b:Bool} (hb:b=true↔k∈xs):CmpV c A hp .In (.str k) (.set xs) b:=by
 intro hA Z P s x y _ rX rY Q E h
 cases rX; cases rY with | set z hS=>exact inS (Z:=Z) hS hb h
theorem cmp_in_oset {a:Addr} {k:Str} {xs:List Str} {b:Bool} (ha:(a,O.set xs)∈hp) (hb:b=true↔k∈xs):CmpV c A hp .In (.str k) (.ref a) b:=by
 intro hA Z P s x y H rX rY Q E h
 cases rX; cases rY; exact inS (Z:=Z) (H.obj a _ ha).1 hb h
theorem cmp_notin_oset {a:Addr} {k:Str} {xs:List Str} {b:Bool} (ha:(a,O.set xs)∈hp) (hb:b=true↔k∉xs):CmpV c A hp .NotIn (.str k) (.ref a) b:=by
 intro hA Z P s x y H rX rY Q E h
 cases rX; cases rY; exact notinS (Z:=Z) (H.obj a _ ha).1 hb h
end
noncomputable def gadd:List (Str×List Str)→Str→Str→List (Str×List Str)
 | [],p,s=>[(p,[s])]
 | (q,xs)::r,p,s=>if q=p then (q,sadd xs s)::r else (q,xs)::gadd r p s
noncomputable def grp (l:List (Str×Str)):List (Str×List Str):=l.foldl (fun G q=>gadd G q.1 q.2) []
noncomputable def gget (G:List (Str×List Str)) (p:Str):Option (List Str):=(G.find? fun g=>decide (g.1=p)).map (·.2)
noncomputable abbrev GA:=List (Str×Addr×List Str)
noncomputable def GA.er (G:GA):List (Str×List Str):=G.map fun g=>(g.1,g.2.2)
noncomputable def GA.es (G:GA):List (Str×V):=G.map fun g=>(g.1,V.ref g.2.1)
noncomputable def GA.sets (G:GA):List (Addr×O):=G.map fun g=>(g.2.1,O.set g.2.2)
noncomputable def GA.hp (d:Addr) (G:GA):List (Addr×O):=(d,.dct G.es)::G.sets
theorem GA.split:∀ (G:GA) (p:Str),(gget G.er p=none∧dget G.es p=none∧∀ s,gadd G.er p s=G.er++[(p,[s])]) ∨
  ∃ pre x xs post,G=pre++(p,x,xs)::post∧gget G.er p=some xs∧dget G.es p=some (.ref x)∧∀ s,gadd G.er p s=GA.er (pre++(p,x,sadd xs s)::post)
 | [],p=>.inl (I03 rfl rfl (fun qa=>rfl))
 | (q,x,xs)::r,p=>by
  by_cases h:q=p
  ·subst h
   refine .inr (I44 [] x xs r rfl ?_ ?_ (fun s=>?_))
   ·simp [GA.er,gget]
   ·simp [GA.es,dget]
   ·simp [GA.er,gadd]
  ·rcases GA.split r p with ⟨h1,h2,h3⟩ | ⟨pre,y,ys,post,h0,h1,h2,h3⟩
   ·refine .inl (I03 ?_ ?_ (fun s=>?_))
    ·simp only [GA.er,gget,List.map_cons,List.find?_cons,h,decide_false] at h1 ⊢; exact h1
    ·simp only [GA.es,dget,List.map_cons,List.find?_cons,h,decide_false] at h2 ⊢; exact h2
    ·have:=h3 s
     simp only [GA.er,List.map_cons,gadd,h,if_false] at this ⊢; rw [this]; rfl
   ·refine .inr (I44 ((q,x,xs)::pre) y ys post (by rw [h0]; rfl) ?_ ?_ (fun s=>?_))
    ·simp only [GA.er,gget,List.map_cons,List.find?_cons,h,decide_false] at h1 ⊢; exact h1
    ·simp only [GA.es,dget,List.map_cons,List.find?_cons,h,decide_false] at h2 ⊢; exact h2
    ·have:=h3 s
     simp only [GA.er,List.map_cons,gadd,h,if_false,List.cons_append] at this ⊢; rw [this]
theorem GA.sets_mid (pre post:GA) (p:Str) (x:Addr) (xs:List Str):GA.sets (pre++(p,x,xs)::post)=pre.sets++(x,O.set xs)::post.sets:=by simp [GA.sets]
theorem GA.es_mid (pre post:GA) (p:Str) (x:Addr) (xs ys:List Str):GA.es (pre++(p,x,xs)::post)=GA.es (pre++(p,x,ys)::post):=by simp [GA.es]
theorem dset_new {es:List (Str×V)} {k:Str} {X:V} (h:dget es k=none):dset es k X=es++[(k,X)]:=by
 unfold dset
 rw [if_neg]
 intro h1
 refine E12 (List.any_eq_true.mp h1) fun e he h2=>?_
 unfold dget at h
 simp only [Option.map_eq_none_iff] at h
 have:=List.find?_eq_none.mp h e he
 exact this h2
structure Rt where
 nm:Str
 st:Str
 ov:List Str
 nd:List (Str×Str)
 via:Str
noncomputable def prs (l:List (Str×Str)):List V:=RdPairs (l.map fun p=>(p.1,V.str p.2))
noncomputable def Rt.v (r:Rt):V:=.tup [.str r.nm,.str r.st,.lst (r.ov.map .str),.lst (prs r.nd),.str r.via]
theorem prs_len (l:List (Str×Str)):(prs l).length=l.length:=by simp [prs,RdPairs]
noncomputable def needClash (G:List (Str×List Str)) (nd:List (Str×Str)):Bool:=nd.any fun q=>match gget G q.1 with | some xs=>decide (xs.length > 1)||decide (q.2∉xs) | none=>false
noncomputable def clashB (a b:Rt):Bool:=a.ov.any (fun s=>decide (s∈b.ov))||decide (a.st=b.st)||needClash (grp a.nd) b.nd
theorem mem_sof (k:Str) (xs:List Str):k∈sof xs↔k∈xs:=by
 have h:∀ (xs acc:List Str),k∈xs.foldl sadd acc↔k∈acc∨k∈xs:=by
  intro xs
  induction xs with
  | nil=>simp
  | cons x xs ih =>
   intro acc
   rw [List.foldl_cons,ih]
   unfold sadd
   split
   ·rename_i hx
    constructor
    ·rintro (h | h)
     ·exact .inl h
     ·exact .inr (.tail _ h)
    ·rintro (h | h)
     ·exact .inl h
     ·rcases List.mem_cons.mp h with rfl | h
      ·exact .inl hx
      ·exact .inr h
   ·simp only [List.mem_append,List.mem_cons,List.not_mem_nil,or_false,or_assoc]
 unfold sof
 rw [h]; simp
end Mine
end
noncomputable section
namespace Mine
open PySem PySem.SeqAt
theorem le_ls {l l':List (Str×V)} {H H':List (Addr×O)} (h:Sub l' l) (hs:H'.Sublist H):St.le ⟨l,H⟩ ⟨l',H'⟩:=(le_loc h).trans (le_hp hs)
structure Ad where
 x:Addr
 dx:Addr
 rd:Addr
 pd:Addr
 od:Addr
 hd:Addr
structure Row where
 nm:Str
 a:Addr
 b:Addr
 left:List Str
 e:Int
 w:Int
noncomputable def Row.hp (r:Row):List (Addr×O):=[(r.a,.lst [.ref r.b,.int r.e,.int r.w]),(r.b,.lst (r.left.map .str))]
noncomputable def rowsHp (rows:List Row):List (Addr×O):=rows.flatMap Row.hp
noncomputable def rowsEs (rows:List Row):List (Str×V):=rows.map fun r=>(r.nm,V.ref r.a)
noncomputable def nsM (ad:Ad) (lay:V):List (Str×V):=[("lay", lay),("r", .ref ad.rd),("pos", .ref ad.pd),("occ", .ref ad.od),("held", .ref ad.hd)]
noncomputable def mhp' (C:Addr) (ad:Ad) (lay:V) (rs pos:List (Str×V)) (occ:List Str) (rows:List Row):List (Addr×O) :=
 (ad.x,.inst C ad.dx)::(ad.dx,.ns (nsM ad lay))::(ad.rd,.dct rs)::(ad.pd,.dct pos)::(ad.od,.set occ)::rowsHp rows
noncomputable def mhp (C:Addr) (ad:Ad) (lay:V) (rs pos:List (Str×V)) (occ:List Str) (rows:List Row):List (Addr×O) :=
 (ad.hd,.dct (rowsEs rows))::mhp' C ad lay rs pos occ rows
theorem mem_rowA {rows:List Row} {r:Row} (h:r∈rows):(r.a,O.lst [.ref r.b,.int r.e,.int r.w])∈rowsHp rows:=List.mem_flatMap.mpr (I12 r h (.head _))
theorem mem_rowB {rows:List Row} {r:Row} (h:r∈rows):(r.b,O.lst (r.left.map .str))∈rowsHp rows:=List.mem_flatMap.mpr (I12 r h (.tail _ (.head _)))
section
variable {C:Addr} {ad:Ad} {lay:V} {rs pos:List (Str×V)} {occ:List Str} {rows:List Row}
theorem mem_rows' {e:Addr×O} (h:e∈rowsHp rows):e∈mhp' C ad lay rs pos occ rows:=.tail _ (.tail _ (.tail _ (.tail _ (.tail _ h))))
theorem mem_rows {e:Addr×O} (h:e∈rowsHp rows):e∈mhp C ad lay rs pos occ rows:=.tail _ (mem_rows' h)
theorem mem_x':(ad.x,O.inst C ad.dx)∈mhp' C ad lay rs pos occ rows:=.head _
theorem mem_ns':(ad.dx,O.ns (nsM ad lay))∈mhp' C ad lay rs pos occ rows:=.tail _ (.head _)
theorem mem_rd':(ad.rd,O.dct rs)∈mhp' C ad lay rs pos occ rows:=.tail _ (.tail _ (.head _))
theorem mem_pd':(ad.pd,O.dct pos)∈mhp' C ad lay rs pos occ rows:=.tail _ (.tail _ (.tail _ (.head _)))
theorem mem_od':(ad.od,O.set occ)∈mhp' C ad lay rs pos occ rows:=.tail _ (.tail _ (.tail _ (.tail _ (.head _))))
theorem mem_x:(ad.x,O.inst C ad.dx)∈mhp C ad lay rs pos occ rows:=.tail _ mem_x'
theorem mem_ns:(ad.dx,O.ns (nsM ad lay))∈mhp C ad lay rs pos occ rows:=.tail _ mem_ns'
theorem mem_rd:(ad.rd,O.dct rs)∈mhp C ad lay rs pos occ rows:=.tail _ mem_rd'
theorem mem_pd:(ad.pd,O.dct pos)∈mhp C ad lay rs pos occ rows:=.tail _ mem_pd'
theorem mem_od:(ad.od,O.set occ)∈mhp C ad lay rs pos occ rows:=.tail _ mem_od'
theorem mem_hd:(ad.hd,O.dct (rowsEs rows))∈mhp C ad lay rs pos occ rows:=.head _
end
theorem tl_lay:typeLookup (.type "object") "lay" = pure none:=by rw [typeLookup_type,builtinLookup_eq_fast]; kernel_rfl
theorem tl_r:typeLookup (.type "object") "r" = pure none:=by rw [typeLookup_type,builtinLookup_eq_fast]; kernel_rfl
theorem tl_pos:typeLookup (.type "object") "pos" = pure none:=by rw [typeLookup_type,builtinLookup_eq_fast]; kernel_rfl
theorem tl_occ:typeLookup (.type "object") "occ" = pure none:=by rw [typeLookup_type,builtinLookup_eq_fast]; kernel_rfl
theorem tl_held:typeLookup (.type "object") "held" = pure none:=by rw [typeLookup_type,builtinLookup_eq_fast]; kernel_rfl
theorem tl_out:typeLookup (.type "object") "_out" = pure none:=by rw [typeLookup_type,builtinLookup_eq_fast]; kernel_rfl
theorem tl_busy:typeLookup (.type "object") "_busy" = pure none:=by rw [typeLookup_type,builtinLookup_eq_fast]; kernel_rfl
theorem tl_locked:typeLookup (.type "object") "_locked" = pure none:=by rw [typeLookup_type,builtinLookup_eq_fast]; kernel_rfl
theorem tl_set:typeLookup (.type "object") "_set" = pure none:=by rw [typeLookup_type,builtinLookup_eq_fast]; kernel_rfl
theorem tl_cancel:typeLookup (.type "object") "_cancel" = pure none:=by rw [typeLookup_type,builtinLookup_eq_fast]; kernel_rfl
theorem tl_tick:typeLookup (.type "object") "_tick" = pure none:=by rw [typeLookup_type,builtinLookup_eq_fast]; kernel_rfl
theorem tl_enter:typeLookup (.type "object") "_enter" = pure none:=by rw [typeLookup_type,builtinLookup_eq_fast]; kernel_rfl
theorem tl_leave:typeLookup (.type "object") "_leave" = pure none:=by rw [typeLookup_type,builtinLookup_eq_fast]; kernel_rfl
theorem tl_move:typeLookup (.type "object") "_move" = pure none:=by rw [typeLookup_type,builtinLookup_eq_fast]; kernel_rfl
structure Lay where
 secs:List Str
 pts:List (Str×Str)
 sigs:List (Str×Str)
 rts:List Rt
noncomputable def Lay.v (l:Lay):V:=.tup [.lst (l.secs.map .str),.lst (prs l.pts),.lst (prs l.sigs),.lst (l.rts.map Rt.v)]
structure Held where
 nm:Str
 left:List Str
 e:Int
 w:Int
noncomputable def Held.v (h:Held):V:=.tup [.str h.nm,.lst (h.left.map .str),.int h.e,.int h.w]
structure Sta where
 pos:List (Str×Str)
 occ:List Str
 held:List Held
noncomputable def Sta.v (s:Sta):V:=.tup [.lst (prs s.pos),.lst (s.occ.map .str),.lst (s.held.map Held.v)]
noncomputable def tset (l:List (Str×Str)) (k v:Str):List (Str×Str):=if l.any (fun e=>e.1=k) then l.map (fun e=>if e.1=k then (e.1,v) else e) else l++[(k,v)]
noncomputable def tfold (ps l:List (Str×Str)):List (Str×Str):=ps.foldl (fun l p=>tset l p.1 p.2) l
noncomputable def tget (l:List (Str×Str)) (k:Str):Option Str:=(l.find? fun e=>decide (e.1=k)).map (·.2)
noncomputable def tv (l:List (Str×Str)):List (Str×V):=l.map fun p=>(p.1,V.str p.2)
theorem tv_set (l:List (Str×Str)) (k v:Str):dset (tv l) k (.str v)=tv (tset l k v):=by
 unfold dset tset tv
 have:(l.map fun p=>(p.1,V.str p.2)).any (fun e=>decide (e.1=k))=l.any (fun e=>decide (e.1=k)):=by rw [List.any_map]; rfl
 rw [this]
 split
 ·rw [List.map_map,List.map_map]
  refine List.map_congr_left fun p qa=>?_
  simp only [Function.comp]
  split <;> rfl
 ·simp
theorem tv_fold (ps l:List (Str×Str)):dfold (tv ps) (tv l)=tv (tfold ps l):=by
 induction ps generalizing l with
 | nil=>rfl
 | cons p ps ih =>
  show dfold (tv ps) (dset (tv l) p.1 (.str p.2))=_
  rw [tv_set,ih]; rfl
theorem tv_get (l:List (Str×Str)) (k:Str):dget (tv l) k=(tget l k).map V.str:=by
 unfold dget tget tv
 rw [List.find?_map]
 simp only [Option.map_map]
 rfl
theorem tget_set (l:List (Str×Str)) (k v j:Str):tget (tset l k v) j=if j=k then some v else tget l j:=by
 unfold tset
 split
 ·rename_i h
  unfold tget
  have hF:((fun e:Str×Str=>decide (e.1=j))∘fun e:Str×Str=>if e.1=k then (e.1,v) else e)=fun e:Str×Str=>decide (e.1=j):=funext fun e=>by
   show decide ((if e.1=k then (e.1,v) else e).1=j)=_
   split <;> rfl
  rw [List.find?_map,hF]
  cases hc:l.find? fun e=>decide (e.1=j) with
  | none =>
   rw [if_neg]; rfl
   intro hj
   obtain ⟨e,he,h2⟩:=List.any_eq_true.mp h
   exact List.find?_eq_none.mp hc e he (hj▸h2)
  | some e =>
   have hd:=List.find?_some hc
   have he:e.1=j:=of_decide_eq_true hd
   show some (if e.1=k then (e.1,v) else e).2=if j=k then some v else some e.2
   by_cases hj:j=k
   ·rw [if_pos hj,if_pos (he.trans hj)]
   ·rw [if_neg hj,if_neg fun z=>hj (he.symm.trans z)]
 ·rename_i h
  unfold tget
  rw [List.find?_append]
  have hn:l.find? (fun e=>decide (e.1=k))=none:=by
   rw [List.find?_eq_none]
   intro e he h2
   exact h (List.any_eq_true.mpr (I12 e he h2))
  by_cases hj:j=k
  ·subst hj; rw [hn]; simp
  ·have:¬ k=j:=fun e=>hj e.symm
   simp [hj,this]
theorem tget_fold_some (ps l:List (Str×Str)) (k:Str):(tget (tfold ps l) k).isSome=(decide (k∈ps.map (·.1))||(tget l k).isSome):=by
 induction ps generalizing l with
 | nil=>simp [tfold]
 | cons p ps ih =>
  show (tget (tfold ps (tset l p.1 p.2)) k).isSome=_
  rw [ih,tget_set]
  by_cases h:k=p.1
  ·subst h; simp
  ·simp only [h,if_false,List.map_cons,List.mem_cons,false_or]
end Mine
end
noncomputable section
namespace Mine
open PySem PySem.SeqAt PyProof.Rows
theorem StrsAre.snoc {vs:List Value} {ss:List Str} (h:StrsAre vs ss) (k:Str) (t:Tok):StrsAre (vs++[.str k t]) (ss++[k]):=by
 induction h with
 | nil=>exact .cons k t .nil
 | cons y u _ ih=>exact .cons y u ih
theorem StrsAre.rd {c:Cx} {Z:Addr→Prop} {h:Heap} {vs:List Value} {ss:List Str} (x:StrsAre vs ss):RdL c Z h (ss.map .str) vs:=by
 induction x with
 | nil=>exact .nil
 | cons y t _ ih=>exact .cons (.str y t) ih
theorem StrsAre.of {c:Cx} {Z:Addr→Prop} {h:Heap}:∀ {ss:List Str} {vs:List Value},RdL c Z h (ss.map .str) vs→StrsAre vs ss
 | [],_,.nil=>.nil
 | s::ss,_,.cons r rs=>by cases r; exact .cons _ _ (StrsAre.of rs)
theorem StrsAre.len {vs:List Value} {ss:List Str} (x:StrsAre vs ss):vs.length=ss.length:=by
 induction x with
 | nil=>rfl
 | cons y t _ ih=>simp [ih]
section
variable {c:Cx} {A:Around} {E:Value→Shared→Prop} {s:Shared}
theorem f_sorted_lst {hp:List (Addr×O)} {ss:List Str} (hl:ss.length < 64):∀ (_:AOk A) (Z P:Addr→Prop) (s:Shared) (vs:List Value),(Z sysModules∧∀ b,Z b→∃ o,s.heap.get? b=some o)→HpR c Z P s.heap hp→RdL c Z s.heap [.lst (ss.map .str)] vs →
  ∀ Q E,(∀ ss' a h' tk dr,ss'.Perm ss→sortedS ss'=true→Kp s.heap h'→s.heap.get? a=none→RdO c Z h' a (.lst (ss'.map .str))→Q (.ref a) { s with heap:=h',toks:=tk,drawn:=dr })→wpAny c.M A (call (.builtin "sorted") vs) Q E s:=by
 intro hA Z P s vs hZ H r Q E hQ
 refine RdL.one_elim r fun v r1=>?_
 refine Rd.lst_elim r1 fun a items z i ri=>?_
 have hS:=StrsAre.of ri
 refine sorted_strs (l:=a) (vs:=items.toList) (ss:=ss) (by simpa using i.isList) hS (by rw [Mine.StrsAre.len hS]; exact hl) fun out ss' h1 h2 h3=>?_
 obtain ⟨e,he⟩:=sortedAll_at s.heap items.toList out
 refine hQ ss' _ _ s.toks s.drawn h2 h3 (fun b o hb=>sortedAll_old hb) (fresh_none _ _ (by omega)) (I12 out ⟨e,he⟩ (Mine.StrsAre.rd h1))
theorem extend_strs {R:Result→Shared→Prop} {Z:Addr→Prop} {h₀:Heap} {I S:Addr} {fp:List Addr} {Stt:Nat→Heap→Prop} {x:Str} {p:Pos} {ks:List Str} {res:Value} (W:Iter c A.in1 (.Name x p) I fp (ks.map .str) Stt Z h₀) (hSf:S∉fp) (hSI:S≠I) (hZS:¬ Z S) (hl:ks.length≤1000) (hZI:¬ Z I) :
  ∀ (k i:Nat) (s:Shared) (acc:Array Value) (c₀:Nat),ks.length - i=k→i≤ks.length→Stt i s.heap→(∀ b o,Z b→h₀.get? b=some o→s.heap.get? b=some o)→s.heap.get? S=some (seqObj "list" acc c₀)→StrsAre acc.toList (ks.take i) →
   (∀ h' tk acc' c',(∀ b o,b≠S→b≠I→s.heap.get? b=some o→h'.get? b=some o)→h'.get? S=some (seqObj "list" acc' c')→StrsAre acc'.toList ks→R (.ok (.ret res)) { s with heap:=h',toks:=tk }) →
   codeAny c.M A (.builtin "list.extend.loop" ⟨[.ref S,.ref I,res],[]⟩) R s:=by
 have hsl:sizeLine > 2000:=by decide
 intro k
 induction k with
 | zero =>
  intro i s acc c₀ hk hi hst hZ hS hacc hR
  have hin:i=ks.length:=oz hk hi
  subst hin
  refine codeAny_builtin PySem.F.entry_extend_loop ?_
  rw [Around.under_plainId PySem.F.plain_extend_loop _]
  show wpAny _ A.in1 (pyNext (.ref I) >>= _) _ _ s
  refine wpAny_bind (W.done s _ _ (by simpa using hst) fun h' tk hm=>?_)
  refine wpAny_pure (hR h' tk acc c₀ (fun b o qa hb e=>hm b o hb e) (hm S _ hSI hS) ?_)
  rw [List.take_of_length_le (Nat.le_refl _)] at hacc
  exact hacc
 | succ k ih =>
  intro i s acc c₀ hk hi hst hZ hS hacc hR
  have hlt:i < ks.length:=ol hk
  have hx:(ks.map V.str)[i]?=some (.str ks[i]):=by simp [hlt]
  have hacl:acc.size≤sizeLine:=by
   have:=StrsAre.len hacc
   rw [Array.length_toList,List.length_take] at this
   rw [this]; exact Nat.le_trans (Nat.min_le_right _ _) (Nat.le_trans hl (by decide))
  refine codeAny_builtin PySem.F.entry_extend_loop ?_
  rw [Around.under_plainId PySem.F.plain_extend_loop _]
  show wpAny _ A.in1 (pyNext (.ref I) >>= _) _ _ s
  refine wpAny_bind (wpAny_mono (W.item i (.str ks[i]) s Z (fun v s₁=>wpAny c.M A.in1 (do updateSeq S (·.push v); again (.builtin "list.extend.loop" ⟨[.ref S,.ref I,res],[]⟩)) (fun fin s'=>match fin with | .done f=>R (.ok f) s' | .again c'=>c'.quiet=true∧codeAny c.M A c' R s') (fun e s'=>R (.error e) s') s₁) _ hx hst (fun qa z=>z) hZ ?_) ?_ fun qa qb x=>x)
  ·intro v h' tk N hst' hm hN rd
   refine Rd.str_elim rd fun t=>?_
   have hS':=hm S _ hSI hS
   refine wpAny_bind ?_
   refine wpAny_updateSeq hS' rfl ?_ ?_ ?_
   ·have hS2:=Heap.get?_update_self (Obj.mapSeq (·.push (Value.str ks[i] t))) hS' (by rfl)
    have hs2:Heap.SameBut S h' (h'.update S (Obj.mapSeq (·.push (Value.str ks[i] t)))):=Heap.SameBut.update ..
    refine wpAny_pure ⟨plainId_quiet PySem.F.plain_extend_loop _,ih (i + 1) _ (acc.push (.str ks[i] t)) _ (os hk) hlt (W.frame _ _ _ hst' fun b hb o e=>hs2.extBut b o (fun e'=>hSf (e'▸hb)) e) (fun b o z e=>hs2.extBut b o (fun e'=>hZS (e'▸z)) (hm b o (fun e'=>hZI (e'▸z)) (hZ b o z e))) hS2 ?_ fun h'' tk'' acc' c' hm'' hS'' hacc'=>?_⟩
    ·rw [Array.toList_push,List.take_add_one,List.getElem?_eq_getElem hlt]
     exact StrsAre.snoc hacc _ t
    ·exact hR h'' tk'' acc' c' (fun b o hb hb' e=>hm'' b o hb hb' (hs2.extBut b o hb (hm b o hb' e))) hS'' hacc'
   ·exact hacl
   ·show (acc.push _).size≤_
    rw [Array.size_push]; exact Nat.succ_le_succ hacl
  ·intro r s₁ h
   cases r with
   | none=>exact h.elim
   | some v=>exact wpAny_bind (m:=(pure ():Sem Unit)) h
theorem hint_set {a:Addr} {Q:Bool→Shared→Prop} (hT:s.TypeIs (.ref a) "set") (h:Q false s):wpAny c.M A (Builtin.List.listLengthHint (.ref a)) Q E s:=by
 unfold Builtin.List.listLengthHint
 refine wpAny_bind (wpAny_specialOf hT PySem.F.slot_set_len.lookup ?_)
 generalize hid:("set.__len__" : String)=id0
 wp_delta
 rw [show splitId id0=some ("set","__len__") from by subst hid; decide +kernel]
 subst hid
 refine wpAny_bind (wpAny_isInstance (T:="set") (b:=true) hT (by rw [isSubtype_type]; kernel_rfl) ?_)
 refine wpAny_ite_split (fun hab=>absurd hab (by decide)) (fun qa=>?_)
 refine wpAny_ite_split (fun qa=>?_) (fun hab=>absurd (by decide +kernel) hab)
 refine wpAny_bind (wpAny_typeOf hT ?_)
 exact wpAny_pure h
theorem collect_set {a:Addr} {xs:List Str} {Q:List Value→Shared→Prop} (hh:A.handled=none) (hS:SetL c s.heap a xs) (hlen:xs.length≤1000)
  (h:∀ vs ks h' tk dr,StrsAre vs ks→ks.Perm xs→Kp s.heap h'→Q vs { s with heap:=h',toks:=tk,drawn:=dr }):wpAny c.M A (collect (.ref a)) Q E s:=by
 have hsl:sizeLine > 2000:=by decide
 refine E52 (id hS) fun oa qa qb qc qd hoa qe=>?_
 have hlt:a < s.heap.objs.size:=Heap.lt_size hoa
 have hSa:s.heap.objs.size≠a:=Nat.ne_of_gt hlt
 unfold collect
 refine wpAny_bind (wpAny_runValue (codeAny_builtin entry_proto_collect' ?_))
 show wpAny _ _ (do again (.builtin "list.__iadd__" ⟨[← newList [],.ref a],[]⟩)) _ _ s
 refine wpAny_bind (wpAny_newList (wpAny_pure ⟨Code.quiet_builtin _ (by decide +kernel),codeAny_builtin entry_list_iadd' ?_⟩))
 rw [Around.under_plainId (by decide +kernel) _]
 show wpAny _ A.in1 (Builtin.List.listExtendWith (.ref s.heap.objs.size) (.ref a) (.ref s.heap.objs.size)) _ _ { s with heap:=s.heap.push (seqObj "list" #[] 0) }
 have kp1:Kp s.heap (s.heap.push (seqObj "list" #[] 0)):=Kp.push _ _
 have hS1:SetL c (s.heap.push (seqObj "list" #[] 0)) a xs:=hS.keep fun o=>kp1 a o
 have hT1:Shared.TypeIs { s with heap:=s.heap.push (seqObj "list" #[] 0) } (.ref a) "set" := hS1.typeIs
 have hL1:(s.heap.push (seqObj "list" #[] 0)).get? s.heap.objs.size=some (seqObj "list" #[] 0):=Heap.get?_push_size _ rfl
 unfold Builtin.List.listExtendWith
 refine wpAny_bind (wpAny_typeOf (T:="set") hT1 ?_)
 have e1:Builtin.List.listSameRef (.ref s.heap.objs.size) (.ref a)=false:=by simp [Builtin.List.listSameRef,hSa]
 simp only [e1,show (Value.type "set" == Value.type "list")=false by decide,show (Value.type "set" == Value.type "tuple")=false by decide,Bool.or_false,Bool.false_eq_true,if_false]
 refine wpAny_bind ((Seq2.set (A:=A.in1) (target:=.Name "x" ⟨0,0,0,0⟩) (Z:=fun b=>b=a) (H:=fun qa=>False) (s:={ s with heap:=s.heap.push (seqObj "list" #[] 0) }) (by simpa using hh) rfl hS1 (.inl rfl) (by rintro b rfl; exact ⟨_,kp1 _ _ hoa⟩)).run _ _ ?_)
 rintro h₂ tk₂ dr₂ I fp Stt ys Nw kp2 hIn hIe hNw hfp hst ⟨ks,rfl,hks⟩ W
 have kp2':Kp (s.heap.push (seqObj "list" #[] 0)) h₂:=kp2
 have hS2:SetL c h₂ a xs:=hS1.keep fun o=>kp2' a o
 have hL2:=kp2' _ _ hL1
 have hIne:s.heap.objs.size≠I:=fun e=>by
  have h0:(s.heap.push (seqObj "list" #[] 0)).get? I=none:=hIn
  rw [← e,hL1] at h0; cases h0
 have hSf:s.heap.objs.size∉fp:=fun hm=>by
  rcases hfp _ hm with h | h | h | h
  ·exact hIne h
  ·exact hSa h
  ·exact h
  ·have h0:(s.heap.push (seqObj "list" #[] 0)).get? s.heap.objs.size=none:=(hNw _ h).2.1
   rw [hL1] at h0; cases h0
 have haI:a≠I:=fun e=>by
  have h0:(s.heap.push (seqObj "list" #[] 0)).get? I=none:=hIn
  rw [← e,kp1 _ _ hoa] at h0; cases h0
 refine wpAny_bind (wpAny_holding (hint_set (s:={ s with heap:=h₂,toks:=tk₂,drawn:=dr₂ }) hS2.typeIs ?_))
 have key:∀ (R:Result→Shared→Prop) (h:Heap) (c₁ tk:Nat),Stt 0 h→(∀ b o,b≠s.heap.objs.size→h₂.get? b=some o→h.get? b=some o)→h.get? s.heap.objs.size=some (seqObj "list" #[] c₁) →
   (∀ h' tk' acc' c',Kp s.heap h'→h'.get? s.heap.objs.size=some (seqObj "list" acc' c')→StrsAre acc'.toList ks→R (.ok (.ret (.ref s.heap.objs.size))) { s with heap:=h',toks:=tk',drawn:=dr₂ }) →
   codeAny c.M A (.builtin "list.extend.loop" ⟨[.ref s.heap.objs.size,.ref I,.ref s.heap.objs.size],[]⟩) R { s with heap:=h,toks:=tk,drawn:=dr₂ }:=by
  intro R h c₁ tk hst' hk hL hR
  refine extend_strs (x:="x") (p:=⟨0,0,0,0⟩) (Z:=fun b=>b=a) (h₀:=h₂) W hSf hIne hSa (by rw [hks.length_eq]; exact hlen) (fun e=>haI e.symm) ks.length 0 { s with heap:=h,toks:=tk,drawn:=dr₂ } #[] c₁ (by omega) (Nat.zero_le _) hst' (by rintro b o rfl e; exact hk _ o hSa.symm e) hL .nil fun h' tk' acc' c' hm hL' hacc=>?_
  exact hR h' tk' acc' c' (fun b o e=>hm b o (Nat.ne_of_lt (Heap.lt_size e)) (fun e'=>by
   have h0:(s.heap.push (seqObj "list" #[] 0)).get? I=none:=hIn
   rw [← e',kp1 _ _ e] at h0; cases h0) (hk b o (Nat.ne_of_lt (Heap.lt_size e)) (kp2' _ _ (kp1 _ _ e)))) hL' hacc
 refine wpAny_ite_split (fun qa=>?_) (fun qa=>wpAny_pure ⟨plainId_quiet PySem.F.plain_extend_loop _,key _ h₂ 0 tk₂ hst (fun b o qa e=>e) hL2 fun h' tk' acc' c' hk hL' hacc=>wpAny_bind (wpAny_load hL' (wpAny_pure (h acc'.toList ks h' tk' dr₂ hacc hks hk)))⟩)
 refine wpAny_bind (wpAny_rule ?_)
 refine wpAny_bind ?_
 show wpAny _ _ (updateSeq s.heap.objs.size (·.push .none) >>= fun qa=>updateSeq s.heap.objs.size (·.pop)) _ _ _
 refine wpAny_bind (wpAny_updateSeq hL2 rfl ?_ (by simp) (by simp))
 have hL3:=Heap.get?_update_self (Obj.mapSeq (·.push Value.none)) hL2 rfl
 refine wpAny_updateSeq hL3 rfl ?_ (by simp; omega) (by simp)
 have hL4:=Heap.get?_update_self (Obj.mapSeq (·.pop)) hL3 rfl
 refine wpAny_pure ⟨plainId_quiet PySem.F.plain_extend_loop _,key _ _ _ _ ?_ (fun b o hb e=>?_) hL4 fun h' tk' acc' c' hk hL' hacc=>wpAny_bind (wpAny_load hL' (wpAny_pure (h acc'.toList ks h' tk' dr₂ hacc hks hk)))⟩
 ·refine W.frame 0 _ _ hst fun b hb o e=>?_
  have hbS:b≠s.heap.objs.size:=fun h=>hSf (h▸hb)
  exact (Heap.get?_update_other _ _ (Ne.symm hbS)).trans ((Heap.get?_update_other _ _ (Ne.symm hbS)).trans e)
 ·exact (Heap.get?_update_other _ _ (Ne.symm hb)).trans ((Heap.get?_update_other _ _ (Ne.symm hb)).trans e)
theorem sorted_set {a:Addr} {xs:List Str} {Q:Value→Shared→Prop} (hh:A.handled=none) (hS:SetL c s.heap a xs) (hlen:xs.length < 64)
  (h:∀ ss b h' tk dr,ss.Perm xs→sortedS ss=true→Kp s.heap h'→s.heap.get? b=none→(∀ Z,RdO c Z h' b (.lst (ss.map .str)))→Q (.ref b) { s with heap:=h',toks:=tk,drawn:=dr }) :
  wpAny c.M A (call (.builtin "sorted") [.ref a]) Q E s:=by
 refine Calls.call_function_entry kind_sorted plain_sorted entry_sorted (args_sorted1 _) ?_
 unfold Builtin.«sorted»
 refine wpAny_bind (m:=checkCount "sorted" 1 1 _) (wpAny_pure ?_)
 refine wpAny_bind (collect_set (by simpa using hh) hS (by omega) fun vs ks h' tk dr hvs hks hkp=>?_)
 have hvl:vs.length < 64:=by rw [Mine.StrsAre.len hvs,hks.length_eq]; exact hlen
 have hsl:sizeLine > 2000:=by decide
 refine wpAny_bind (wpAny_newList (hsz:=by omega) ?_)
 have hoL:(h'.push (seqObj "list" vs.toArray 0)).get? h'.objs.size=some (seqObj "list" vs.toArray 0):=Heap.get?_push_size _ rfl
 refine wpAny_bind (wpAny_holding (wpAny_call_entry slot_list_sort (I12 _ hoL rfl) entry_list_sort (list_sort_treeK (s:={ s with heap:=h'.push (seqObj "list" vs.toArray 0),toks:=tk,drawn:=dr }) strKind_oneLt hoL hvs.keysOf (fun v₁ v₂ rest e=>keyKind_strs (by rw [← e]; exact hvs)) hvl fun st' a1 a2=>(I12 _ rfl ?_)) (args_list_sort _)))
 refine E13 (sorted_out_str hvs a1 a2) fun ss s1 s2 s3=>?_
 obtain ⟨e,he⟩:=sortedHeap_at (out:=(arrOf st').map (·.2)) hoL
 refine wpAny_pure (I12 _ rfl (h ss h'.objs.size _ tk dr (s2.trans hks) s3 (fun b o hb=>?_) ?_ fun Z=>(I12 _ ⟨e,he⟩ (Mine.StrsAre.rd s1))))
 ·have hb':=hkp b o hb
  have hlt:=Heap.lt_size hb'
  rw [sortedHeap_old (Nat.ne_of_lt hlt) (by rw [Heap.size_push]; exact Nat.lt_succ_of_lt hlt)]
  exact Heap.get?_push_of_some _ hb'
 ·show s.heap.get? h'.objs.size=none
  cases e:s.heap.get? h'.objs.size with
  | none=>rfl
  | some o=>exact absurd (Heap.lt_size (hkp _ _ e)) (Nat.lt_irrefl _)
end
end Mine
end
noncomputable section
set_option maxRecDepth 100000
namespace Mine
open PySem PySem.SeqAt PyProof.Rows
section
variable {c:Cx} {A:Around} {E:Value→Shared→Prop} {s:Shared}
theorem hint_dict {a:Addr} {Q:Bool→Shared→Prop} (hT:s.TypeIs (.ref a) "dict") (h:Q false s):wpAny c.M A (Builtin.List.listLengthHint (.ref a)) Q E s:=by
 unfold Builtin.List.listLengthHint
 refine wpAny_bind (wpAny_specialOf hT PySem.F.slot_dict_len.lookup ?_)
 generalize hid:("dict.__len__" : String)=id0
 wp_delta
 rw [show splitId id0=some ("dict","__len__") from by subst hid; decide +kernel]
 subst hid
 refine wpAny_bind (wpAny_isInstance (T:="dict") (b:=true) hT (by rw [isSubtype_type]; kernel_rfl) ?_)
 refine wpAny_ite_split (fun hab=>absurd hab (by decide)) (fun qa=>?_)
 refine wpAny_ite_split (fun qa=>?_) (fun hab=>absurd (by decide +kernel) hab)
 refine wpAny_bind (wpAny_typeOf hT ?_)
 exact wpAny_pure h
theorem extend_keys {R:Result→Shared→Prop} {S d:Addr} {kvs:List (Str×Value)} {ep c₀:Nat} {res:Value} (hA:A.handled=none) (hs:(d == sysModules)=false) (hd:s.heap.DictAt c.K d kvs ep) (hSd:S≠d) (hS:s.heap.get? S=some (seqObj "list" #[] c₀)) (hl:kvs.length≤1000)
  (hR:∀ h' tk dr acc c',(∀ b o,b≠S→s.heap.get? b=some o→h'.get? b=some o)→h'.get? S=some (seqObj "list" acc c')→StrsAre acc.toList (kvs.map (·.1))→R (.ok (.ret res)) { s with heap:=h',toks:=tk,drawn:=dr }) :
  wpAny c.M A.in1 (Builtin.List.listExtendWith (.ref S) (.ref d) res) (fun fin s'=>match fin with | .done f=>R (.ok f) s' | .again c'=>c'.quiet=true∧codeAny c.M A c' R s') (fun e s'=>R (.error e) s') s:=by
 have hsl:sizeLine > 2000:=by decide
 have hT:s.TypeIs (.ref d) "dict" := hd.dictOf.typeIs
 refine E22 (id hd) fun od es hod qa=>?_
 unfold Builtin.List.listExtendWith
 refine wpAny_bind (wpAny_typeOf (T:="dict") hT ?_)
 have e1:Builtin.List.listSameRef (.ref S) (.ref d)=false:=by simp [Builtin.List.listSameRef,hSd]
 simp only [e1,show (Value.type "dict" == Value.type "list")=false by decide,show (Value.type "dict" == Value.type "tuple")=false by decide,Bool.or_false,Bool.false_eq_true,if_false]
 refine wpAny_bind ((SeqO.keys (c:=c) (A:=A.in1) (target:=.Name "x" ⟨0,0,0,0⟩) (Z:=fun b=>b=d) (H:=fun qa=>False) (by simpa using hA) rfl hs hd (.inl rfl) (by rintro b rfl; exact ⟨_,hod⟩)).run _ _ ?_)
 intro h₂ tk₂ dr₂ I fp Stt kp2 hIn hIe hfp hst W
 have hS2:=kp2 _ _ hS
 have hSI:S≠I:=fun e=>by rw [← e,hS] at hIn; cases hIn
 have hdI:d≠I:=fun e=>by rw [← e,hod] at hIn; cases hIn
 have hSf:S∉fp:=fun hm=>by
  rcases hfp _ hm with h | h | h
  ·exact hSI h
  ·exact hSd h
  ·exact h
 have hd2:h₂.DictAt c.K d kvs ep:=hd.keep kp2
 refine wpAny_bind (wpAny_holding (hint_dict (s:={ s with heap:=h₂,toks:=tk₂,drawn:=dr₂ }) hd2.dictOf.typeIs ?_))
 have ek:(kvs.map fun e=>V.str e.1)=(kvs.map (·.1)).map V.str:=by rw [List.map_map]; rfl
 rw [ek] at W
 have key:∀ (h:Heap) (c₁ tk:Nat),Stt 0 h→(∀ b o,b≠S→h₂.get? b=some o→h.get? b=some o)→h.get? S=some (seqObj "list" #[] c₁)→codeAny c.M A (.builtin "list.extend.loop" ⟨[.ref S,.ref I,res],[]⟩) R { s with heap:=h,toks:=tk,drawn:=dr₂ }:=by
  intro h c₁ tk hst' hk hL
  refine extend_strs (x:="x") (p:=⟨0,0,0,0⟩) (Z:=fun b=>b=d) (h₀:=h₂) W hSf hSI hSd (by rw [List.length_map]; exact hl) (fun e=>hdI e.symm) (kvs.map (·.1)).length 0 { s with heap:=h,toks:=tk,drawn:=dr₂ } #[] c₁ (by omega) (Nat.zero_le _) hst' (by rintro b o rfl e; exact hk _ o hSd.symm e) hL .nil fun h' tk' acc' c' hm hL' hacc=>?_
  exact hR h' tk' dr₂ acc' c' (fun b o hb e=>hm b o hb (fun e'=>by rw [← e',e] at hIn; cases hIn) (hk b o hb (kp2 _ _ e))) hL' hacc
 refine wpAny_ite_split (fun qa=>?_) (fun qa=>wpAny_pure ⟨plainId_quiet PySem.F.plain_extend_loop _,key h₂ c₀ tk₂ hst (fun b o qa e=>e) hS2⟩)
 refine wpAny_bind (wpAny_rule ?_)
 refine wpAny_bind ?_
 show wpAny _ _ (updateSeq S (·.push .none) >>= fun qa=>updateSeq S (·.pop)) _ _ _
 refine wpAny_bind (wpAny_updateSeq hS2 rfl ?_ (by simp) (by simp))
 have hL3:=Heap.get?_update_self (Obj.mapSeq (·.push Value.none)) hS2 rfl
 refine wpAny_updateSeq hL3 rfl ?_ (by simp; omega) (by simp)
 have hL4:=Heap.get?_update_self (Obj.mapSeq (·.pop)) hL3 rfl
 refine wpAny_pure ⟨plainId_quiet PySem.F.plain_extend_loop _,key _ _ _ ?_ (fun b o hb e=>?_) hL4⟩
 ·refine W.frame 0 _ _ hst fun b hb o e=>?_
  have hbS:b≠S:=fun h=>hSf (h▸hb)
  exact (Heap.get?_update_other _ _ (Ne.symm hbS)).trans ((Heap.get?_update_other _ _ (Ne.symm hbS)).trans e)
 ·exact (Heap.get?_update_other _ _ (Ne.symm hb)).trans ((Heap.get?_update_other _ _ (Ne.symm hb)).trans e)
theorem f_list_odct {hp:List (Addr×O)} {d:Addr} {es:List (Str×V)} (hd:(d,O.dct es)∈hp) (hl:es.length≤1000):FCall c A hp (.type "list") [.ref d] (.lst (es.map fun e=>.str e.1)):=by
 intro hA Z P s vs hZ H r Q E hQ
 refine RdL.one_elim r fun v r1=>?_
 cases r1
 refine E24 ((H.obj d _ hd).1) fun kvs ep hs h1 h2 qa=>?_
 have hlen:kvs.length=es.length:=by simpa using congrArg List.length h2
 refine callType_codes (Q₁:=fun obj s₁=>obj=.ref s.heap.objs.size∧s₁={ s with heap:=s.heap.push { cls:=.type "list", data:=.seq #[] } }) PySem.F.called_list (PySem.F.typeCall_list_1 _) PySem.F.entry_list_init (code_list_new _ ⟨rfl,rfl⟩) fun obj s₁ e=>?_
 obtain ⟨rfl,rfl⟩:=e
 have kp1:Kp s.heap (s.heap.push { cls:=.type "list", data:=.seq #[] }):=Kp.push _ _
 have hS:(s.heap.push { cls:=.type "list", data:=.seq #[] }).get? s.heap.objs.size=some (seqObj "list" #[] 0):=Heap.get?_push_size _ rfl
 have hSd:s.heap.objs.size≠d:=Nat.ne_of_gt h1.lt_size
 refine (I03 (I12 _ hS rfl) (PySem.F.args_list_init_2 _ _) ?_)
 show wpAny _ _ (do let old ← Builtin.List.listItems (.ref s.heap.objs.size); Builtin.List.listUpdate (.ref s.heap.objs.size) (fun qa=>#[]); letGo old.toList.reverse; Builtin.List.listExtendWith (.ref s.heap.objs.size) (.ref d) .none) _ _ _
 refine wpAny_bind ?_
 unfold Builtin.List.listItems
 refine wpAny_bind (wpAny_seqItems hS rfl (wpAny_pure ?_))
 show wpAny _ _ (updateSeq s.heap.objs.size (fun qa=>#[]) >>= fun qa=>letGo (#[]:Array Value).toList.reverse >>= fun qa=>Builtin.List.listExtendWith (.ref s.heap.objs.size) (.ref d) .none) _ _ _
 refine wpAny_bind (wpAny_updateSeq hS rfl ?_ (by simp) (by simp))
 have hS2:=Heap.get?_update_self (Obj.mapSeq (fun qa=>(#[]:Array Value))) hS rfl
 have oth:∀ b o,b≠s.heap.objs.size→s.heap.get? b=some o→((s.heap.push { cls:=.type "list", data:=.seq #[] }).update s.heap.objs.size (Obj.mapSeq (fun qa=>(#[]:Array Value)))).get? b=some o:=fun b o hb e=>(Heap.get?_update_other _ _ (Ne.symm hb)).trans (kp1 b o e)
 refine wpAny_bind (wpAny_letGo ?_)
 refine extend_keys (c:=c) hA.handled hs (h1.keep fun b o e=>oth b o (Nat.ne_of_lt (Heap.lt_size e)) e) hSd hS2 (by omega) fun h' tk dr acc c' hk hL hacc=>?_
 refine ⟨rfl,hQ _ h' tk dr (fun b o e=>hk b o (Nat.ne_of_lt (Heap.lt_size e)) (oth b o (Nat.ne_of_lt (Heap.lt_size e)) e)) (fresh_none _ _ (Nat.le_refl _)) (I12 acc ⟨c',hL⟩ ?_)⟩
 have e2:(es.map fun e=>V.str e.1)=(kvs.map (·.1)).map V.str:=by rw [h2,List.map_map]; rfl
 rw [e2]
 exact StrsAre.rd hacc
end
end Mine
end
noncomputable section
namespace Mine
open PySem PySem.SeqAt
section
variable {c:Cx} {A:Around} {env:Env} {σ:St}
theorem WP.freeze {α β:Type} {t:Sem α} {Rr:(Addr→Prop)→Heap→β→α→Prop} {k:β→St→Prop} {d:Addr} {o:O} {X:V} {τ:St} (hd:(d,o)∈σ.hp) (hX:o.frz=some X) (hloc:τ.loc=σ.loc)
  (hhp:∀ b ob,(b,ob)∈τ.hp→(b,ob)∈σ.hp∨∃ es nm,ob=.ns (setL es nm X)∧(b,O.ns es)∈σ.hp∧es.lookup nm=some (.ref d))
  (hnd:(σ.hp.map (·.1)).Nodup→(τ.hp.map (·.1)).Nodup∧∀ ob,(d,ob)∉τ.hp) (h:WP c A env τ t Rr k):WP c A env σ t Rr k:=by
 refine WP.mk fun hA Z P s R=>?_
 obtain ⟨n1,n2⟩:=hnd R.hp.nodup
 have hD:=R.hp.obj d o hd
 have R1:Rel c Z P env ⟨σ.loc,[]⟩ s.heap:=R.le (I03 (fun x X e=>e) (fun b ob hb=>(by cases hb)) (fun qa=>by simp))
 have R2:=R1.freeze (N:=fun b=>b=d) (by rintro b rfl; exact (I04 (hD.1.some) (hD.2.2) (R.hpOff _ o hd) (fun o ho=>by cases ho)))
 have rX:Rd c (fun b=>Z b∨b=d) s.heap X (.ref d):=hD.1.frz hX
 have R3:Rel c (fun b=>Z b∨b=d) P env τ s.heap:={ R2 with
  vars:=fun x Y e=>R2.vars x Y (by rw [← hloc]; exact e)
  hp:=⟨fun b ob hb=>by
   have hbd:b≠d:=fun e=>n2 ob (e▸hb)
   rcases hhp b ob hb with h1 | ⟨es,nm,rfl,h1,h2⟩
   ·have:=R.hp.obj b ob h1
    exact (I03 (this.1.keep (fun qa z=>.inl z) (fun qa qb qc e=>e) (fun qa e=>e)) (fun z=>z.elim this.2.1 hbd) (this.2.2))
   ·have:=R.hp.obj b _ h1
    refine E13 (this.1) fun mA m1 m2 m3=>?_
    refine (I03 (I13 mA m1 (fun y hy=>?_) (fun y Y hy=>?_)) (fun z=>z.elim this.2.1 hbd) (this.2.2))
    ·rw [lookup_setL] at hy
     by_cases e:y=nm
     ·simp [e] at hy
     ·simp only [if_neg e] at hy; exact m2 y hy
    ·rw [lookup_setL] at hy
     by_cases e:y=nm
     ·simp only [if_pos e,Option.some.injEq] at hy
      subst hy; subst e
      refine E12 (m3 y _ h2) fun v hv rv=>?_
      cases rv
      exact (I12 _ hv rX)
     ·simp only [if_neg e] at hy
      refine E12 (m3 y Y hy) fun v hv rv=>?_
      exact (I12 v hv (rv.more fun qa z=>.inl z)),n1⟩
  hpOff:=fun b ob hb=>by
   rcases hhp b ob hb with h1 | ⟨es,nm,rfl,h1,h2⟩
   ·exact R.hpOff b ob h1
   ·exact R.hpOff b _ h1 }
 exact wpAny_mono (h.run hA _ P s R3) (fun qa qb f=>Fin.after (Step.freeze (P:=P)) f) fun qa qb x=>x
end
end Mine
end
noncomputable section
namespace Mine
open PySem PySem.SeqAt PyProof.Rows
section
variable {c:Cx} {A:Around} {env:Env} {σ:St}
theorem wE_SortedSet {fpos pos:Pos} {e:Expr} {k:V→St→Prop} (hm:c.mg "sorted" = none) (hk:env.kindOf "sorted" = some .globalImplicit)
  (h:WE c A env σ e fun X σ₁=>∃ a xs,X=.ref a∧(a,O.set xs)∈σ₁.hp∧xs.length < 64∧∀ ss,ss.Perm xs→sortedS ss=true→k (.lst (ss.map .str)) σ₁)
  (he:starEach [e] env=[(false,eval e env)]:=by rfl):WE c A env σ (.Call (.Name "sorted" fpos) [e] [] pos) k:=by
 refine WP.mk fun hA Z P s R=>?_
 show wpAny _ _ (do callWith pos (← eval (.Name "sorted" fpos) env) [] (backTo pos (starEach [e] env)) (backToKw pos (keywordEach [] env))) _ _ s
 refine wpAny_bind (load_builtin R hm rfl (by decide) hk ?_ (by decide))
 have h':WEs c A env σ pos [e] fun Xs σ₁=>∃ a xs,Xs=[.ref a]∧(a,O.set xs)∈σ₁.hp∧xs.length < 64∧∀ ss,ss.Perm xs→sortedS ss=true→k (.lst (ss.map .str)) σ₁:=by
  refine wEs_cons (WP.imp h ?_) he
  refine fun X σ₁=>R22 fun a xs z2 r=>?_; subst z2
  exact wEs_nil (I22 a xs rfl r)
 refine callWith_plain (.blt _) (wp_then h' hA R fun Z₁ s₁ Xs σ₁ vs S₁ R₁ r₁ kk=>?_) he rfl
 refine E24 kk fun a xs z2 ha hlen hk=>?_; clear kk; subst z2
 refine RdL.one_elim r₁ fun v r2=>?_
 first | refine Rd.int_elim r2 fun qa=>?_ | refine Rd.ref_elim r2 ?_ | refine Rd.str_elim r2 fun qa=>?_ | refine Rd.bool_elim r2 ?_ | refine Rd.typ_elim r2 ?_ | cases r2
 refine sorted_set (s:=s₁) hA.handled (R₁.hp.obj a _ ha).1 hlen fun ss b h' tk dr hp hs hkp hn ho=>?_
 have hkp':Kp s₁.heap h':=hkp
 have hN:∀ bb,bb=b→s₁.heap.get? bb=none∧∃ o,h'.get? bb=some o:=by rintro bb rfl; exact ⟨hn,(ho Z₁).some⟩
 exact (fin_mk (S₁.trans (Step.new hkp' _)) (R₁.new hkp' hN) ((ho Z₁).frz rfl) (hk ss hp hs))
theorem wE_SortedLst {fpos pos:Pos} {e:Expr} {k:V→St→Prop} (hm:c.mg "sorted" = none) (hk:env.kindOf "sorted" = some .globalImplicit)
  (h:WE c A env σ e fun X σ₁=>∃ xs:List Str,X=.lst (xs.map .str)∧xs.length < 64∧∀ ss,ss.Perm xs→sortedS ss=true→k (.lst (ss.map .str)) σ₁)
  (he:starEach [e] env=[(false,eval e env)]:=by rfl):WE c A env σ (.Call (.Name "sorted" fpos) [e] [] pos) k:=by
 refine WP.mk fun hA Z P s R=>?_
 show wpAny _ _ (do callWith pos (← eval (.Name "sorted" fpos) env) [] (backTo pos (starEach [e] env)) (backToKw pos (keywordEach [] env))) _ _ s
 refine wpAny_bind (load_builtin R hm rfl (by decide) hk ?_ (by decide))
 have h':WEs c A env σ pos [e] fun Xs σ₁=>∃ xs:List Str,Xs=[.lst (xs.map .str)]∧xs.length < 64∧∀ ss,ss.Perm xs→sortedS ss=true→k (.lst (ss.map .str)) σ₁:=by
  refine wEs_cons (WP.imp h ?_) he
  refine fun X σ₁=>R12 fun xs z1 r=>?_; subst z1
  exact wEs_nil (I12 xs rfl r)
 refine callWith_plain (.blt _) (wp_then h' hA R fun Z₁ s₁ Xs σ₁ vs S₁ R₁ r₁ kk=>?_) he rfl
 refine E13 kk fun xs z1 hlen hk=>?_; clear kk; subst z1
 refine f_sorted_lst (hp:=σ₁.hp) hlen hA Z₁ P s₁ vs ⟨R₁.inv.sys,R₁.inv.exZ⟩ R₁.hp r₁ _ _ fun ss b h' tk dr hp hs hkp hn ho=>?_
 have hkp':Kp s₁.heap h':=hkp
 have hN:∀ bb,bb=b→s₁.heap.get? bb=none∧∃ o,h'.get? bb=some o:=by rintro bb rfl; exact ⟨hn,ho.some⟩
 exact (fin_mk (S₁.trans (Step.new hkp' _)) (R₁.new hkp' hN) (ho.frz rfl) (hk ss hp hs))
theorem WSs.freeze {sts:List Stmt} {k:FV→St→Prop} {d:Addr} {o:O} {X:V} {τ:St} (hd:(d,o)∈σ.hp) (hX:o.frz=some X) (hloc:τ.loc=σ.loc)
  (hhp:∀ b ob,(b,ob)∈τ.hp→(b,ob)∈σ.hp∨∃ es nm,ob=.ns (setL es nm X)∧(b,O.ns es)∈σ.hp∧es.lookup nm=some (.ref d))
  (hnd:(σ.hp.map (·.1)).Nodup→(τ.hp.map (·.1)).Nodup∧∀ ob,(d,ob)∉τ.hp) (h:WSs c A env τ sts k):WSs c A env σ sts k:=WP.freeze hd hX hloc hhp hnd h
end
end Mine
end
noncomputable section
namespace Mine
open PySem PySem.SeqAt PyProof.Rows
section
variable {c:Cx} {A:Around} {hp:List (Addr×O)}
noncomputable def pick {α:Type} (l:List α) (d:α) (i:Int):α:=l.getD (i.fmod l.length).toNat d
theorem pick_mem {α:Type} {l:List α} {d:α} {i:Int} (h:0 < l.length):pick l d i∈l:=by
 unfold pick
 have h1:0≤i.fmod l.length:=Int.fmod_nonneg_of_pos i (Int.ofNat_lt.mpr h)
 have h2:i.fmod l.length < l.length:=Int.fmod_lt_of_pos i (Int.ofNat_lt.mpr h)
 have h3:(i.fmod l.length).toNat < l.length:=(Int.toNat_lt h1).mpr h2
 rw [List.getD_eq_getElem?_getD,List.getElem?_eq_getElem h3]
 exact List.getElem_mem h3
theorem item_pick {α:Type} (l:List α) (d:α) (f:α→V) {i m:Int} (hm:m=l.length) (h:0 < l.length) (hs:l.length < 1000):ItemV c A hp (.tup (l.map f)) (.int (i.fmod m)) (f (pick l d i)):=by
 subst hm
 have h1:0≤i.fmod l.length:=Int.fmod_nonneg_of_pos i (Int.ofNat_lt.mpr h)
 have h2:i.fmod l.length < l.length:=Int.fmod_lt_of_pos i (Int.ofNat_lt.mpr h)
 have h3:(i.fmod l.length).toNat < l.length:=(Int.toNat_lt h1).mpr h2
 refine item_tup h1 (Int.lt_trans h2 (Int.lt_of_lt_of_le (Int.ofNat_lt.mpr hs) (by decide))) ?_
 unfold pick
 rw [List.getD_eq_getElem?_getD,List.getElem?_map,List.getElem?_eq_getElem h3]; rfl
end
end Mine
end
noncomputable section
namespace Mine
open PySem PySem.SeqAt PyProof.Rows
noncomputable def Inj {α:Type} (f:α→V):Prop:=∀ a b,f a=f b→a=b
theorem inj_str:Inj V.str:=fun a b h=>V.str.inj h
theorem map_inj {α:Type} {f:α→V} (hf:Inj f):∀ {l l':List α},l.map f=l'.map f→l=l'
 | [],[],_=>rfl
 | [],_::_,h=>by simp at h
 | _::_,[],h=>by simp at h
 | a::l,b::l',h=>by
  simp only [List.map_cons,List.cons.injEq] at h
  rw [hf a b h.1,map_inj hf h.2]
theorem inj_pair:Inj fun p:Str×Str=>V.tup [.str p.1,.str p.2]:=fun a b h=>by
 simp only [V.tup.injEq,List.cons.injEq,V.str.injEq,and_true] at h
 exact Prod.ext h.1 h.2
theorem inj_rt:Inj Rt.v:=fun a b h=>by
 unfold Rt.v at h
 simp only [V.tup.injEq,List.cons.injEq,V.str.injEq,V.lst.injEq,and_true] at h
 refine E05 h fun h1 h2 h3 h4 h5=>?_; clear h
 have h3':=map_inj inj_str h3
 have h4':a.nd=b.nd:=by
  have e:∀ l:List (Str×Str),prs l=l.map fun p=>V.tup [.str p.1,.str p.2]:=fun l=>by simp [prs,RdPairs]
  rw [e,e] at h4
  exact map_inj inj_pair h4
 cases a; cases b; simp_all
open Classical in
theorem fn_of {α:Type} {f:α→V} (hf:Inj f) (G:α→List V):∃ g:V→List V,∀ a,g (f a)=G a:=by
 refine ⟨fun X=>if h:∃ a,f a=X then G (Classical.choose h) else [],fun a=>?_⟩
 have h:∃ b,f b=f a:=⟨a,rfl⟩
 simp only [dif_pos h]
 rw [hf _ _ (Classical.choose_spec h)]
theorem flat_fn {α:Type} {f:α→V} {g:V→List V} {G:α→List V} (h:∀ a,g (f a)=G a) (l:List α):(l.map f).flatMap g=l.flatMap G:=by
 induction l with
 | nil=>rfl
 | cons a l ih=>simp only [List.map_cons,List.flatMap_cons,h,ih]
section
variable {c:Cx} {A:Around} {env:Env} {σ:St}
theorem wE_CompG {α:Type} {f:α→V} {elt target iter:Expr} {ifs:List Expr} {scope:Scope} {pos:Pos} {k:V→St→Prop} (hf:Inj f) (OK:CompOk scope env)
  (h:CompSrc c A env σ target iter fun xs σ₁=>∃ (l:List α) (G:α→List V),xs=l.map f∧(l.flatMap G).length≤sizeLine∧(∀ C,∀ a∈l,Turn1 c A (cenvOf scope env C) ⟨capsOf scope σ₁.loc,σ₁.hp⟩ target ifs elt (f a) (G a))∧k (.lst (l.flatMap G)) σ₁)
  (hs:∀ x,foldedSetIterable iter env x=pure x:=by intro _; rfl):WE c A env σ (.ListComp elt [⟨target,iter,ifs,0⟩] scope pos) k:=by
 refine wE_Comp1 OK ?_ hs
 refine WP.imp h ?_
 refine fun X σ₁=>R12 fun xs h1 y0=>E24 y0 fun l G z4 h2 h3 h4=>?_; subst z4
 obtain ⟨g,hg⟩:=fn_of hf G
 refine (I12 _ h1 (I13 g (by rw [flat_fn hg]; exact h2) (fun C X hX=>?_) (by rw [flat_fn hg]; exact h4)))
 refine E12 (List.mem_map.mp hX) fun a ha z2=>?_; subst z2
 rw [hg]; exact h3 C a ha
theorem wS_AssignCompG {α:Type} {f:α→V} {elt t target iter:Expr} {ifs:List Expr} {scope:Scope} {pos spos:Pos} {k:FV→St→Prop} (hf:Inj f) (OK:CompOk scope env)
  (h:CompSrc c A env σ target iter fun xs σ₁=>∃ (l:List α) (G:α→List V),xs=l.map f∧(l.flatMap G).length≤sizeLine∧(∀ C,∀ a∈l,Turn1 c A (cenvOf scope env C) ⟨capsOf scope σ₁.loc,σ₁.hp⟩ target ifs elt (f a) (G a))∧WA c A env σ₁ t (.lst (l.flatMap G)) fun σ₂=>k .next σ₂)
  (hs:∀ x,foldedSetIterable iter env x=pure x:=by intro _; rfl) (hsw:swapsWith (.ListComp elt [⟨target,iter,ifs,0⟩] scope pos) (some t) spos.line env=pure true:=by rfl)
  (hte:(assignEach [t] env).map (·.2)=[assign t env]:=by rfl):WS c A env σ (.Assign [t] (.ListComp elt [⟨target,iter,ifs,0⟩] scope pos) spos) k:=by
 refine wS_AssignComp1 OK ?_ hs hsw hte
 refine WP.imp h ?_
 refine fun X σ₁=>R12 fun xs h1 y0=>E24 y0 fun l G z4 h2 h3 h4=>?_; subst z4
 obtain ⟨g,hg⟩:=fn_of hf G
 refine (I12 _ h1 (I13 g (by rw [flat_fn hg]; exact h2) (fun C X hX=>?_) (by rw [flat_fn hg]; exact h4)))
 refine E12 (List.mem_map.mp hX) fun a ha z2=>?_; subst z2
 rw [hg]; exact h3 C a ha
end
end Mine
end
noncomputable section
namespace Mine
open PySem PySem.SeqAt PyProof.Rows
section
variable {c:Cx} {A:Around} {env:Env} {σ:St}
theorem wE_CompG2 {α:Type} {f:α→V} {elt target iter target' iter':Expr} {ifs ifs':List Expr} {scope:Scope} {pos:Pos} {k:V→St→Prop} (hf:Inj f) (OK:CompOk scope env) (hfn:env.scope.kind=.function)
  (h:CompSrc c A env σ target iter fun xs σ₁=>∃ (l:List α) (G:α→List V),xs=l.map f∧(l.flatMap G).length≤sizeLine∧(∀ C,∀ a∈l,Turn2 c A (cenvOf scope env C) ⟨capsOf scope σ₁.loc,σ₁.hp⟩ target ifs target' iter' ifs' elt (f a) (G a))∧k (.lst (l.flatMap G)) σ₁)
  (hs:∀ x,foldedSetIterable iter env x=pure x:=by intro _; rfl) (hs':∀ C x,foldedSetIterable iter' (cenvOf scope env C) x=pure x:=by intro _ _; rfl) :
  WE c A env σ (.ListComp elt [⟨target,iter,ifs,0⟩,⟨target',iter',ifs',0⟩] scope pos) k:=by
 refine wE_Comp2 OK hfn ?_ hs hs'
 refine WP.imp h ?_
 refine fun X σ₁=>R12 fun xs h1 y0=>E24 y0 fun l G z4 h2 h3 h4=>?_; subst z4
 obtain ⟨g,hg⟩:=fn_of hf G
 refine (I12 _ h1 (I13 g (by rw [flat_fn hg]; exact h2) (fun C X hX=>?_) (by rw [flat_fn hg]; exact h4)))
 refine E12 (List.mem_map.mp hX) fun a ha z2=>?_; subst z2
 rw [hg]; exact h3 C a ha
theorem Turn2.of {β:Type} {f':β→V} (hf':Inj f') {cenv:Env} {σc:St} {target target' iter' elt:Expr} {ifs ifs':List Expr} {X:V} {ys:List V}
  (h:∀ D zs,WA c A cenv (σc.acc D zs) target X fun σ₂=>WTs c A cenv σ₂ ifs true fun ok σ₃=>if ok then CompSrc c A cenv σ₃ target' iter' fun xs' σ₄=>∃ (τ:St) (l':List β) (G':β→List V),xs'=l'.map f'∧σ₄.le (τ.acc D zs)∧ys=l'.flatMap G' ∧
    (∀ x X,σc.loc.lookup x=some X→τ.loc.lookup x=some X)∧τ.hp=σc.hp∧∀ b∈l',Turn1 c A cenv τ target' ifs' elt (f' b) (G' b)
   else σ₃.le (σc.acc D zs)∧ys=[]):Turn2 c A cenv σc target ifs target' iter' ifs' elt X ys:=by
 intro D zs
 refine WA.imp (h D zs) fun σ₂ h₂=>WP.imp h₂ fun ok σ₃ h₃=>?_
 cases ok with
 | false=>exact h₃
 | true =>
  refine WP.imp h₃ ?_
  refine fun X' σ₄=>R12 fun xs' s1 y0=>E36 y0 fun τ l' G' z5 h4 h5 h6 h7 h8=>?_; subst z5
  obtain ⟨g,hg⟩:=fn_of hf' G'
  refine (I12 _ s1 (I25 τ g h4 (by rw [flat_fn hg]; exact h5) h6 h7 (fun Y hY=>?_)))
  refine E12 (List.mem_map.mp hY) fun b hb z2=>?_; subst z2
  rw [hg]; exact h8 b hb
end
end Mine
end
noncomputable section
namespace Mine
open PySem PySem.SeqAt PyProof.Rows
theorem sz10 {α:Type} {l:List α} (h:l.length≤10):l.length≤sizeLine:=Nat.le_trans h (by decide)
theorem szl:(10:Nat)≤sizeLine:=by decide
theorem sz1 {a:V}:[a].length≤sizeLine:=Nat.le_trans (by simp) szl
end Mine
end
noncomputable section
set_option maxRecDepth 100000
namespace Mine
open PySem PySem.SeqAt PyProof.Rows
section
variable {c:Cx} {A:Around} {env:Env} {σ:St}
theorem wE_at {x:Str} {p₁ p₂ p₃:Pos} {n:Nat} {i:Int} {Xs:List V} {X:V} {k:V→St→Prop} (hx:σ.loc.lookup x=some (.tup Xs)) (hi:Xs[i.toNat]?=some X) (h:k X σ) (h0:0≤i:=by decide) (h1:i < 2 ^ 62:=by decide)
  (hd:(x == ("__debug__" : Str))=false:=by decide) (hn:(x == ("__classdict__" : Str))=false:=by decide):WE c A env σ (.Subscript (.Name x p₁) (.Constant (.int i) n p₂) p₃) k :=
 wE_Sub (wE_Name hx (wE_int (I12 X (item_tup h0 h1 hi) h)) hd hn)
theorem wSs_If {t:Expr} {b o:List Stmt} {pos:Pos} {rest:List Stmt} {k:FV→St→Prop} (h:WT c A env σ t fun x σ₁=>if x then WSs c A env σ₁ b (thenS c A env rest k) else WSs c A env σ₁ o (thenS c A env rest k)):WSs c A env σ (.If t b o pos::rest) k:=wSs_cons (wS_If h)
theorem wSs_Ret {e:Expr} {pos:Pos} {rest:List Stmt} {k:FV→St→Prop} (h:WE c A env σ e fun X σ₁=>k (.ret X) σ₁):WSs c A env σ (.Return (some e) pos::rest) k:=wSs_cons (wS_Return h)
theorem wSs_Set {x:Str} {value:Expr} {xp pos:Pos} {rest:List Stmt} {k:FV→St→Prop} (hk:env.kindOf x=some .local∨env.kindOf x=some .cell) (h:WE c A env σ value fun X σ₁=>WSs c A env (σ₁.set x X) rest k)
  (hs:swapsWith value (some (.Name x xp)) pos.line env=pure false:=by rfl) (hsw:swappedStores [.Name x xp] value env=pure none:=by rfl) (hte:(assignEach [.Name x xp] env).map (·.2)=[assign (.Name x xp) env]:=by rfl) :
  WSs c A env σ (.Assign [.Name x xp] value pos::rest) k:=wSs_cons (wS_Assign (WP.imp h fun qa qb h=>wA_Name hk h) hs hsw hte)
theorem wE_SA {C N:Addr} {mN:Str→Option Value} {o name:Str} {p pos:Pos} {x d:Addr} {es:List (Str×V)} {Y:V} {k:V→St→Prop} (K:ClsOk c C N mN) (hn:mN name=none) (hB:typeLookup (.type "object") name=pure none)
  (hx:σ.loc.lookup o=some (.ref x)) (h1:(x,O.inst C d)∈σ.hp) (h2:(d,O.ns es)∈σ.hp) (h3:es.lookup name=some Y) (h:k Y σ) (hd:(o == ("__debug__" : Str))=false:=by decide) (hn':(o == ("__classdict__" : Str))=false:=by decide) :
  WE c A env σ (.Attribute (.Name o p) name pos) k:=wE_Attr K hn hB (wE_Name hx (I45 x d es Y rfl h1 h2 h3 h) hd hn')
theorem wE_PureF {f:Str} {fpos pos:Pos} {e:Expr} {es:List Expr} {a:Addr} {D:DefD} {k:V→St→Prop} (hf:c.mg f=some (.ref a)) (F:IsFn c a D) (hk:env.kindOf f=some .globalImplicit)
  (h:WEs c A env σ pos (e::es) fun Xs σ₁=>∃ n r,Rm n A∧Pure c n a Xs r∧k r σ₁)
  (hd:(f == ("__debug__" : Str))=false:=by decide) (he:starEach (e::es) env=(false,eval e env)::starEach es env:=by rfl):WE c A env σ (.Call (.Name f fpos) (e::es) [] pos) k:=by
 refine E51 F fun qa qb qc qd qe M=>?_; clear F
 exact wE_Pure hf M.fn hk h hd he
theorem wE_CallD {f:Str} {fpos pos:Pos} {e:Expr} {es:List Expr} {a:Addr} {D:DefD} {k:V→St→Prop} (hf:c.mg f=some (.ref a)) (F:IsFn c a D) (hk:env.kindOf f=some .globalImplicit)
  (h:WEs c A env σ pos (e::es) fun Xs σ₁=>∃ n H rest post,Rm n A∧σ₁.hp.Perm (H++rest)∧CallSpec c n a H Xs post∧∀ X H',post X H'→k X ⟨σ₁.loc,H'++rest⟩)
  (hd:(f == ("__debug__" : Str))=false:=by decide) (he:starEach (e::es) env=(false,eval e env)::starEach es env:=by rfl):WE c A env σ (.Call (.Name f fpos) (e::es) [] pos) k:=by
 refine E51 F fun qa qb qc qd qe M=>?_; clear F
 exact wE_Call hf M.fn hk h hd he
end
theorem list_s {α:Type} {n:Nat} {vs:List α} (h:vs.length=n + 1):∃ x t,vs=x::t∧t.length=n:=by
 cases vs with
 | nil=>cases h
 | cons x t=>exact I22 x t rfl (Nat.succ.inj h)
theorem list1 {α:Type} {vs:List α} (h:vs.length=1):∃ x,vs=[x]:=E22 (list_s h) fun x qa e h1=>⟨x,e.trans (congrArg (x::·) (List.length_eq_zero_iff.mp h1))⟩
theorem list2 {α:Type} {vs:List α} (h:vs.length=2):∃ x y,vs=[x,y]:=E22 (list_s h) fun x qa e h1=>E11 (list1 h1) fun y e1=>I21 x y (e.trans (congrArg (x::·) e1))
theorem list3 {α:Type} {vs:List α} (h:vs.length=3):∃ x y z,vs=[x,y,z]:=E22 (list_s h) fun x qa e h1=>E21 (list2 h1) fun y z e1=>I31 x y z (e.trans (congrArg (x::·) e1))
theorem list4 {α:Type} {vs:List α} (h:vs.length=4):∃ x y z w,vs=[x,y,z,w]:=E22 (list_s h) fun x qa e h1=>E31 (list3 h1) fun y z w e1=>I41 x y z w (e.trans (congrArg (x::·) e1))
theorem list5 {α:Type} {vs:List α} (h:vs.length=5):∃ x y z w v,vs=[x,y,z,w,v]:=E22 (list_s h) fun x qa e h1=>E41 (list4 h1) fun y z w v e1=>⟨x,y,z,w,v,e.trans (congrArg (x::·) e1)⟩
end Mine
end
noncomputable section
namespace Mine
open PySem PySem.SeqAt PyProof.Rows
structure EV (c:Cx) (A:Around) (env:Env) (σ:St) (e:Expr) (X:V):Prop where
 run:∀ k:V→St→Prop,k X σ→WE c A env σ e k
structure EVs (c:Cx) (A:Around) (env:Env) (σ:St) (pos:Pos) (es:List Expr) (Xs:List V):Prop where
 run:∀ k:List V→St→Prop,k Xs σ→WEs c A env σ pos es k
structure TP (c:Cx) (A:Around) (env:Env) (σ:St) (e:Expr) (P:Prop):Prop where
 run:∀ k:Bool→St→Prop,(∀ b,(b=true↔P)→k b σ)→WT c A env σ e k
structure TA (c:Cx) (A:Around) (env:Env) (σ:St) (op:BoolOp) (es:List Expr) (P:Prop):Prop where
 run:∀ k:Bool→St→Prop,(∀ b,(b=true↔P)→k b σ)→WAll c A env σ op es k
structure AV (c:Cx) (A:Around) (env:Env) (σ:St) (t:Expr) (X:V) (τ:St):Prop where
 run:∀ k:St→Prop,k τ→WA c A env σ t X k
structure AVs (c:Cx) (A:Around) (env:Env) (σ:St) (ts:List Expr) (Xs:List V) (τ:St):Prop where
 run:∀ k:St→Prop,k τ→WAs c A env σ ts Xs k
noncomputable def RetK (R:V) (f:FV) (_:St):Prop:=f=.ret R
noncomputable def sel {α β:Type} (l:List α) (P:α→Prop) [DecidablePred P] (y:α→β):List β:=l.flatMap fun a=>if P a then [y a] else []
theorem n0:([]:List V).length≤10:=Nat.le_of_ble_eq_true rfl
theorem n1 {a:V}:[a].length≤10:=Nat.le_of_ble_eq_true rfl
theorem n2 {a b:V}:[a,b].length≤10:=Nat.le_of_ble_eq_true rfl
theorem n3 {a b c:V}:[a,b,c].length≤10:=Nat.le_of_ble_eq_true rfl
theorem n4 {a b c d:V}:[a,b,c,d].length≤10:=Nat.le_of_ble_eq_true rfl
theorem n5 {a b c d e:V}:[a,b,c,d,e].length≤10:=Nat.le_of_ble_eq_true rfl
noncomputable def LeL (l l':List (Str×V)):Prop:=∀ x X,l.lookup x=some X→l'.lookup x=some X
theorem LeL.le {l l':List (Str×V)} {hp:List (Addr×O)} (h:LeL l l'):St.le ⟨l',hp⟩ ⟨l,hp⟩:=⟨h,fun qa qb x=>x,id⟩
theorem LeL.set {l l':List (Str×V)} {x:Str} {X:V} (h:LeL l l') (hx:l.lookup x=none):LeL l (setL l' x X):=fun y Y e=>by
 rw [lookup_setL,if_neg (fun q=>by rw [q,hx] at e; cases e)]
 exact h y Y e
theorem ll1 {l:List (Str×V)} {x:Str} {X:V} (hx:l.lookup x=none):LeL l (setL l x X):=LeL.set (fun qa qb e=>e) hx
theorem ll2 {l:List (Str×V)} {x y:Str} {X Y:V} (hx:l.lookup x=none) (hy:l.lookup y=none):LeL l (setL (setL l x X) y Y):=(ll1 hx).set hy
theorem ll4 {l:List (Str×V)} {x y z w:Str} {X Y Z W:V} (hx:l.lookup x=none) (hy:l.lookup y=none) (hz:l.lookup z=none) (hw:l.lookup w=none):LeL l (setL (setL (setL (setL l x X) y Y) z Z) w W):=((ll2 hx hy).set hz).set hw
section
variable {c:Cx} {A:Around} {env:Env} {ς:List (Str×V)} {η:List (Addr×O)} {p p₁ p₂ p₃ pos:Pos} {n:Nat} {X Y Z W R:V} {Xs:List V} {e l r t:Expr} {es:List Expr} {P Q:Prop} {x y:Str} {rest:List Stmt}
theorem ev_eq (h:EV c A env ⟨ς,η⟩ e X) (q:X=Y):EV c A env ⟨ς,η⟩ e Y:=q▸h
theorem tp_iff (h:TP c A env ⟨ς,η⟩ e P) (q:P↔Q):TP c A env ⟨ς,η⟩ e Q:=⟨fun k hk=>h.run k fun b hb=>hk b (hb.trans q)⟩
theorem ev_N (hx:ς.lookup x=some X) (hd:(x == ("__debug__" : Str))=false:=by decide) (hn:(x == ("__classdict__" : Str))=false:=by decide):EV c A env ⟨ς,η⟩ (.Name x pos) X:=⟨fun qa hk=>wE_Name hx hk hd hn⟩
theorem ev_i {i:Int}:EV c A env ⟨ς,η⟩ (.Constant (.int i) n pos) (.int i):=⟨fun qa hk=>wE_int hk⟩
theorem ev_s:EV c A env ⟨ς,η⟩ (.Constant (.str x) n pos) (.str x):=⟨fun qa hk=>wE_str hk⟩
theorem ev_b {b:Bool}:EV c A env ⟨ς,η⟩ (.Constant (.bool b) n pos) (.bool b):=⟨fun qa hk=>wE_bool hk⟩
theorem ev_G {v:Value} (hm:c.mg x=some v) (hr:Rd c (fun b=>∃ o,c.G.get? b=some o) c.G X v) (hk:env.kindOf x=some .globalImplicit) (hd:(x == ("__debug__" : Str))=false:=by decide):EV c A env ⟨ς,η⟩ (.Name x pos) X:=⟨fun qa h=>wE_Gname hm hr hk h hd⟩
theorem ev_at {i:Int} (hx:ς.lookup x=some (.tup Xs)) (hi:Xs[i.toNat]?=some X) (h0:0≤i:=by decide) (h1:i < 2 ^ 62:=by decide)
  (hd:(x == ("__debug__" : Str))=false:=by decide) (hn:(x == ("__classdict__" : Str))=false:=by decide):EV c A env ⟨ς,η⟩ (.Subscript (.Name x p₁) (.Constant (.int i) n p₂) p₃) X:=⟨fun qa hk=>wE_at hx hi hk h0 h1 hd hn⟩
theorem ev_Sub (h1:EV c A env ⟨ς,η⟩ l X) (h2:EV c A env ⟨ς,η⟩ r Y) (h:ItemV c A η X Y Z) (hs:∀ o j,subscripted r false o j=operate [o,j] (getItem o j):=by intros; rfl):EV c A env ⟨ς,η⟩ (.Subscript l r pos) Z :=
 ⟨fun qa hk=>wE_Sub (h1.run _ (h2.run _ ⟨Z,h,hk⟩)) hs⟩
theorem ev_Bin {op:Operator} (h1:EV c A env ⟨ς,η⟩ l X) (h2:EV c A env ⟨ς,η⟩ r Y) (h:BinV c A η op X Y Z):EV c A env ⟨ς,η⟩ (.BinOp l op r pos) Z:=⟨fun qa hk=>wE_BinOp (h1.run _ (h2.run _ ⟨Z,h,hk⟩))⟩
theorem ev_If {t b o:Expr} (h:TP c A env ⟨ς,η⟩ t P) (h1:P→EV c A env ⟨ς,η⟩ b X) (h2:¬ P→EV c A env ⟨ς,η⟩ o X):EV c A env ⟨ς,η⟩ (.IfExp t b o pos) X:=⟨fun k hk=>wE_IfExp (h.run _ fun x hx=>by
 cases x with
 | true=>exact (h1 (hx.mp rfl)).run k hk
 | false=>exact (h2 (fun q=>Bool.noConfusion (hx.mpr q))).run k hk)⟩
theorem evs0:EVs c A env ⟨ς,η⟩ pos [] []:=⟨fun qa hk=>wEs_nil hk⟩
theorem evs (h1:EV c A env ⟨ς,η⟩ e X) (h2:EVs c A env ⟨ς,η⟩ pos es Xs) (he:starEach (e::es) env=(false,eval e env)::starEach es env:=by rfl):EVs c A env ⟨ς,η⟩ pos (e::es) (X::Xs):=⟨fun qa hk=>wEs_cons (h1.run _ (h2.run _ hk)) he⟩
theorem ev_Tup (h:EVs c A env ⟨ς,η⟩ pos es Xs) (hl:Xs.length≤10):EV c A env ⟨ς,η⟩ (.Tuple es n pos) (.tup Xs):=⟨fun qa hk=>wE_Tuple (h.run _ ⟨sz10 hl,hk⟩)⟩
theorem ev_Lst (h:EVs c A env ⟨ς,η⟩ pos es Xs) (hl:Xs.length≤10):EV c A env ⟨ς,η⟩ (.List es pos) (.lst Xs):=⟨fun qa hk=>wE_List (h.run _ ⟨sz10 hl,hk⟩)⟩
theorem ev_CallB {f:Str} {fv:Value} (hm:c.mg f=none) (hv:bootBuiltins f=some fv) (hf:PlainF fv) (hk:env.kindOf f=some .globalImplicit) (h:EVs c A env ⟨ς,η⟩ pos (e::es) Xs) (hb:BCall c A η fv Xs X)
  (hn:f ≠ "__name__" := by decide) (hd:(f == ("__debug__" : Str))=false:=by decide) (he:starEach (e::es) env=(false,eval e env)::starEach es env:=by rfl)
  (hplain:(backTo pos (starEach es env)).any (·.1)=false:=by rfl):EV c A env ⟨ς,η⟩ (.Call (.Name f p) (e::es) [] pos) X:=⟨fun qa hk'=>wE_CallB hm hv hf hk (h.run _ ⟨X,hb,hk'⟩) hn hd he hplain⟩
theorem ev_Pure {f:Str} {a:Addr} {D:DefD} (hf:c.mg f=some (.ref a)) (F:IsFn c a D) (hk:env.kindOf f=some .globalImplicit) (h:EVs c A env ⟨ς,η⟩ pos (e::es) Xs) (hR:Rm n A) (hp:Pure c n a Xs X)
  (hd:(f == ("__debug__" : Str))=false:=by decide) (he:starEach (e::es) env=(false,eval e env)::starEach es env:=by rfl):EV c A env ⟨ς,η⟩ (.Call (.Name f p) (e::es) [] pos) X:=⟨fun qa hk'=>wE_PureF hf F hk (h.run _ ⟨n,X,hR,hp,hk'⟩) hd he⟩
theorem ev_get {es':List (Str×V)} {o:Expr} {name:Str} (hname:name = "get") (ho:EV c A env ⟨ς,η⟩ o (.dct es')) (h:EVs c A env ⟨ς,η⟩ pos (e::es) [.str x,X])
  (hbase:attributeBase o name env (eval o env)=eval o env:=by rfl) (hline:(p.endLine == pos.line)=true:=by rfl)
  (hfew:((backTo pos (starEach (e::es) env)).all (fun x=>!x.1)&&(backToKw pos (keywordEach [] env)).all (fun x=>x.1.isSome)&&decide ((e::es).length + ([]:List Keyword).length + (if ([]:List Keyword).isEmpty then 0 else 1) < 30))=true:=by rfl)
  (he:starEach (e::es) env=(false,eval e env)::starEach es env:=by rfl) (hplain:(backTo pos (starEach (e::es) env)).any (·.1)=false:=by rfl):EV c A env ⟨ς,η⟩ (.Call (.Attribute o name p) (e::es) [] pos) ((dget es' x).getD X):=by
 subst hname
 exact ⟨fun qa hk=>wE_Meth meth_get (ho.run _ ⟨vt_dct,h.run _ (.inl ⟨_,b_get,hk⟩)⟩) hbase hline hfew he hplain⟩
theorem tp_Cmp {op:CmpOp} {b:Bool} (h1:EV c A env ⟨ς,η⟩ l X) (h2:EV c A env ⟨ς,η⟩ r Y) (h:CmpV c A η op X Y b) (hb:b=true↔P) (hm:behindInMarks op r=false:=by rfl):TP c A env ⟨ς,η⟩ (.Compare l [op] [r] pos) P :=
 ⟨fun qa hk=>wT_Compare (h1.run _ (h2.run _ ⟨b,h,hk b hb⟩)) hm⟩
theorem dec_iff [Decidable P]:decide P=true↔P:=⟨of_decide_eq_true,decide_eq_true⟩
theorem ndec_iff [Decidable P]:(!decide P)=true↔¬ P:=by rw [Bool.not_eq_true',decide_eq_false_iff_not]
theorem tp_eq (h1:EV c A env ⟨ς,η⟩ l (.str x)) (h2:EV c A env ⟨ς,η⟩ r (.str y)) (hm:behindInMarks .Eq r=false:=by rfl):TP c A env ⟨ς,η⟩ (.Compare l [.Eq] [r] pos) (x=y):=tp_Cmp h1 h2 cmp_eq_str dec_iff hm
theorem tp_ne (h1:EV c A env ⟨ς,η⟩ l (.str x)) (h2:EV c A env ⟨ς,η⟩ r (.str y)) (hm:behindInMarks .NotEq r=false:=by rfl):TP c A env ⟨ς,η⟩ (.Compare l [.NotEq] [r] pos) (x≠y):=tp_Cmp h1 h2 cmp_ne_str ndec_iff hm
theorem tp_eqi {i j:Int} (h1:EV c A env ⟨ς,η⟩ l (.int i)) (h2:EV c A env ⟨ς,η⟩ r (.int j)) (hm:behindInMarks .Eq r=false:=by rfl):TP c A env ⟨ς,η⟩ (.Compare l [.Eq] [r] pos) (i=j):=tp_Cmp h1 h2 cmp_eq_int dec_iff hm
theorem tp_nei {i j:Int} (h1:EV c A env ⟨ς,η⟩ l (.int i)) (h2:EV c A env ⟨ς,η⟩ r (.int j)) (hm:behindInMarks .NotEq r=false:=by rfl):TP c A env ⟨ς,η⟩ (.Compare l [.NotEq] [r] pos) (i≠j):=tp_Cmp h1 h2 cmp_ne_int ndec_iff hm
theorem tp_gt {i j:Int} (h1:EV c A env ⟨ς,η⟩ l (.int i)) (h2:EV c A env ⟨ς,η⟩ r (.int j)) (hm:behindInMarks .Gt r=false:=by rfl):TP c A env ⟨ς,η⟩ (.Compare l [.Gt] [r] pos) (i > j):=tp_Cmp h1 h2 cmp_gt_int dec_iff hm
theorem tp_lt {i j:Int} (h1:EV c A env ⟨ς,η⟩ l (.int i)) (h2:EV c A env ⟨ς,η⟩ r (.int j)) (hm:behindInMarks .Lt r=false:=by rfl):TP c A env ⟨ς,η⟩ (.Compare l [.Lt] [r] pos) (i < j):=tp_Cmp h1 h2 cmp_lt_int dec_iff hm
theorem tp_in {xs:List Str} (h1:EV c A env ⟨ς,η⟩ l (.str x)) (h2:EV c A env ⟨ς,η⟩ r (.lst (xs.map .str))) (hm:behindInMarks .In r=false:=by rfl):TP c A env ⟨ς,η⟩ (.Compare l [.In] [r] pos) (x∈xs):=tp_Cmp h1 h2 cmp_in_strs dec_iff hm
theorem tp_ni {xs:List Str} (h1:EV c A env ⟨ς,η⟩ l (.str x)) (h2:EV c A env ⟨ς,η⟩ r (.lst (xs.map .str))) (hm:behindInMarks .NotIn r=false:=by rfl):TP c A env ⟨ς,η⟩ (.Compare l [.NotIn] [r] pos) (x∉xs):=tp_Cmp h1 h2 cmp_notin_strs ndec_iff hm
theorem tp_not (h:TP c A env ⟨ς,η⟩ e P):TP c A env ⟨ς,η⟩ (.UnaryOp .Not e pos) (¬ P):=⟨fun qa hk=>wT_Not (h.run _ fun b hb=>hk _ (by cases b <;> simp [← hb]))⟩
theorem ta_A0:TA c A env ⟨ς,η⟩ .And [] True:=⟨fun qa hk=>wAll_nil (hk true ⟨fun qa=>trivial,fun qa=>rfl⟩)⟩
theorem ta_O0:TA c A env ⟨ς,η⟩ .Or [] False:=⟨fun qa hk=>wAll_nil (hk false ⟨fun h=>Bool.noConfusion h,fun h=>h.elim⟩)⟩
theorem ta_A (h:TP c A env ⟨ς,η⟩ e P) (h2:P→TA c A env ⟨ς,η⟩ .And es Q):TA c A env ⟨ς,η⟩ .And (e::es) (P∧Q):=⟨fun k hk=>wAll_and (h.run _ fun b hb=>by
 cases b with
 | true=>exact (h2 (hb.mp rfl)).run k fun b' hb'=>hk b' (hb'.trans ⟨fun q=>⟨hb.mp rfl,q⟩,fun q=>q.2⟩)
 | false=>exact hk false ⟨fun q=>Bool.noConfusion q,fun q=>hb.mpr q.1⟩)⟩
theorem ta_O (h:TP c A env ⟨ς,η⟩ e P) (h2:¬ P→TA c A env ⟨ς,η⟩ .Or es Q):TA c A env ⟨ς,η⟩ .Or (e::es) (P∨Q):=⟨fun k hk=>wAll_or (h.run _ fun b hb=>by
 cases b with
 | true=>exact hk true ⟨fun qa=>.inl (hb.mp rfl),fun qa=>rfl⟩
 | false=>exact (h2 (fun q=>Bool.noConfusion (hb.mpr q))).run k fun b' hb'=>hk b' (hb'.trans ⟨.inr,fun q=>q.elim (fun q=>Bool.noConfusion (hb.mpr q)) id⟩))⟩
theorem tp_A2 {e2:Expr} (h:TP c A env ⟨ς,η⟩ e P) (h2:P→TP c A env ⟨ς,η⟩ e2 Q):TP c A env ⟨ς,η⟩ (.BoolOp .And [e,e2] pos) (P∧Q) :=
 ⟨fun k hk=>wT_BoolOp ((ta_A h (fun q=>ta_A (h2 q) fun qa=>ta_A0)).run k fun b hb=>hk b (hb.trans ⟨fun q=>⟨q.1,q.2.1⟩,fun q=>⟨q.1,q.2,trivial⟩⟩))⟩
theorem tp_A3 {e2 e3:Expr} {Q':Prop} (h:TP c A env ⟨ς,η⟩ e P) (h2:P→TP c A env ⟨ς,η⟩ e2 Q) (h3:P→Q→TP c A env ⟨ς,η⟩ e3 Q'):TP c A env ⟨ς,η⟩ (.BoolOp .And [e,e2,e3] pos) (P∧Q∧Q') :=
 ⟨fun k hk=>wT_BoolOp ((ta_A h (fun q=>ta_A (h2 q) fun q2=>ta_A (h3 q q2) fun qa=>ta_A0)).run k fun b hb=>hk b (hb.trans ⟨fun q=>⟨q.1,q.2.1,q.2.2.1⟩,fun q=>⟨q.1,q.2.1,q.2.2,trivial⟩⟩))⟩
theorem tp_O2 {e2:Expr} (h:TP c A env ⟨ς,η⟩ e P) (h2:¬ P→TP c A env ⟨ς,η⟩ e2 Q):TP c A env ⟨ς,η⟩ (.BoolOp .Or [e,e2] pos) (P∨Q) :=
 ⟨fun k hk=>wT_BoolOp ((ta_O h (fun q=>ta_O (h2 q) fun qa=>ta_O0)).run k fun b hb=>hk b (hb.trans ⟨fun q=>q.elim .inl fun q=>q.elim .inr False.elim,fun q=>q.elim .inl fun q=>.inr (.inl q)⟩))⟩
theorem av_N (hk:env.kindOf x=some .local∨env.kindOf x=some .cell):AV c A env ⟨ς,η⟩ (.Name x pos) X ⟨setL ς x X,η⟩:=⟨fun qa h=>wA_Name hk h⟩
theorem avs0:AVs c A env ⟨ς,η⟩ [] [] ⟨ς,η⟩:=⟨fun qa h=>wAs_nil h⟩
theorem avs {ts:List Expr} {τ:St} (hk:env.kindOf x=some .local∨env.kindOf x=some .cell) (h:AVs c A env ⟨setL ς x X,η⟩ ts Xs τ) (he:assignEach (.Name x pos::ts) env=(false,assign (.Name x pos) env)::assignEach ts env:=by rfl):AVs c A env ⟨ς,η⟩ (.Name x pos::ts) (X::Xs) τ :=
 ⟨fun qa hk'=>wAs_cons (wA_Name hk (h.run _ hk')) he⟩
theorem av_T {ts:List Expr} {τ:St} (h:AVs c A env ⟨ς,η⟩ ts Xs τ) (hn:(assignEach ts env).length=Xs.length:=by rfl) (hst:(assignEach ts env).findIdx? (·.1)=none:=by rfl):AV c A env ⟨ς,η⟩ (.Tuple ts n pos) (.tup Xs) τ:=⟨fun qa hk=>wA_Tuple (h.run _ hk) hn hst⟩
theorem sSet {k:FV→St→Prop} (hk:env.kindOf x=some .local∨env.kindOf x=some .cell) (h:EV c A env ⟨ς,η⟩ e X) (hr:WSs c A env ⟨setL ς x X,η⟩ rest k)
  (hs:swapsWith e (some (.Name x p)) pos.line env=pure false:=by rfl) (hsw:swappedStores [.Name x p] e env=pure none:=by rfl) (hte:(assignEach [.Name x p] env).map (·.2)=[assign (.Name x p) env]:=by rfl) :
  WSs c A env ⟨ς,η⟩ (.Assign [.Name x p] e pos::rest) k:=wSs_Set hk (h.run _ hr) hs hsw hte
theorem sUnp {k:FV→St→Prop} {τ:St} (h:EV c A env ⟨ς,η⟩ e X) (ha:AV c A env ⟨ς,η⟩ t X τ) (hr:WSs c A env τ rest k)
  (hs:swapsWith e (some t) pos.line env=pure false:=by rfl) (hsw:swappedStores [t] e env=pure none:=by rfl) (hte:(assignEach [t] env).map (·.2)=[assign t env]:=by rfl) :
  WSs c A env ⟨ς,η⟩ (.Assign [t] e pos::rest) k:=wSs_cons (wS_Assign (h.run _ (ha.run _ hr)) hs hsw hte)
theorem sIf {k:FV→St→Prop} {b o:List Stmt} (h:TP c A env ⟨ς,η⟩ t P) (h1:P→WSs c A env ⟨ς,η⟩ b (thenS c A env rest k)) (h2:¬ P→WSs c A env ⟨ς,η⟩ o (thenS c A env rest k)):WSs c A env ⟨ς,η⟩ (.If t b o pos::rest) k :=
 wSs_If (h.run _ fun x hx=>by
  cases x with
  | true=>exact h1 (hx.mp rfl)
  | false=>exact h2 (fun q=>Bool.noConfusion (hx.mpr q)))
theorem sRet (h:EV c A env ⟨ς,η⟩ e R):WSs c A env ⟨ς,η⟩ (.Return (some e) pos::rest) (RetK R):=wSs_Ret (h.run _ rfl)
theorem sIfR (h:TP c A env ⟨ς,η⟩ t P) (h1:P→EV c A env ⟨ς,η⟩ e R) (h2:¬ P→WSs c A env ⟨ς,η⟩ rest (RetK R)):WSs c A env ⟨ς,η⟩ (.If t [.Return (some e) p] [] pos::rest) (RetK R) :=
 sIf h (fun q=>wSs_Ret ((h1 q).run _ rfl)) fun q=>wSs_nil (h2 q)
theorem pure_def {a:Addr} {D:DefD} {ps:List Str} {body:List Stmt} (F:IsFn c a D) (K:DefK D ps body) (hlen:Xs.length=ps.length)
  (h:∀ A qual code L,Rm n A→WSs c A (envD D qual code L a) ⟨ps.zip Xs,[]⟩ body (RetK R)):Pure c (n + 1) a Xs R :=
 call_def F K hlen fun A qual code L hR=>WP.imp (h A qual code L hR) fun f ω hf=>by
  cases hf; exact ⟨⟨[],[]⟩,⟨fun qa qb e=>(by simp at e),fun qa qb x=>(by cases x),fun qa=>.nil⟩,rfl,rfl⟩
theorem av2 (hx:env.kindOf x=some .local∨env.kindOf x=some .cell) (hy:env.kindOf y=some .local∨env.kindOf y=some .cell):AV c A env ⟨ς,η⟩ (.Tuple [.Name x p₁,.Name y p₂] n pos) (.tup [X,Y]) ⟨setL (setL ς x X) y Y,η⟩:=av_T (avs hx (avs hy avs0))
theorem av4 {z w:Str} (hx:env.kindOf x=some .local∨env.kindOf x=some .cell) (hy:env.kindOf y=some .local∨env.kindOf y=some .cell) (hz:env.kindOf z=some .local∨env.kindOf z=some .cell) (hw:env.kindOf w=some .local∨env.kindOf w=some .cell):AV c A env ⟨ς,η⟩ (.Tuple [.Name x p₁,.Name y p₂,.Name z p₃,.Name w p] n pos) (.tup [X,Y,Z,W]) ⟨setL (setL (setL (setL ς x X) y Y) z Z) w W,η⟩:=av_T (avs hx (avs hy (avs hz (avs hw avs0))))
theorem sIfI {γ:Type} {res:γ→V} {a b:γ} [Decidable P] (h:TP c A env ⟨ς,η⟩ t P) (h1:P→EV c A env ⟨ς,η⟩ e (res a)) (h2:¬ P→WSs c A env ⟨ς,η⟩ rest (RetK (res b))):WSs c A env ⟨ς,η⟩ (.If t [.Return (some e) p] [] pos::rest) (RetK (res (if P then a else b))) :=
 sIfR h (fun q=>by rw [if_pos q]; exact h1 q) fun q=>by rw [if_neg q]; exact h2 q
theorem ev_NS {m:Nat} (hx:ς.lookup x=some X) (hd:(x == ("__debug__" : Str))=false:=by decide) (hn:(x == ("__classdict__" : Str))=false:=by decide):EV c A env ⟨ς,η⟩ (.Tuple [.Name x p₁,.Constant (.str y) n p₂] m pos) (.tup [X,.str y]) :=
 ev_Tup (evs (ev_N hx hd hn) (evs ev_s evs0)) (Nat.le_of_ble_eq_true rfl)
theorem ev_NN {m:Nat} (hx:ς.lookup x=some X) (hy:ς.lookup y=some Y) (hd:(x == ("__debug__" : Str))=false:=by decide) (hn:(x == ("__classdict__" : Str))=false:=by decide) (hd':(y == ("__debug__" : Str))=false:=by decide) (hn':(y == ("__classdict__" : Str))=false:=by decide):EV c A env ⟨ς,η⟩ (.Tuple [.Name x p₁,.Name y p₂] m pos) (.tup [X,Y]) :=
 ev_Tup (evs (ev_N hx hd hn) (evs (ev_N hy hd' hn') evs0)) (Nat.le_of_ble_eq_true rfl)
theorem ev_addM {α:Type} {f:α→V} {xs ys:List α} (h1:EV c A env ⟨ς,η⟩ l (.lst (xs.map f))) (h2:EV c A env ⟨ς,η⟩ r (.lst (ys.map f))) (hl:xs.length + ys.length≤sizeLine):EV c A env ⟨ς,η⟩ (.BinOp l .Add r pos) (.lst ((xs++ys).map f)) :=
 ev_eq (ev_Bin h1 h2 (bin_add_lst (by rw [List.length_map,List.length_map]; exact hl))) (by rw [List.map_append])
theorem ev_one {α:Type} {f:α→V} {a:α} (h:EV c A env ⟨ς,η⟩ e (f a)) (he:starEach [e] env=(false,eval e env)::starEach [] env:=by rfl):EV c A env ⟨ς,η⟩ (.List [e] pos) (.lst ([a].map f)):=ev_Lst (evs h evs0 he) (Nat.le_of_ble_eq_true rfl)
theorem sIfF {k:FV→St→Prop} {b:List Stmt} (h:TP c A env ⟨ς,η⟩ t P) (hn:¬ P) (h2:WSs c A env ⟨ς,η⟩ rest k):WSs c A env ⟨ς,η⟩ (.If t b [] pos::rest) k:=sIf h (fun q=>absurd q hn) fun qa=>wSs_nil h2
theorem sIfRT (h:TP c A env ⟨ς,η⟩ t P) (hp:P) (h1:EV c A env ⟨ς,η⟩ e R):WSs c A env ⟨ς,η⟩ (.If t [.Return (some e) p] [] pos::rest) (RetK R):=sIfR h (fun qa=>h1) fun q=>absurd hp q
theorem ev_sl {α:Type} {f:α→V} {ys:List α} {v a b:Expr} {i j:Int} (h:EV c A env ⟨ς,η⟩ v (.lst (ys.map f))) (hl:ys.length≤sizeLine) (h1:EV c A env ⟨ς,η⟩ a (.int i)) (h2:EV c A env ⟨ς,η⟩ b (.int j)) (hi:0≤i) (hj:0≤j) :
  EV c A env ⟨ς,η⟩ (.Subscript v (.Slice (some a) (some b) none p) pos) (.lst (((ys.drop i.toNat).take (j.toNat - i.toNat)).map f)):=⟨fun qa hk =>
 wE_Slice (h.run _ ⟨_,rfl,by rw [List.length_map]; exact hl,wPart_some (h1.run _ ⟨i,rfl,wPart_some (h2.run _ ⟨j,rfl,some i.toNat,some j.toNat,by rw [Option.map_some,Int.toNat_of_nonneg hi],by rw [Option.map_some,Int.toNat_of_nonneg hj],by rw [List.map_take,List.map_drop] at hk; exact hk⟩)⟩)⟩)⟩
theorem ev_slFrom {α:Type} {f:α→V} {ys:List α} {v a:Expr} {i:Int} (h:EV c A env ⟨ς,η⟩ v (.lst (ys.map f))) (hl:ys.length≤sizeLine) (h1:EV c A env ⟨ς,η⟩ a (.int i)) (hi:0≤i) :
  EV c A env ⟨ς,η⟩ (.Subscript v (.Slice (some a) none none p) pos) (.lst ((ys.drop i.toNat).map f)):=⟨fun qa hk =>
 wE_Slice (h.run _ ⟨_,rfl,by rw [List.length_map]; exact hl,wPart_some (h1.run _ ⟨i,rfl,wPart_none ⟨some i.toNat,none,by rw [Option.map_some,Int.toNat_of_nonneg hi],rfl,by
  rw [List.map_drop] at hk
  have e:((ys.map f).drop ((some i.toNat).getD 0)).take ((none:Option Nat).getD (ys.map f).length - (some i.toNat).getD 0)=(ys.map f).drop i.toNat:=List.take_of_length_le (by rw [List.length_drop]; exact Nat.le_refl _)
  rw [e]; exact hk⟩⟩)⟩)⟩
theorem tp_bool {b:Bool} (h:EV c A env ⟨ς,η⟩ e (.bool b)) (he:isTrue e env (eval e env)=(do let v ← eval e env; standAt e.pos; holding [v] (truthy v)):=by rfl):TP c A env ⟨ς,η⟩ e (b=true):=⟨fun qa hk=>wT_plain (h.run _ ⟨_,truth_bool,hk _ Iff.rfl⟩) he⟩
theorem ev_atL {i:Int} (hx:ς.lookup x=some (.lst Xs)) (hi:Xs[i.toNat]?=some X) (h0:0≤i:=by decide) (h1:i < 2 ^ 62:=by decide)
  (hd:(x == ("__debug__" : Str))=false:=by decide) (hn:(x == ("__classdict__" : Str))=false:=by decide):EV c A env ⟨ς,η⟩ (.Subscript (.Name x p₁) (.Constant (.int i) n p₂) p₃) X:=ev_Sub (ev_N hx hd hn) ev_i (item_lst h0 h1 hi)
theorem ev_T {v:Expr} {i:Int} (hv:EV c A env ⟨ς,η⟩ v (.tup Xs)) (hi:Xs[i.toNat]?=some X) (h0:0≤i:=by decide) (h1:i < 2 ^ 62:=by decide):EV c A env ⟨ς,η⟩ (.Subscript v (.Constant (.int i) n p₂) p₃) X:=ev_Sub hv ev_i (item_tup h0 h1 hi)
theorem ev_L {v:Expr} {i:Int} (hv:EV c A env ⟨ς,η⟩ v (.lst Xs)) (hi:Xs[i.toNat]?=some X) (h0:0≤i:=by decide) (h1:i < 2 ^ 62:=by decide):EV c A env ⟨ς,η⟩ (.Subscript v (.Constant (.int i) n p₂) p₃) X:=ev_Sub hv ev_i (item_lst h0 h1 hi)
theorem ev_pick {α:Type} {ls:List α} {f:α→V} {i m:Int} (d:α) (h1:EV c A env ⟨ς,η⟩ l (.tup (ls.map f))) (h2:EV c A env ⟨ς,η⟩ r (.int i)) (hm:m=ls.length) (h0:0 < ls.length) (hs:ls.length < 1000) (hm0:m≠0:=by decide) :
  EV c A env ⟨ς,η⟩ (.Subscript l (.BinOp r .Mod (.Constant (.int m) n p₁) p₂) p₃) (f (pick ls d i)):=ev_Sub h1 (ev_Bin h2 ev_i (bin_mod_int hm0)) (item_pick ls d f hm h0 hs)
noncomputable def GV (c:Cx) (f:Str) (X:V):Prop:=∃ v,c.mg f=some v∧Rd c (fun b=>∃ o,c.G.get? b=some o) c.G X v
theorem ev_GV (g:GV c x X) (hk:env.kindOf x=some .globalImplicit) (hd:(x == ("__debug__" : Str))=false:=by decide):EV c A env ⟨ς,η⟩ (.Name x pos) X:=E12 g fun qa h1 h2=>ev_G h1 h2 hk hd
theorem ev_B {T:String} (hm:c.mg x=none) (hv:bootBuiltins x=some (.type T)) (hk:env.kindOf x=some .globalImplicit) (hn:x ≠ "__name__" := by decide) (hd:(x == ("__debug__" : Str))=false:=by decide):EV c A env ⟨ς,η⟩ (.Name x pos) (.typ T):=⟨fun qa h=>wE_Bname hm hv hk h hn hd⟩
theorem ff_iff:false=true↔False:=⟨fun h=>Bool.noConfusion h,False.elim⟩
end
theorem sz100 {n:Nat} (h:n≤100):n≤sizeLine:=Nat.le_trans h (by decide)
theorem sz900 {n:Nat} (h:n≤900):n≤sizeLine:=Nat.le_trans h (by decide)
section
variable {c:Cx} {A:Around} {env cenv:Env} {ς ςc:List (Str×V)} {η ηc:List (Addr×O)} {pos spos:Pos} {α β:Type} {f:α→V} {h:β→V} {target elt iter cond t:Expr} {ifs:List Expr} {scope:Scope} {X Y:V} {xs:List V} {ls:List α}
noncomputable def TurnB (c:Cx) (A:Around) (cenv:Env) (ςc:List (Str×V)) (H:List (Addr×O)) (target:Expr) (ifs:List Expr) (elt:Expr) (X:V) (P:Prop) (Y:V):Prop :=
 ∃ l',AV c A cenv ⟨ςc,H⟩ target X ⟨l',H⟩∧(∀ k:Bool→St→Prop,(∀ b,(b=true↔P)→k b ⟨l',H⟩)→WTs c A cenv ⟨l',H⟩ ifs true k)∧(P→EV c A cenv ⟨l',H⟩ elt Y)∧LeL ςc l'
noncomputable def TurnD (c:Cx) (A:Around) (cenv:Env) (ςc:List (Str×V)) (ηc:List (Addr×O)) (target:Expr) (ifs:List Expr) (elt:Expr) (X:V) (P:Prop) (Y:V):Prop :=
 ∀ H,(∀ q∈ηc,q∈H)→TurnB c A cenv ςc H target ifs elt X P Y
theorem tI {P:Prop} {l':List (Str×V)} {H:List (Addr×O)} (h1:AV c A cenv ⟨ςc,H⟩ target X ⟨l',H⟩) (h2:TP c A cenv ⟨l',H⟩ cond P) (h3:P→EV c A cenv ⟨l',H⟩ elt Y) (h4:LeL ςc l'):TurnB c A cenv ςc H target [cond] elt X P Y :=
 ⟨l',h1,fun k hk=>wTs_cons (h2.run _ fun b hb=>by
  cases b with
  | true=>exact wTs_nil (hk _ hb)
  | false=>exact hk _ hb),h3,h4⟩
theorem tM {l':List (Str×V)} {H:List (Addr×O)} (h1:AV c A cenv ⟨ςc,H⟩ target X ⟨l',H⟩) (h2:EV c A cenv ⟨l',H⟩ elt Y) (h3:LeL ςc l'):TurnB c A cenv ςc H target [] elt X True Y :=
 ⟨l',h1,fun k hk=>wTs_nil (hk true ⟨fun qa=>trivial,fun qa=>rfl⟩),fun qa=>h2,h3⟩
theorem TurnD.turn {P:Prop} [Decidable P] (T:TurnD c A cenv ςc ηc target ifs elt X P Y):Turn1 c A cenv ⟨ςc,ηc⟩ target ifs elt X (if P then [Y] else []):=fun D zs=>by
 obtain ⟨l',h1,h2,h3,h4⟩:=T ((D,O.lst zs)::ηc) fun q hq=>.tail _ hq
 refine h1.run _ (h2 _ fun b hb=>?_)
 cases b with
 | true=>exact (h3 (hb.mp rfl)).run _ ⟨if_pos (hb.mp rfl),h4.le⟩
 | false=>exact ⟨h4.le,if_neg fun q=>Bool.noConfusion (hb.mpr q)⟩
theorem sel_len {P:α→Prop} [DecidablePred P] {y:α→β} (l:List α):(sel l P y).length≤l.length:=by
 induction l with
 | nil=>exact Nat.le_refl _
 | cons a l ih =>
  have e:sel (a::l) P y=(if P a then [y a] else [])++sel l P y:=rfl
  rw [e,List.length_append,List.length_cons]
  by_cases q:P a
  ·rw [if_pos q]; show 1 + _≤_; rw [Nat.add_comm]; exact Nat.succ_le_succ ih
  ·rw [if_neg q]; show 0 + _≤_; rw [Nat.zero_add]; exact Nat.le_succ_of_le ih
theorem sel_map {P:α→Prop} [DecidablePred P] {y:α→β} (l:List α):(l.flatMap fun a=>if P a then [h (y a)] else [])=(sel l P y).map h:=by
 unfold sel
 rw [List.map_flatMap]
 congr 1; funext a
 by_cases q:P a
 ·rw [if_pos q,if_pos q]; rfl
 ·rw [if_neg q,if_neg q]; rfl
theorem sel_true {y:α→β} (l:List α):sel l (fun qa=>True) y=l.map y:=by
 unfold sel
 induction l with
 | nil=>rfl
 | cons a l ih=>rw [List.flatMap_cons,ih]; rfl
theorem sel_filter {P:α→Prop} [DecidablePred P] (l:List α):sel l P id=l.filter fun a=>decide (P a):=by
 unfold sel
 induction l with
 | nil=>rfl
 | cons a l ih =>
  rw [List.flatMap_cons,ih,List.filter_cons]
  by_cases q:P a
  ·rw [if_pos q,if_pos (decide_eq_true q)]; rfl
  ·rw [if_neg q,if_neg (by simpa using q)]; rfl
theorem ev_Comp (P:α→Prop) [DecidablePred P] (h:β→V) (y:α→β) (hf:Inj f) (OK:CompOk scope env) (hi:EV c A env ⟨ς,η⟩ iter (.lst xs)) (hx:xs=ls.map f) (hl:ls.length≤sizeLine)
  (ht:∀ C,∀ a∈ls,TurnD c A (cenvOf scope env C) (capsOf scope ς) η target ifs elt (f a) (P a) (h (y a))) (hp:plainTarget target=true:=by rfl)
  (hs:∀ x,foldedSetIterable iter env x=pure x:=by intro _; rfl):EV c A env ⟨ς,η⟩ (.ListComp elt [⟨target,iter,ifs,0⟩] scope pos) (.lst ((sel ls P y).map h)):=⟨fun k hk =>
 wE_CompG hf OK (hi.run _ ⟨xs,seq_lst hp,ls,_,hx,by rw [sel_map,List.length_map]; exact Nat.le_trans (sel_len _) hl,fun C a ha=>(ht C a ha).turn,by rw [sel_map]; exact hk⟩) hs⟩
theorem sComp {k:FV→St→Prop} {x:Str} {p:Pos} {rest:List Stmt} (P:α→Prop) [DecidablePred P] (h:β→V) (y:α→β) (hf:Inj f) (OK:CompOk scope env) (hk:env.kindOf x=some .local∨env.kindOf x=some .cell) (hi:EV c A env ⟨ς,η⟩ iter (.lst xs)) (hx:xs=ls.map f) (hl:ls.length≤sizeLine)
  (ht:∀ C,∀ a∈ls,TurnD c A (cenvOf scope env C) (capsOf scope ς) η target ifs elt (f a) (P a) (h (y a))) (hr:WSs c A env ⟨setL ς x (.lst ((sel ls P y).map h)),η⟩ rest k) (hp:plainTarget target=true:=by rfl)
  (hs:∀ x,foldedSetIterable iter env x=pure x:=by intro _; rfl) (hsw:swapsWith (.ListComp elt [⟨target,iter,ifs,0⟩] scope pos) (some (.Name x p)) spos.line env=pure true:=by rfl)
  (hte:(assignEach [.Name x p] env).map (·.2)=[assign (.Name x p) env]:=by rfl):WSs c A env ⟨ς,η⟩ (.Assign [.Name x p] (.ListComp elt [⟨target,iter,ifs,0⟩] scope pos) spos::rest) k :=
 wSs_cons (wS_AssignCompG hf OK (hi.run _ ⟨xs,seq_lst hp,ls,_,hx,by rw [sel_map,List.length_map]; exact Nat.le_trans (sel_len _) hl,fun C a ha=>(ht C a ha).turn,by rw [sel_map]; exact wA_Name hk hr⟩) hs hsw hte)
theorem ev_CompY (h:β→V) (y:α→β) (hf:Inj f) (OK:CompOk scope env) (hi:EV c A env ⟨ς,η⟩ iter (.lst xs)) (hx:xs=ls.map f) (hl:ls.length≤sizeLine)
  (ht:∀ C,∀ a∈ls,TurnD c A (cenvOf scope env C) (capsOf scope ς) η target ifs elt (f a) True (h (y a))) (hp:plainTarget target=true:=by rfl)
  (hs:∀ x,foldedSetIterable iter env x=pure x:=by intro _; rfl):EV c A env ⟨ς,η⟩ (.ListComp elt [⟨target,iter,ifs,0⟩] scope pos) (.lst ((ls.map y).map h)) :=
 ev_eq (ev_Comp (fun qa=>True) h y hf OK hi hx hl ht hp hs) (by rw [sel_true])
theorem ev_CompF (P:α→Prop) [DecidablePred P] (hf:Inj f) (OK:CompOk scope env) (hi:EV c A env ⟨ς,η⟩ iter (.lst xs)) (hx:xs=ls.map f) (hl:ls.length≤sizeLine)
  (ht:∀ C,∀ a∈ls,TurnD c A (cenvOf scope env C) (capsOf scope ς) η target ifs elt (f a) (P a) (f a)) (hp:plainTarget target=true:=by rfl)
  (hs:∀ x,foldedSetIterable iter env x=pure x:=by intro _; rfl):EV c A env ⟨ς,η⟩ (.ListComp elt [⟨target,iter,ifs,0⟩] scope pos) (.lst ((ls.filter fun a=>decide (P a)).map f)) :=
 ev_eq (ev_Comp P f id hf OK hi hx hl ht hp hs) (by rw [sel_filter])
theorem sCompF {k:FV→St→Prop} {x:Str} {p:Pos} {rest:List Stmt} (P:α→Prop) [DecidablePred P] (hf:Inj f) (OK:CompOk scope env) (hk:env.kindOf x=some .local∨env.kindOf x=some .cell) (hi:EV c A env ⟨ς,η⟩ iter (.lst xs)) (hx:xs=ls.map f) (hl:ls.length≤sizeLine)
  (ht:∀ C,∀ a∈ls,TurnD c A (cenvOf scope env C) (capsOf scope ς) η target ifs elt (f a) (P a) (f a)) (hr:WSs c A env ⟨setL ς x (.lst ((ls.filter fun a=>decide (P a)).map f)),η⟩ rest k) (hp:plainTarget target=true:=by rfl)
  (hs:∀ x,foldedSetIterable iter env x=pure x:=by intro _; rfl) (hsw:swapsWith (.ListComp elt [⟨target,iter,ifs,0⟩] scope pos) (some (.Name x p)) spos.line env=pure true:=by rfl)
  (hte:(assignEach [.Name x p] env).map (·.2)=[assign (.Name x p) env]:=by rfl):WSs c A env ⟨ς,η⟩ (.Assign [.Name x p] (.ListComp elt [⟨target,iter,ifs,0⟩] scope pos) spos::rest) k :=
 sComp P f id hf OK hk hi hx hl ht (by rw [sel_filter]; exact hr) hp hs hsw hte
theorem sCompY {k:FV→St→Prop} {x:Str} {p:Pos} {rest:List Stmt} (h:β→V) (y:α→β) (hf:Inj f) (OK:CompOk scope env) (hk:env.kindOf x=some .local∨env.kindOf x=some .cell) (hi:EV c A env ⟨ς,η⟩ iter (.lst xs)) (hx:xs=ls.map f) (hl:ls.length≤sizeLine)
  (ht:∀ C,∀ a∈ls,TurnD c A (cenvOf scope env C) (capsOf scope ς) η target ifs elt (f a) True (h (y a))) (hr:WSs c A env ⟨setL ς x (.lst ((ls.map y).map h)),η⟩ rest k) (hp:plainTarget target=true:=by rfl)
  (hs:∀ x,foldedSetIterable iter env x=pure x:=by intro _; rfl) (hsw:swapsWith (.ListComp elt [⟨target,iter,ifs,0⟩] scope pos) (some (.Name x p)) spos.line env=pure true:=by rfl)
  (hte:(assignEach [.Name x p] env).map (·.2)=[assign (.Name x p) env]:=by rfl):WSs c A env ⟨ς,η⟩ (.Assign [.Name x p] (.ListComp elt [⟨target,iter,ifs,0⟩] scope pos) spos::rest) k :=
 sComp (fun qa=>True) h y hf OK hk hi hx hl ht (by rw [sel_true]; exact hr) hp hs hsw hte
theorem ev_Comp2 {γ:Type} {target' iter':Expr} {ifs':List Expr} (m:α→List γ) (P:α→γ→Prop) [∀ a,DecidablePred (P a)] (h:β→V) (y:α→γ→β) (hf:Inj f) (OK:CompOk scope env) (hfn:env.scope.kind=.function) (hi:EV c A env ⟨ς,η⟩ iter (.lst xs)) (hx:xs=ls.map f)
  (hl:(ls.flatMap fun a=>sel (m a) (P a) (y a)).length≤sizeLine)
  (ht:∀ C,∀ a∈ls,Turn2 c A (cenvOf scope env C) ⟨capsOf scope ς,η⟩ target ifs target' iter' ifs' elt (f a) ((sel (m a) (P a) (y a)).map h)) (hp:plainTarget target=true:=by rfl)
  (hs:∀ x,foldedSetIterable iter env x=pure x:=by intro _; rfl) (hs':∀ C x,foldedSetIterable iter' (cenvOf scope env C) x=pure x:=by intro _ _; rfl) :
  EV c A env ⟨ς,η⟩ (.ListComp elt [⟨target,iter,ifs,0⟩,⟨target',iter',ifs',0⟩] scope pos) (.lst ((ls.flatMap fun a=>sel (m a) (P a) (y a)).map h)):=⟨fun k hk =>
 wE_CompG2 hf OK hfn (hi.run _ ⟨xs,seq_lst hp,ls,_,hx,by rw [← List.map_flatMap,List.length_map]; exact hl,ht,by rw [← List.map_flatMap]; exact hk⟩) hs hs'⟩
theorem sel2_len {γ:Type} {m:α→List γ} {P:α→γ→Prop} [∀ a,DecidablePred (P a)] {y:α→γ→β} {k:Nat}:∀ (l:List α) (_:∀ a∈l,(m a).length≤k),(l.flatMap fun a=>sel (m a) (P a) (y a)).length≤l.length * k
 | [],_=>Nat.zero_le _
 | a::l,hm=>by
  have h1:=sel_len (P:=P a) (y:=y a) (m a)
  have h2:=sel2_len (P:=P) (y:=y) l fun b hb=>hm b (.tail _ hb)
  have h3:=hm a (.head _)
  rw [List.flatMap_cons,List.length_append,List.length_cons,Nat.add_mul,Nat.one_mul,Nat.add_comm]
  exact Nat.add_le_add h2 (Nat.le_trans h1 h3)
noncomputable def LoopB (c:Cx) (A:Around) (env:Env) (ς:List (Str×V)) (η:List (Addr×O)) (target t e:Expr) (X:V) (P:Prop) (R:V):Prop :=
 ∃ l',AV c A env ⟨ς,η⟩ target X ⟨l',η⟩∧TP c A env ⟨l',η⟩ t P∧(P→EV c A env ⟨l',η⟩ e R)∧LeL ς l'
theorem tL {P:Prop} {R:V} {e:Expr} {l':List (Str×V)} (h1:AV c A env ⟨ς,η⟩ target X ⟨l',η⟩) (h2:TP c A env ⟨l',η⟩ t P) (h3:P→EV c A env ⟨l',η⟩ e R) (h4:LeL ς l'):LoopB c A env ς η target t e X P R:=⟨l',h1,h2,h3,h4⟩
theorem sFor {k:FV→St→Prop} {P:α→Prop} {R:V} {e:Expr} {rest:List Stmt} {fp ip rp:Pos} (hi:EV c A env ⟨ς,η⟩ iter (.lst xs)) (hx:xs=ls.map f) (ht:∀ a∈ls,LoopB c A env ς η target t e (f a) (P a) R)
  (hit:(∃ a∈ls,P a)→∀ τ,k (.ret R) τ) (done:(∀ a∈ls,¬ P a)→WSs c A env ⟨ς,η⟩ rest k) (hp:plainTarget target=true:=by rfl) (hs:∀ x,foldedSetIterable iter env x=pure x:=by intro _; rfl) :
  WSs c A env ⟨ς,η⟩ (.For target iter [.If t [.Return (some e) rp] [] ip] [] fp::rest) k:=by
 refine wSs_cons (wS_For (fun r τ'=>∃ td pre,τ'=⟨ς,η⟩∧r=td.map f∧ls=pre++td∧∀ a∈pre,¬ P a) (hi.run _ ⟨_,seq_lst hp,?_⟩) ?_ ?_ hs)
 ·intro ys hy
  subst hy
  exact ⟨⟨ς,η⟩,St.le.refl _,ls,[],rfl,hx,rfl,fun a h=>nomatch h⟩
 ·intro X r τ' hJ
  refine E24 hJ fun td pre h1 h2 h3 h4=>?_
  clear hJ
  cases td with
  | nil=>cases h2
  | cons a td =>
   rw [List.map_cons] at h2
   have e1:=(List.cons.inj h2).1
   have e2:=(List.cons.inj h2).2
   subst h1; subst e1; subst e2
   have ha:a∈ls:=by rw [h3]; exact List.mem_append_right _ (.head _)
   refine E14 (ht a ha) fun l' a1 a2 a3 a4=>?_
   refine a1.run _ (wSs_If (a2.run _ fun b hb=>?_))
   cases b with
   | true=>exact wSs_Ret ((a3 (hb.mp rfl)).run _ (hit ⟨a,ha,hb.mp rfl⟩ _))
   | false=>exact wSs_nil (wSs_nil ⟨⟨ς,η⟩,a4.le,td,pre++[a],rfl,rfl,by rw [h3,List.append_assoc]; rfl,fun b' hb'=>(List.mem_append.mp hb').elim (h4 b') fun q=>by
     rw [List.mem_singleton.mp q]; exact fun q=>Bool.noConfusion (hb.mpr q)⟩)
 ·intro τ' hJ
  refine E24 hJ fun td pre h1 h2 h3 h4=>?_
  clear hJ
  subst h1
  cases td with
  | cons a td=>cases h2
  | nil =>
   rw [List.append_nil] at h3
   exact done (by rw [h3]; exact h4)
theorem cok {D:DefD} {qual:Str} {code:Value} {L a:Addr} (h1:scope.kind=.function) (h2:(scope.names.map (·.1)).Nodup) (h3:∀ p∈scope.names,p.2=.free→D.scope.names.lookup p.1=some .cell):CompOk scope (envD D qual code L a):=⟨h1,h2,h3⟩
end
end Mine
end
noncomputable section
namespace Mine
open PySem PySem.SeqAt PyProof.Rows
noncomputable def RetH (R:V) (H:List (Addr×O)) (f:FV) (σ:St):Prop:=f=.ret R∧∃ l,σ.le ⟨l,H⟩
theorem retH {R:V} {H:List (Addr×O)} {l:List (Str×V)}:RetH R H (.ret R) ⟨l,H⟩:=⟨rfl,l,St.le.refl _⟩
theorem retLe {R:V} {H:List (Addr×O)} {l:List (Str×V)} {σ:St} (h:σ.le ⟨l,H⟩):RetH R H (.ret R) σ:=⟨rfl,l,h⟩
theorem def_H {c:Cx} {a:Addr} {D:DefD} {n:Nat} {ps:List Str} {Xs:List V} {H H':List (Addr×O)} {R:V} {body:List Stmt} (F:IsFn c a D) (K:DefK D ps body) (hlen:Xs.length=ps.length)
  (h:∀ A qual code L,Rm n A→WSs c A (envD D qual code L a) ⟨ps.zip Xs,H⟩ body (RetH R H')):CallSpec c (n + 1) a H Xs fun X H''=>X=R∧H''=H' :=
 call_def F K hlen fun A qual code L hR=>WP.imp (h A qual code L hR) fun f ω=>R02 fun z q=>E11 q fun l hl=>I13 ⟨l,H'⟩ hl (congrArg retV z) rfl
theorem CRest.all {c:Cx} {A:Around} {f:Addr} {Xs:List V} {k:V→St→Prop} {σ:St} {n:Nat} {post:V→List (Addr×O)→Prop} (hR:Rm n A) (h:CallSpec c n f σ.hp Xs post) (hk:∀ Y H',post Y H'→k Y ⟨σ.loc,H'⟩):CRest c A f Xs k σ :=
 (I44 n σ.hp [] post hR (by rw [List.append_nil]) h (fun Y H' hp=>by rw [List.append_nil]; exact hk Y H' hp))
theorem le_eq {l:List (Str×V)} {H H':List (Addr×O)} (e:H=H'):St.le ⟨l,H⟩ ⟨l,H'⟩:=e▸St.le.refl _
theorem le_cons {d:Addr} {ob:O} {τ:St} {ς:List (Str×V)} {η:List (Addr×O)} (h:τ.le ⟨ς,η⟩):St.le ⟨τ.loc,(d,ob)::τ.hp⟩ ⟨ς,(d,ob)::η⟩:=by
 refine I03 h.1 (fun b o x=>?_) fun q=>?_
 ·rcases List.mem_cons.mp x with e | e
  ·rw [e]; exact .head _
  ·exact .tail _ (h.2.1 b o e)
 ·rw [List.map_cons,List.nodup_cons] at q ⊢
  refine ⟨fun m=>q.1 ?_,h.2.2 q.2⟩
  refine E12 (List.mem_map.mp m) fun e he ee=>?_
  rw [← ee]
  exact List.mem_map_of_mem (h.2.1 e.1 e.2 he)
section
variable {c:Cx} {A:Around} {env:Env} {ς:List (Str×V)} {η:List (Addr×O)} {p p₁ p₂ p₃ pos spos:Pos} {n:Nat} {X Y Z W R:V} {Xs:List V} {e l r t:Expr} {es:List Expr} {P Q:Prop} {x y:Str} {rest:List Stmt}
theorem sRetH (h:EV c A env ⟨ς,η⟩ e R):WSs c A env ⟨ς,η⟩ (.Return (some e) pos::rest) (RetH R η):=wSs_Ret (h.run _ retH)
theorem sRetP {H:List (Addr×O)} {l:List (Str×V)} (h:EV c A env ⟨ς,η⟩ e R) (hl:St.le ⟨ς,η⟩ ⟨l,H⟩):WSs c A env ⟨ς,η⟩ (.Return (some e) pos::rest) (RetH R H):=wSs_Ret (h.run _ (retLe hl))
theorem sIfQ {γ:Type} {K:γ→FV→St→Prop} {a b:γ} [Decidable P] (h:TP c A env ⟨ς,η⟩ t P) (h1:P→EV c A env ⟨ς,η⟩ e X) (hk:K a (.ret X) ⟨ς,η⟩) (h2:¬ P→WSs c A env ⟨ς,η⟩ rest (K b)):WSs c A env ⟨ς,η⟩ (.If t [.Return (some e) p] [] pos::rest) (K (if P then a else b)) :=
 sIf h (fun q=>wSs_Ret ((h1 q).run _ (by rw [if_pos q]; exact hk))) fun q=>wSs_nil (by rw [if_neg q]; exact h2 q)
theorem sIfQN {γ:Type} {K:γ→FV→St→Prop} {a b:γ} [Decidable P] (h:TP c A env ⟨ς,η⟩ t (¬ P)) (h1:¬ P→EV c A env ⟨ς,η⟩ e X) (hk:K a (.ret X) ⟨ς,η⟩) (h2:P→WSs c A env ⟨ς,η⟩ rest (K b)):WSs c A env ⟨ς,η⟩ (.If t [.Return (some e) p] [] pos::rest) (K (if P then b else a)) :=
 sIf h (fun q=>wSs_Ret ((h1 q).run _ (by rw [if_neg q]; exact hk))) fun q=>wSs_nil (by rw [if_pos (Decidable.of_not_not q)]; exact h2 (Decidable.of_not_not q))
theorem sEl {k:FV→St→Prop} {b o:List Stmt} (h:TP c A env ⟨ς,η⟩ t P) (hn:¬ P) (h2:WSs c A env ⟨ς,η⟩ o (thenS c A env rest k)):WSs c A env ⟨ς,η⟩ (.If t b o pos::rest) k:=sIf h (fun q=>absurd q hn) fun qa=>h2
theorem sTh {k:FV→St→Prop} {b o:List Stmt} (h:TP c A env ⟨ς,η⟩ t P) (hp:P) (h1:WSs c A env ⟨ς,η⟩ b (thenS c A env rest k)):WSs c A env ⟨ς,η⟩ (.If t b o pos::rest) k:=sIf h (fun qa=>h1) fun q=>absurd hp q
theorem sIfB {γ:Type} {K:γ→FV→St→Prop} {a b:γ} {sts:List Stmt} [Decidable P] (h:TP c A env ⟨ς,η⟩ t P) (h1:P→WSs c A env ⟨ς,η⟩ sts (thenS c A env rest (K a))) (h2:¬ P→WSs c A env ⟨ς,η⟩ rest (K b)):WSs c A env ⟨ς,η⟩ (.If t sts [] pos::rest) (K (if P then a else b)) :=
 sIf h (fun q=>by rw [if_pos q]; exact h1 q) fun q=>wSs_nil (by rw [if_neg q]; exact h2 q)
theorem sIfH {K:FV→St→Prop} (h:TP c A env ⟨ς,η⟩ t P) (hp:P) (h1:EV c A env ⟨ς,η⟩ e X) (hk:K (.ret X) ⟨ς,η⟩):WSs c A env ⟨ς,η⟩ (.If t [.Return (some e) p] [] pos::rest) K:=sTh h hp (wSs_Ret (h1.run _ hk))
theorem sSub {k:FV→St→Prop} {o i:Expr} {a:Addr} {oo o':O} (hv:EV c A env ⟨ς,η⟩ e W) (ho:EV c A env ⟨ς,η⟩ o X) (hi:EV c A env ⟨ς,η⟩ i Y) (ha:(a,oo)∈η) (hS:SetV c A η X Y W a o') (hr:WSs c A env ⟨ς,hset η a o'⟩ rest k)
  (hs:swapsWith e (some (.Subscript o i p)) pos.line env=pure false:=by rfl) (hsw:swappedStores [.Subscript o i p] e env=pure none:=by rfl) (hte:(assignEach [.Subscript o i p] env).map (·.2)=[assign (.Subscript o i p) env]:=by rfl) :
  WSs c A env ⟨ς,η⟩ (.Assign [.Subscript o i p] e pos::rest) k:=wSs_cons (wS_Assign (hv.run _ (wA_Sub (ho.run _ (hi.run _ (I33 a oo o' ha hS hr))))) hs hsw hte)
theorem sDel {k:FV→St→Prop} {o i:Expr} {a:Addr} {oo o':O} (ho:EV c A env ⟨ς,η⟩ o X) (hi:EV c A env ⟨ς,η⟩ i Y) (ha:(a,oo)∈η) (hS:DelV c A η X Y a o') (hr:WSs c A env ⟨ς,hset η a o'⟩ rest k)
  (he:deleteEach [.Subscript o i p] env=(do delete (.Subscript o i p) env; pure ()):=by rfl):WSs c A env ⟨ς,η⟩ (.Delete [.Subscript o i p] pos::rest) k:=wSs_cons (wS_Del (ho.run _ (hi.run _ (I33 a oo o' ha hS hr))) he)
theorem sAug {k:FV→St→Prop} {o i v:Expr} {op:Operator} {a:Addr} {oo o':O} {w w':V} (ho:EV c A env ⟨ς,η⟩ o X) (hi:EV c A env ⟨ς,η⟩ i Y) (hit:ItemV c A η X Y w) (hv:EV c A env ⟨ς,η⟩ v Z) (hop:AOk A→∀ Z' P s x y,HpR c Z' P s.heap η→Rd c Z' s.heap w x→Rd c Z' s.heap Z y→Res c A Z' s (inplaceOp op x y) w')
  (ha:(a,oo)∈η) (hS:SetV c A η X Y w' a o') (hr:WSs c A env ⟨ς,hset η a o'⟩ rest k) (hst:∀ ov iv new,augStore i ov iv new=(do holding [new,ov,iv] (setItem ov iv new); release [new,ov,iv] []; pure .next):=by intros; rfl) :
  WSs c A env ⟨ς,η⟩ (.AugAssign (.Subscript o i p) op v pos::rest) k:=wSs_cons (wS_AugSub (ho.run _ (hi.run _ ⟨w,hit,hv.run _ ⟨w',hop,a,oo,o',ha,hS,hr⟩⟩)) hst)
theorem WSs.hs {pre post:List (Addr×O)} {d:Addr} {o o':O} {l:List (Str×V)} {sts:List Stmt} {k:FV→St→Prop} (h:WSs c A env ⟨l,pre++(d,o')::post⟩ sts k):WSs c A env ⟨l,hset (pre++(d,o)::post) d o'⟩ sts k :=
 WSs.nd fun hnd=>by
  simp only [hset_fst] at hnd
  rw [hset_mid hnd]; exact h
theorem sMeth {k:FV→St→Prop} {o:Expr} {name:Str} {T id:String} {a:Addr} {oo o':O} (m:MethOf T name id) (ho:EV c A env ⟨ς,η⟩ o X) (hv:VT c η X T) (hes:EVs c A env ⟨ς,η⟩ pos (e::es) Xs) (ha:(a,oo)∈η) (hU:UCall c A η (.builtin id) (X::Xs) a o' Y) (hr:WSs c A env ⟨ς,hset η a o'⟩ rest k)
  (hbase:attributeBase o name env (eval o env)=eval o env:=by rfl) (hline:(p.endLine == pos.line)=true:=by rfl)
  (hfew:((backTo pos (starEach (e::es) env)).all (fun x=>!x.1)&&(backToKw pos (keywordEach [] env)).all (fun x=>x.1.isSome)&&decide ((e::es).length + ([]:List Keyword).length + (if ([]:List Keyword).isEmpty then 0 else 1) < 30))=true:=by rfl)
  (he:starEach (e::es) env=(false,eval e env)::starEach es env:=by rfl) (hplain:(backTo pos (starEach (e::es) env)).any (·.1)=false:=by rfl) (hs:swapsWith (.Call (.Attribute o name p) (e::es) [] pos) none spos.line env=pure false:=by rfl) :
  WSs c A env ⟨ς,η⟩ (.Expr (.Call (.Attribute o name p) (e::es) [] pos) spos::rest) k:=wSs_cons (wS_Expr (wE_Meth m (ho.run _ ⟨hv,hes.run _ (.inr (I43 a oo o' Y ha hU hr))⟩) hbase hline hfew he hplain) hs)
theorem ev_SA {C N:Addr} {mN:Str→Option Value} {o name:Str} {a d:Addr} {es':List (Str×V)} (K:ClsOk c C N mN) (hn:mN name=none) (hB:typeLookup (.type "object") name=pure none) (hx:ς.lookup o=some (.ref a)) (h1:(a,O.inst C d)∈η) (h2:(d,O.ns es')∈η) (h3:es'.lookup name=some Y)
  (hd:(o == ("__debug__" : Str))=false:=by decide) (hn':(o == ("__classdict__" : Str))=false:=by decide):EV c A env ⟨ς,η⟩ (.Attribute (.Name o p) name pos) Y:=⟨fun qa hk=>wE_SA K hn hB hx h1 h2 h3 hk hd hn'⟩
theorem ev_items {a:Addr} {es':List (Str×V)} {name:Str} (hname:name = "items") (h:EV c A env ⟨ς,η⟩ e (.ref a)) (ha:(a,O.dct es')∈η) (hbase:attributeBase e name env (eval e env)=eval e env:=by rfl) (hline:(p.endLine == pos.line)=true:=by rfl):EV c A env ⟨ς,η⟩ (.Call (.Attribute e name p) [] [] pos) (.view (.ref a)):=by
 subst hname
 exact ⟨fun qa hk=>wE_Meth0 meth_items (h.run _ ⟨vt_odct ha,.inl ⟨_,b_items_odct ha,hk⟩⟩) hbase hline⟩
theorem ev_itemsF {es':List (Str×V)} {name:Str} (hname:name = "items") (h:EV c A env ⟨ς,η⟩ e (.dct es')) (hbase:attributeBase e name env (eval e env)=eval e env:=by rfl) (hline:(p.endLine == pos.line)=true:=by rfl):EV c A env ⟨ς,η⟩ (.Call (.Attribute e name p) [] [] pos) (.view (.dct es')):=by
 subst hname
 exact ⟨fun qa hk=>wE_Meth0 meth_items (h.run _ ⟨vt_dct,.inl ⟨_,b_items_dct,hk⟩⟩) hbase hline⟩
theorem ev_Meth {o:Expr} {name:Str} {T id:String} (m:MethOf T name id) (ho:EV c A env ⟨ς,η⟩ o X) (hv:VT c η X T) (hes:EVs c A env ⟨ς,η⟩ pos (e::es) Xs) (hB:BCall c A η (.builtin id) (X::Xs) Y)
  (hbase:attributeBase o name env (eval o env)=eval o env:=by rfl) (hline:(p.endLine == pos.line)=true:=by rfl)
  (hfew:((backTo pos (starEach (e::es) env)).all (fun x=>!x.1)&&(backToKw pos (keywordEach [] env)).all (fun x=>x.1.isSome)&&decide ((e::es).length + ([]:List Keyword).length + (if ([]:List Keyword).isEmpty then 0 else 1) < 30))=true:=by rfl)
  (he:starEach (e::es) env=(false,eval e env)::starEach es env:=by rfl) (hplain:(backTo pos (starEach (e::es) env)).any (·.1)=false:=by rfl):EV c A env ⟨ς,η⟩ (.Call (.Attribute o name p) (e::es) [] pos) Y:=⟨fun qa hk=>wE_Meth m (ho.run _ ⟨hv,hes.run _ (.inl ⟨Y,hB,hk⟩)⟩) hbase hline hfew he hplain⟩
theorem ev_Self {C N:Addr} {mN:Str→Option Value} {o name:Str} {a d f:Addr} {es':List (Str×V)} {D:DefD} {yv:Option Value} (K:ClsOk c C N mN) (hf:mN name=some (.ref f)) (F:IsFn c f D) (hB:typeLookup (.type "object") name=pure yv) (hx:ς.lookup o=some (.ref a)) (h1:(a,O.inst C d)∈η) (h2:(d,O.ns es')∈η) (h3:es'.lookup name=none)
  (hes:EVs c A env ⟨ς,η⟩ pos (e::es) Xs) (hR:Rm n A) (hp:CallSpec c n f η (.ref a::Xs) fun X H'=>X=R∧H'=η)
  (hd:(o == ("__debug__" : Str))=false:=by decide) (hn':(o == ("__classdict__" : Str))=false:=by decide) (hbase:attributeBase (.Name o p₁) name env (eval (.Name o p₁) env)=eval (.Name o p₁) env:=by rfl) (hline:(p.endLine == pos.line)=true:=by rfl)
  (hform:methodCallForm ((e::es).length + ([]:List Keyword).length) (backTo pos (starEach (e::es) env)) (backToKw pos (keywordEach [] env))=true:=by rfl)
  (he:starEach (e::es) env=(false,eval e env)::starEach es env:=by rfl):EV c A env ⟨ς,η⟩ (.Call (.Attribute (.Name o p₁) name p) (e::es) [] pos) R:=⟨fun qa hk=>E51 F fun qa qb qc qd qe M =>
 wE_MethI K hf M hB ((ev_N hx hd hn').run _ (I35 a d es' rfl h1 h2 h3 (hes.run _ (CRest.all hR hp fun Y H'=>R02 fun z0 z1=>by subst z0; subst z1; exact hk)))) hbase hline hform he⟩
theorem sSelf {k:FV→St→Prop} {C N:Addr} {mN:Str→Option Value} {o name:Str} {a d f:Addr} {es':List (Str×V)} {D:DefD} {yv:Option Value} {post:V→List (Addr×O)→Prop} (hkx:env.kindOf x=some .local∨env.kindOf x=some .cell) (K:ClsOk c C N mN) (hf:mN name=some (.ref f)) (F:IsFn c f D) (hB:typeLookup (.type "object") name=pure yv) (hx:ς.lookup o=some (.ref a)) (h1:(a,O.inst C d)∈η) (h2:(d,O.ns es')∈η) (h3:es'.lookup name=none)
  (hes:EVs c A env ⟨ς,η⟩ pos (e::es) Xs) (hR:Rm n A) (hp:CallSpec c n f η (.ref a::Xs) post) (hr:∀ Y H',post Y H'→WSs c A env ⟨setL ς x Y,H'⟩ rest k)
  (hd:(o == ("__debug__" : Str))=false:=by decide) (hn':(o == ("__classdict__" : Str))=false:=by decide) (hbase:attributeBase (.Name o p₁) name env (eval (.Name o p₁) env)=eval (.Name o p₁) env:=by rfl) (hline:(p.endLine == pos.line)=true:=by rfl)
  (hform:methodCallForm ((e::es).length + ([]:List Keyword).length) (backTo pos (starEach (e::es) env)) (backToKw pos (keywordEach [] env))=true:=by rfl)
  (he:starEach (e::es) env=(false,eval e env)::starEach es env:=by rfl)
  (hs:swapsWith (.Call (.Attribute (.Name o p₁) name p) (e::es) [] pos) (some (.Name x p₂)) spos.line env=pure false:=by rfl) (hsw:swappedStores [.Name x p₂] (.Call (.Attribute (.Name o p₁) name p) (e::es) [] pos) env=pure none:=by rfl) (hte:(assignEach [.Name x p₂] env).map (·.2)=[assign (.Name x p₂) env]:=by rfl) :
  WSs c A env ⟨ς,η⟩ (.Assign [.Name x p₂] (.Call (.Attribute (.Name o p₁) name p) (e::es) [] pos) spos::rest) k:=E51 F fun qa qb qc qd qe M =>
 wSs_Set hkx (wE_MethI K hf M hB ((ev_N hx hd hn').run _ (I35 a d es' rfl h1 h2 h3 (hes.run _ (CRest.all hR hp hr)))) hbase hline hform he) hs hsw hte
theorem sSelf0 {k:FV→St→Prop} {C N:Addr} {mN:Str→Option Value} {o name:Str} {a d f:Addr} {es':List (Str×V)} {D:DefD} {yv:Option Value} {post:V→List (Addr×O)→Prop} (hkx:env.kindOf x=some .local∨env.kindOf x=some .cell) (K:ClsOk c C N mN) (hf:mN name=some (.ref f)) (F:IsFn c f D) (hB:typeLookup (.type "object") name=pure yv) (hx:ς.lookup o=some (.ref a)) (h1:(a,O.inst C d)∈η) (h2:(d,O.ns es')∈η) (h3:es'.lookup name=none)
  (hR:Rm n A) (hp:CallSpec c n f η [.ref a] post) (hr:∀ Y H',post Y H'→WSs c A env ⟨setL ς x Y,H'⟩ rest k)
  (hd:(o == ("__debug__" : Str))=false:=by decide) (hn':(o == ("__classdict__" : Str))=false:=by decide) (hbase:attributeBase (.Name o p₁) name env (eval (.Name o p₁) env)=eval (.Name o p₁) env:=by rfl) (hline:(p.endLine == pos.line)=true:=by rfl)
  (hs:swapsWith (.Call (.Attribute (.Name o p₁) name p) [] [] pos) (some (.Name x p₂)) spos.line env=pure false:=by rfl) (hsw:swappedStores [.Name x p₂] (.Call (.Attribute (.Name o p₁) name p) [] [] pos) env=pure none:=by rfl) (hte:(assignEach [.Name x p₂] env).map (·.2)=[assign (.Name x p₂) env]:=by rfl) :
  WSs c A env ⟨ς,η⟩ (.Assign [.Name x p₂] (.Call (.Attribute (.Name o p₁) name p) [] [] pos) spos::rest) k:=E51 F fun qa qb qc qd qe M =>
 wSs_Set hkx (wE_MethI0 K hf M hB ((ev_N hx hd hn').run _ (I35 a d es' rfl h1 h2 h3 (CRest.all hR hp hr))) hbase hline) hs hsw hte
theorem tp_int {i:Int} (h:EV c A env ⟨ς,η⟩ e (.int i)) (he:isTrue e env (eval e env)=(do let v ← eval e env; standAt e.pos; holding [v] (truthy v)):=by rfl):TP c A env ⟨ς,η⟩ e (i≠0):=⟨fun qa hk=>wT_plain (h.run _ ⟨_,truth_int,hk _ (by simp)⟩) he⟩
theorem tp_own {a:Addr} {xs:List Str} (h:EV c A env ⟨ς,η⟩ e (.ref a)) (ha:(a,O.lst (xs.map .str))∈η) (hl:xs.length≤sizeLine) (he:isTrue e env (eval e env)=(do let v ← eval e env; standAt e.pos; holding [v] (truthy v)):=by rfl):TP c A env ⟨ς,η⟩ e (xs≠[]) :=
 ⟨fun qa hk=>wT_plain (h.run _ ⟨_,truth_own ha rfl (by rw [List.length_map]; exact hl),hk _ (by cases xs <;> simp)⟩) he⟩
theorem ev_own {a:Addr} {i:Int} (h:EV c A env ⟨ς,η⟩ e (.ref a)) (ha:(a,O.lst Xs)∈η) (hi:Xs[i.toNat]?=some X) (h0:0≤i:=by decide) (h1:i < 2 ^ 62:=by decide):EV c A env ⟨ς,η⟩ (.Subscript e (.Constant (.int i) n p₂) p₃) X:=ev_Sub h ev_i (item_own ha h0 h1 hi)
theorem tp_inO {a:Addr} {xs:List Str} (h1:EV c A env ⟨ς,η⟩ l (.str x)) (h2:EV c A env ⟨ς,η⟩ r (.ref a)) (ha:(a,O.set xs)∈η) (hm:behindInMarks .In r=false:=by rfl):TP c A env ⟨ς,η⟩ (.Compare l [.In] [r] pos) (x∈xs):=tp_Cmp h1 h2 (cmp_in_oset (b:=decide (x∈xs)) ha dec_iff) dec_iff hm
theorem tp_niO {a:Addr} {xs:List Str} (h1:EV c A env ⟨ς,η⟩ l (.str x)) (h2:EV c A env ⟨ς,η⟩ r (.ref a)) (ha:(a,O.set xs)∈η) (hm:behindInMarks .NotIn r=false:=by rfl):TP c A env ⟨ς,η⟩ (.Compare l [.NotIn] [r] pos) (x∉xs):=tp_Cmp h1 h2 (cmp_notin_oset (b:=decide (x∉xs)) ha dec_iff) dec_iff hm
theorem tp_inD {a:Addr} {es':List (Str×V)} (h1:EV c A env ⟨ς,η⟩ l (.str x)) (h2:EV c A env ⟨ς,η⟩ r (.ref a)) (ha:(a,O.dct es')∈η) (hm:behindInMarks .In r=false:=by rfl):TP c A env ⟨ς,η⟩ (.Compare l [.In] [r] pos) ((dget es' x).isSome=true):=tp_Cmp h1 h2 (cmp_in_odct ha) Iff.rfl hm
theorem tp_niD {a:Addr} {es':List (Str×V)} (h1:EV c A env ⟨ς,η⟩ l (.str x)) (h2:EV c A env ⟨ς,η⟩ r (.ref a)) (ha:(a,O.dct es')∈η) (hm:behindInMarks .NotIn r=false:=by rfl):TP c A env ⟨ς,η⟩ (.Compare l [.NotIn] [r] pos) (¬ (dget es' x).isSome=true):=tp_Cmp h1 h2 (cmp_notin_odct ha) (by cases (dget es' x).isSome <;> simp) hm
end
section
variable {c:Cx} {A:Around} {env:Env} {ς:List (Str×V)} {η:List (Addr×O)} {α:Type} {f:α→V} {target iter t:Expr} {X R:V} {xs:List V} {ls:List α} {body rest:List Stmt} {fp ip rp:Pos}
noncomputable def BodyB (c:Cx) (A:Around) (env:Env) (ς:List (Str×V)) (η:List (Addr×O)) (target:Expr) (body:List Stmt) (X:V) (P:Prop) (R:V):Prop :=
 ∀ k:FV→St→Prop,(P→∀ τ,St.le τ ⟨ς,η⟩→k (.ret R) τ)→(¬ P→∀ τ,St.le τ ⟨ς,η⟩→k .next τ)→WA c A env ⟨ς,η⟩ target X fun τ=>WSs c A env τ body k
theorem tB {P:Prop} {e:Expr} {l':List (Str×V)} (h1:AV c A env ⟨ς,η⟩ target X ⟨l',η⟩) (h2:TP c A env ⟨l',η⟩ t P) (h3:P→EV c A env ⟨l',η⟩ e R) (h4:LeL ς l'):BodyB c A env ς η target [.If t [.Return (some e) rp] [] ip] X P R:=fun k k1 k2 =>
 h1.run _ (sIf h2 (fun q=>wSs_Ret ((h3 q).run _ (k1 q _ h4.le))) fun q=>wSs_nil (wSs_nil (k2 q _ h4.le)))
theorem tB2 {P Q:Prop} {e t':Expr} {jp:Pos} {l':List (Str×V)} (h1:AV c A env ⟨ς,η⟩ target X ⟨l',η⟩) (h2:TP c A env ⟨l',η⟩ t P) (h2':P→TP c A env ⟨l',η⟩ t' Q) (h3:P→Q→EV c A env ⟨l',η⟩ e R) (h4:LeL ς l'):BodyB c A env ς η target [.If t [.If t' [.Return (some e) rp] [] jp] [] ip] X (P∧Q) R:=fun k k1 k2 =>
 h1.run _ (sIf h2 (fun q=>sIf (h2' q) (fun q'=>wSs_Ret ((h3 q q').run _ (k1 ⟨q,q'⟩ _ h4.le))) fun q'=>wSs_nil (wSs_nil (wSs_nil (k2 (fun z=>q' z.2) _ h4.le)))) fun q=>wSs_nil (wSs_nil (k2 (fun z=>q z.1) _ h4.le)))
noncomputable def LeftJ (f:α→V) (P:α→Prop) (ls:List α) (σ:St) (r:List V) (τ:St):Prop:=∃ td:List α,τ=σ∧r=td.map f∧(∀ a∈td,a∈ls)∧∀ a∈ls,a∈td∨¬ P a
theorem LeftJ.turn {P:α→Prop} {σ τ:St} {X:V} {r:List V} {G:Prop} (h:LeftJ f P ls σ (X::r) τ) (k:∀ a∈ls,τ=σ→X=f a→(¬ P a→LeftJ f P ls σ r σ)→G):G:=by
 refine E14 h fun td h1 h2 h3 h4=>?_
 cases td with
 | nil=>cases h2
 | cons a td =>
  rw [List.map_cons] at h2
  refine k a (h3 a (.head _)) h1 (List.cons.inj h2).1 fun q=>I14 td rfl (List.cons.inj h2).2 (fun b hb=>h3 b (.tail _ hb)) fun b hb=>?_
  rcases h4 b hb with z | z
  ·rcases List.mem_cons.mp z with z | z
   ·rw [z]; exact .inr q
   ·exact .inl z
  ·exact .inr z
theorem LeftJ.done {P:α→Prop} {σ τ:St} (h:LeftJ f P ls σ [] τ):τ=σ∧∀ a∈ls,¬ P a:=by
 refine E14 h fun td h1 h2 h3 h4=>?_
 cases td with
 | cons a td=>cases h2
 | nil=>exact ⟨h1,fun a ha=>(h4 a ha).resolve_left fun z=>nomatch z⟩
theorem sForC {k:FV→St→Prop} {ord:List V→Prop} {P:α→Prop} (hi:EV c A env ⟨ς,η⟩ iter X) (hq:SeqV c A target η X (fun qa=>False) ord) (hord:∀ ys,ord ys→∃ l:List α,ys=l.map f∧∀ a,a∈l↔a∈ls) (ht:∀ a∈ls,BodyB c A env ς η target body (f a) (P a) R)
  (hit:(∃ a∈ls,P a)→∀ τ,St.le τ ⟨ς,η⟩→k (.ret R) τ) (done:(∀ a∈ls,¬ P a)→WSs c A env ⟨ς,η⟩ rest k) (hs:∀ x,foldedSetIterable iter env x=pure x:=by intro _; rfl):WSs c A env ⟨ς,η⟩ (.For target iter body [] fp::rest) k:=by
 refine wSs_cons (wS_For (LeftJ f P ls ⟨ς,η⟩) (hi.run _ ⟨ord,hq,fun ys hy=>?_⟩) (fun Y r τ hJ=>?_) (fun τ hJ=>?_) hs)
 ·exact E12 (hord ys hy) fun l h1 h2=>I12 _ (St.le.refl _) (I14 l rfl h1 (fun a=>(h2 a).mp) fun a ha=>.inl ((h2 a).mpr ha))
 ·refine hJ.turn fun a ha z1 z2 hn=>?_
  subst z1; subst z2
  exact ht a ha _ (fun q τ hτ=>hit ⟨a,ha,q⟩ τ hτ) fun q τ hτ=>I12 _ hτ (hn q)
 ·refine E02 hJ.done fun z1 h=>?_
  subst z1
  exact done h
theorem sForH {k:FV→St→Prop} {P:α→Prop} {d:Addr} {ob:O} (hi:EV c A env ⟨ς,(d,ob)::η⟩ iter X) (hq:SeqV c A target ((d,ob)::η) X (fun b=>b=d) (fun ys=>ys=xs)) (hx:xs=ls.map f) (ht:∀ a∈ls,BodyB c A env ς η target body (f a) (P a) R)
  (hit:(∃ a∈ls,P a)→∀ τ,St.le τ ⟨ς,(d,ob)::η⟩→k (.ret R) τ) (done:(∀ a∈ls,¬ P a)→WSs c A env ⟨ς,(d,ob)::η⟩ rest k) (hs:∀ x,foldedSetIterable iter env x=pure x:=by intro _; rfl):WSs c A env ⟨ς,(d,ob)::η⟩ (.For target iter body [] fp::rest) k:=by
 refine wSs_cons (wS_ForH (d:=d) (ob:=ob) (LeftJ f P ls ⟨ς,η⟩) (hi.run _ ⟨_,hq,.head _,fun ys hy hnd=>?_⟩) (fun Y r τ hJ=>?_) (fun τ hJ=>?_) hs)
 ·exact I13 ⟨ς,η⟩ (le_hp (List.sublist_cons_self _ _)) (fun o ho=>(List.nodup_cons.mp hnd).1 (List.mem_map_of_mem (f:=(·.1)) ho)) (I14 ls rfl (hy.trans hx) (fun a h=>h) fun a ha=>.inl ha)
 ·refine hJ.turn fun a ha z1 z2 hn=>?_
  subst z1; subst z2
  exact ht a ha _ (fun q τ hτ=>hit ⟨a,ha,q⟩ _ (le_cons hτ)) fun q τ hτ=>I12 _ hτ (hn q)
 ·refine E02 hJ.done fun z1 h=>?_
  subst z1
  exact done h
theorem BodyB.iff {P Q:Prop} (h:BodyB c A env ς η target body X P R) (q:P↔Q):BodyB c A env ς η target body X Q R:=fun k k1 k2=>h k (fun z=>k1 (q.mp z)) fun z=>k2 fun w=>z (q.mpr w)
theorem sFoldE {k:FV→St→Prop} {ς₀:List (Str×V)} {η₀:List (Addr×O)} {I:List α→List α→List (Addr×O)→Prop} (hi:EV c A env ⟨ς₀,η₀⟩ iter X) (hq:SeqV c A target η₀ X (fun qa=>False) (fun ys=>ys=xs)) (hx:xs=ls.map f) {H₀:List (Addr×O)} (h0:St.le ⟨ς₀,η₀⟩ ⟨ς,H₀⟩) (h0':I [] ls H₀)
  (ht:∀ dn a td H,dn++a::td=ls→I dn (a::td) H→∀ k':FV→St→Prop,(∀ τ H',I (dn++[a]) td H'→St.le τ ⟨ς,H'⟩→k' .next τ∧k' .cont τ)→WA c A env ⟨ς,H⟩ target (f a) fun τ=>WSs c A env τ body k')
  (done:∀ H,I ls [] H→WSs c A env ⟨ς,H⟩ rest k) (hs:∀ x,foldedSetIterable iter env x=pure x:=by intro _; rfl):WSs c A env ⟨ς₀,η₀⟩ (.For target iter body [] fp::rest) k:=by
 refine wSs_cons (wS_For (fun r τ=>∃ dn td H,τ=⟨ς,H⟩∧r=td.map f∧dn++td=ls∧I dn td H) (hi.run _ ⟨_,hq,fun ys hy=>I12 _ h0 (I34 [] ls H₀ rfl (hy.trans hx) rfl h0')⟩) (fun Y r τ hJ=>?_) (fun τ hJ=>?_) hs)
 ·refine E34 hJ fun dn td H z1 z2 z3 z4=>?_
  clear hJ
  cases td with
  | nil=>cases z2
  | cons a td =>
   have e1:=(List.cons.inj z2).1
   have e2:=(List.cons.inj z2).2
   subst z1; subst e1; subst e2
   refine ht dn a td H z3 z4 _ fun τ H' hI hτ=>?_
   have h:∃ τ',τ.le τ'∧∃ dn' td' H',τ'=⟨ς,H'⟩∧td.map f=td'.map f∧dn'++td'=ls∧I dn' td' H':=I12 _ hτ (I34 (dn++[a]) td H' rfl rfl (by rw [List.append_assoc]; exact z3) hI)
   exact ⟨h,h⟩
 ·refine E34 hJ fun dn td H z1 z2 z3 z4=>?_
  clear hJ
  cases td with
  | cons a td=>cases z2
  | nil =>
   rw [List.append_nil] at z3
   subst z1; subst z3
   exact done H z4
theorem sFold {k:FV→St→Prop} {ς₀:List (Str×V)} {η₀:List (Addr×O)} {S:List α→List α→List (Addr×O)} (hi:EV c A env ⟨ς₀,η₀⟩ iter X) (hq:SeqV c A target η₀ X (fun qa=>False) (fun ys=>ys=xs)) (hx:xs=ls.map f) (h0:St.le ⟨ς₀,η₀⟩ ⟨ς,S [] ls⟩)
  (ht:∀ dn a td,dn++a::td=ls→∀ k':FV→St→Prop,(∀ τ,St.le τ ⟨ς,S (dn++[a]) td⟩→k' .next τ∧k' .cont τ)→WA c A env ⟨ς,S dn (a::td)⟩ target (f a) fun τ=>WSs c A env τ body k')
  (done:WSs c A env ⟨ς,S ls []⟩ rest k) (hs:∀ x,foldedSetIterable iter env x=pure x:=by intro _; rfl):WSs c A env ⟨ς₀,η₀⟩ (.For target iter body [] fp::rest) k :=
 sFoldE (I:=fun dn td H=>H=S dn td) hi hq hx h0 rfl (fun dn a td H z e k' hk=>by subst e; exact ht dn a td z k' fun τ hτ=>hk τ _ rfl hτ) (fun H e=>by subst e; exact done) hs
theorem sFoldH {k:FV→St→Prop} {ς₀:List (Str×V)} {η₀:List (Addr×O)} {d:Addr} {ob:O} {S:List α→List α→List (Addr×O)} (hi:EV c A env ⟨ς₀,(d,ob)::η₀⟩ iter X) (hq:SeqV c A target ((d,ob)::η₀) X (fun b=>b=d) (fun ys=>ys=xs)) (hx:xs=ls.map f) (h0:St.le ⟨ς₀,η₀⟩ ⟨ς,S [] ls⟩)
  (ht:∀ dn a td,dn++a::td=ls→∀ k':FV→St→Prop,(∀ τ,St.le τ ⟨ς,S (dn++[a]) td⟩→k' .next τ)→WA c A env ⟨ς,S dn (a::td)⟩ target (f a) fun τ=>WSs c A env τ body k')
  (done:WSs c A env ⟨ς,(d,ob)::S ls []⟩ rest k) (hs:∀ x,foldedSetIterable iter env x=pure x:=by intro _; rfl):WSs c A env ⟨ς₀,(d,ob)::η₀⟩ (.For target iter body [] fp::rest) k:=by
 refine wSs_cons (wS_ForH (d:=d) (ob:=ob) (fun r τ=>∃ dn td:List α,τ=⟨ς,S dn td⟩∧r=td.map f∧dn++td=ls) (hi.run _ ⟨_,hq,.head _,fun ys hy hnd=>I13 ⟨ς,S [] ls⟩ ((le_hp (List.sublist_cons_self _ _)).trans h0) (fun o ho=>(List.nodup_cons.mp hnd).1 (List.mem_map_of_mem (f:=(·.1)) (h0.2.1 d o ho))) (I23 [] ls rfl (hy.trans hx) rfl)⟩) (fun Y r τ hJ=>?_) (fun τ hJ=>?_) hs)
 ·refine E23 hJ fun dn td z1 z2 z3=>?_
  clear hJ
  cases td with
  | nil=>cases z2
  | cons a td =>
   have e1:=(List.cons.inj z2).1
   have e2:=(List.cons.inj z2).2
   subst z1; subst e1; subst e2
   exact ht dn a td z3 _ fun τ hτ=>I12 _ hτ (I23 (dn++[a]) td rfl rfl (by rw [List.append_assoc]; exact z3))
 ·refine E23 hJ fun dn td z1 z2 z3=>?_
  clear hJ
  cases td with
  | cons a td=>cases z2
  | nil =>
   rw [List.append_nil] at z3
   subst z1; subst z3
   exact done
theorem sForBrk {k:FV→St→Prop} {P:α→Prop} {x:Str} {b:Bool} {n:Nat} {xp cp ap bp:Pos} {l':α→List (Str×V)} (hi:EV c A env ⟨ς,η⟩ iter (.lst xs)) (hx:xs=ls.map f) (ht:∀ a∈ls,AV c A env ⟨ς,η⟩ target (f a) ⟨l' a,η⟩∧TP c A env ⟨l' a,η⟩ t (P a)∧LeL ς (l' a)) (hkx:env.kindOf x=some .local∨env.kindOf x=some .cell)
  (hbrk:(∃ a∈ls,P a)→∀ a∈ls,WSs c A env ⟨setL (l' a) x (.bool b),η⟩ rest k) (done:(∀ a∈ls,¬ P a)→WSs c A env ⟨ς,η⟩ rest k) (hp:plainTarget target=true:=by rfl) (hs:∀ x,foldedSetIterable iter env x=pure x:=by intro _; rfl)
  (hs':swapsWith (.Constant (.bool b) n cp) (some (.Name x xp)) ap.line env=pure false:=by rfl) (hsw:swappedStores [.Name x xp] (.Constant (.bool b) n cp) env=pure none:=by rfl) (hte:(assignEach [.Name x xp] env).map (·.2)=[assign (.Name x xp) env]:=by rfl) :
  WSs c A env ⟨ς,η⟩ (.For target iter [.If t [.Assign [.Name x xp] (.Constant (.bool b) n cp) ap,.Break bp] [] ip] [] fp::rest) k:=by
 refine wSs_cons (wS_For (LeftJ f P ls ⟨ς,η⟩) (hi.run _ ⟨_,seq_lst hp,fun ys hy=>I12 _ (St.le.refl _) (I14 ls rfl (Eq.trans hy hx) (fun a h=>h) fun a ha=>.inl ha)⟩) (fun Y r τ hJ=>?_) (fun τ hJ=>?_) hs)
 ·refine hJ.turn fun a ha z1 z2 hn=>?_
  subst z1; subst z2
  refine E03 (ht a ha) fun a1 a2 a3=>?_
  exact a1.run _ (sIf a2 (fun q=>sSet hkx ev_b (wSs_cons (wS_Break (hbrk ⟨a,ha,q⟩ a ha))) hs' hsw hte) fun q=>wSs_nil (wSs_nil (I12 _ a3.le (hn q))))
 ·refine E02 hJ.done fun z1 h=>?_
  subst z1
  exact done h
theorem ordL (ys:List V) (h:ys=ls.map f):∃ l:List α,ys=l.map f∧∀ a,a∈l↔a∈ls:=⟨ls,h,fun qa=>Iff.rfl⟩
end
theorem anyP_t {α:Type} {P:α→Prop} [DecidablePred P] {ls:List α} (h:∃ a∈ls,P a):(ls.any fun a=>decide (P a))=true:=E12 h fun a h1 h2=>List.any_eq_true.mpr ⟨a,h1,decide_eq_true h2⟩
theorem anyP_f {α:Type} {P:α→Prop} [DecidablePred P] {ls:List α} (h:∀ a∈ls,¬ P a):(ls.any fun a=>decide (P a))=false:=List.any_eq_false.mpr fun a ha z=>h a ha (of_decide_eq_true z)
theorem any_t {α:Type} {pb:α→Bool} {ls:List α} (h:∃ a∈ls,pb a=true):ls.any pb=true:=List.any_eq_true.mpr h
theorem any_f {α:Type} {pb:α→Bool} {ls:List α} (h:∀ a∈ls,¬ pb a=true):ls.any pb=false:=List.any_eq_false.mpr h
theorem ordS {xs:List Str} (ys:List V) (h:∃ ks:List Str,ys=ks.map V.str∧ks.Perm xs):∃ l:List Str,ys=l.map V.str∧∀ a,a∈l↔a∈xs:=E12 h fun ks h1 h2=>I12 ks h1 fun qa=>h2.mem_iff
end Mine
end
noncomputable section
set_option maxRecDepth 100000
namespace Mine
open PySem PySem.SeqAt
noncomputable abbrev PP:Program:=PySem.Challenge.pw_sx_r111_3
noncomputable def D_clash:DefD:=defD PP.main.body[1]?
theorem k_clash:DefK D_clash ["a","b"] D_clash.body:=mkK rfl (by
 intro nm qual pm code doc vs h
 refine E21 (list2 h) fun x y z2=>?_; subst z2; rfl)
theorem prs_map (l:List (Str×Str)):prs l=l.map fun p=>V.tup [.str p.1,.str p.2]:=by unfold prs RdPairs; rw [List.map_map]; rfl
theorem ev_CompP {c:Cx} {A:Around} {env:Env} {ς:List (Str×V)} {η:List (Addr×O)} {pos:Pos} {α:Type} {f:α→V} {target elt iter:Expr} {ifs:List Expr} {scope:Scope} {xs:List V} {ls:List α} (y:α→Str×Str) (hf:Inj f) (OK:CompOk scope env) (hi:EV c A env ⟨ς,η⟩ iter (.lst xs)) (hx:xs=ls.map f) (hl:ls.length≤sizeLine)
  (ht:∀ C,∀ a∈ls,TurnD c A (cenvOf scope env C) (capsOf scope ς) η target ifs elt (f a) True (.tup [.str (y a).1,.str (y a).2])) (hp:plainTarget target=true:=by rfl)
  (hs:∀ x,foldedSetIterable iter env x=pure x:=by intro _; rfl):EV c A env ⟨ς,η⟩ (.ListComp elt [⟨target,iter,ifs,0⟩] scope pos) (.lst (prs (ls.map y))) :=
 ev_eq (ev_CompY (fun p:Str×Str=>V.tup [.str p.1,.str p.2]) y hf OK hi hx hl ht hp hs) (by rw [prs_map])
theorem gadd_len (p s:Str):∀ G:List (Str×List Str),(gadd G p s).length≤G.length + 1
 | []=>Nat.le_refl _
 | (q,xs)::r=>by
  unfold gadd
  by_cases e:q=p
  ·rw [if_pos e]; exact Nat.le_succ _
  ·rw [if_neg e]; exact Nat.succ_le_succ (gadd_len p s r)
theorem gadd_mem (p s:Str) (n:Nat):∀ G:List (Str×List Str),(∀ g∈G,g.2.length≤n)→∀ g∈gadd G p s,g.2.length≤n + 1
 | [],_,g,hg=>by rw [List.mem_singleton.mp hg]; exact Nat.le_add_left _ _
 | (q,xs)::r,h,g,hg=>by
  unfold gadd at hg
  by_cases e:q=p
  ·rw [if_pos e] at hg
   exact (List.mem_cons.mp hg).elim (fun z=>by rw [z]; exact Nat.le_trans (sadd_len xs s) (Nat.add_le_add_right (h (q,xs) (.head _)) 1)) fun z=>Nat.le_succ_of_le (h g (.tail _ z))
  ·rw [if_neg e] at hg
   exact (List.mem_cons.mp hg).elim (fun z=>by rw [z]; exact Nat.le_succ_of_le (h (q,xs) (.head _))) fun z=>gadd_mem p s n r (fun g hg=>h g (.tail _ hg)) g z
theorem grp_fold:∀ (l:List (Str×Str)) (G:List (Str×List Str)) (n:Nat),G.length≤n→(∀ g∈G,g.2.length≤n)→(l.foldl (fun G q=>gadd G q.1 q.2) G).length≤n + l.length∧∀ g∈l.foldl (fun G q=>gadd G q.1 q.2) G,g.2.length≤n + l.length
 | [],G,n,h1,h2=>⟨h1,h2⟩
 | q::l,G,n,h1,h2=>by
  have h:=grp_fold l (gadd G q.1 q.2) (n + 1) (Nat.le_trans (gadd_len q.1 q.2 G) (Nat.add_le_add_right h1 1)) (gadd_mem q.1 q.2 n G h2)
  rw [List.length_cons,← Nat.add_assoc,Nat.add_right_comm]
  exact h
theorem grp_len (l:List (Str×Str)):(grp l).length≤l.length∧∀ g∈grp l,g.2.length≤l.length:=by
 have h:=grp_fold l [] 0 (Nat.le_refl _) (fun g hg=>nomatch hg)
 rw [Nat.zero_add] at h
 exact h
theorem dget_dset {es:List (Str×V)} {k:Str} {X:V} (h:dget es k=none):dget (es++[(k,X)]) k=some X:=by
 unfold dget at h ⊢
 rw [Option.map_eq_none_iff] at h
 rw [List.find?_append,h,List.find?_cons]
 simp
theorem need1 {G:List (Str×List Str)} {q:Str×Str}:needClash G [q]=match gget G q.1 with | some xs=>decide (xs.length > 1)||decide (q.2∉xs) | none=>false:=Bool.or_false _
theorem needs {G:List (Str×List Str)} {l:List (Str×Str)}:needClash G l=true↔∃ q∈l,needClash G [q]=true:=List.any_eq_true.trans ⟨fun h=>E12 h fun q h1 h2=>⟨q,h1,(Bool.or_false _).trans h2⟩,fun h=>E12 h fun q h1 h2=>⟨q,h1,(Bool.or_false _).symm.trans h2⟩⟩
theorem spec_clash {c:Cx} {a:Addr} {n:Nat} {ra rb:Rt} (F:IsFn c a D_clash) (hset:c.mg "set" = none) (hlen:c.mg "len" = none) (h1:ra.nd.length≤100) (h2:ra.ov.length≤100) (h3:rb.ov.length≤100):Pure c (n + 1) a [ra.v,rb.v] (.bool (clashB ra rb)):=by
 refine pure_def F k_clash rfl fun A qual code L hR=>?_
 conv in D_clash.body=>whnf
 have hb:∀ {n:Nat},n≤100→n + 1 < scanBound:=fun h=>Nat.lt_of_le_of_lt (Nat.add_le_add_right h 1) (by decide)
 refine wSs_cons (wS_Assign (wE_Dict0 fun d hd=>wA_Name (.inl rfl) ?_))
 refine sFoldE (ls:=ra.nd) (f:=fun q:Str×Str=>V.tup [.str q.1,.str q.2]) (ς:=[("a", ra.v),("b", rb.v),("da", .ref d)]) (I:=fun dn qa H=>∃ G:GA,H=G.hp d∧G.er=grp dn) (ev_at rfl rfl) seq_lst (prs_map ra.nd) (St.le.refl _) ⟨[],rfl,rfl⟩ ?_ ?_
 ·refine fun dn q td H hdn hI k' hk=>E12 hI fun G z1 hG=>?_
  subst z1
  have hlen:dn.length≤100:=Nat.le_trans (by rw [← hdn,List.length_append]; exact Nat.le_add_right _ _) h1
  have gl:=grp_len dn
  rw [← hG] at gl
  have e:grp (dn++[q])=gadd G.er q.1 q.2:=by rw [hG]; exact List.foldl_append
  refine (av2 (.inl rfl) (.inl rfl)).run _ ?_
  rcases GA.split G q.1 with ⟨g1,g2,g3⟩ | ⟨pre,x,xs,post,rfl,g1,g2,g3⟩
  ·refine sTh (tp_niD (ev_N rfl) (ev_N rfl) (.head _)) (by rw [g2]; exact fun z=>nomatch z) ?_
   refine wSs_cons (wS_Assign (wE_set0 hset rfl fun x hx=>wA_Sub ((ev_N rfl).run _ ((ev_N rfl).run _ (I33 d _ _ (.tail _ (.head _)) (set_odct (.tail _ (.head _)) (sz100 (Nat.le_trans ?_ hlen))) (WSs.hs (pre:=[_]) (wSs_nil ?_)))))))
   ·have:=gl.1; rw [GA.er,List.length_map] at this; rw [GA.es,List.length_map]; exact this
   rw [dset_new g2]
   have e2:dget (G.es++[(q.1,.ref x)]) q.1=some (.ref x):=dget_dset g2
   refine sMeth meth_add (ev_Sub (ev_N rfl) (ev_N rfl) (item_odct (.tail _ (.head _)) e2)) (vt_oset (.head _)) (evs (ev_N rfl) evs0) (.head _) (u_add (.head _) (hb (Nat.zero_le _))) (WSs.hs (pre:=[]) (wSs_nil (hk _ (GA.hp d (G++[(q.1,x,[q.2])])) ⟨_,rfl,?_⟩ ?_).1))
   ·rw [e,g3]; exact List.map_append
   ·refine le_lp (I04 rfl rfl rfl trivial) ?_
    unfold GA.hp GA.es GA.sets
    rw [List.map_append,List.map_append]
    exact (List.Perm.cons _ List.perm_append_comm).trans (List.Perm.swap _ _ _)
  ·have hmem:(x,O.set xs)∈GA.hp d (pre++(q.1,x,xs)::post):=by
    unfold GA.hp; rw [GA.sets_mid]; exact .tail _ (List.mem_append_right _ (.head _))
   refine sIfF (tp_niD (ev_N rfl) (ev_N rfl) (.head _)) (by rw [g2]; exact fun z=>z rfl) ?_
   refine sMeth meth_add (ev_Sub (ev_N rfl) (ev_N rfl) (item_odct (.head _) g2)) (vt_oset hmem) (evs (ev_N rfl) evs0) hmem (u_add hmem (hb (Nat.le_trans (gl.2 (q.1,xs) ?_) hlen))) (WSs.nd fun hnd=>wSs_nil (hk _ (GA.hp d (pre++(q.1,x,sadd xs q.2)::post)) ⟨_,rfl,?_⟩ (le_lp (I04 rfl rfl rfl trivial) (List.Perm.of_eq (Eq.symm ?_)))).1)
   ·exact List.mem_map.mpr ⟨(q.1,x,xs),List.mem_append_right _ (.head _),rfl⟩
   ·rw [e,g3]
   ·have hnd':((Mine.hset (GA.hp d (pre++(q.1,x,xs)::post)) x (.set (sadd xs q.2))).map (·.1)).Nodup:=hnd
    rw [hset_fst] at hnd'
    unfold GA.hp at hnd' ⊢
    rw [GA.sets_mid] at hnd' ⊢
    rw [GA.sets_mid,GA.es_mid pre post q.1 x (sadd xs q.2) xs]
    exact hset_mid (pre:=_::pre.sets) hnd'
 ·refine fun H hI=>E12 hI fun G z1 hG=>?_
  subst z1
  refine sSet (.inl rfl) (ev_CallB hset rfl (.type _) rfl (evs (ev_at rfl rfl) evs0) ((f_set_lst (hb h3)).frz rfl)) ?_
  refine sForC (ls:=ra.ov) (f:=V.str) (P:=fun s=>s∈rb.ov) (R:=.bool true) (ev_CallB hset rfl (.type _) rfl (evs (ev_at rfl rfl) evs0) ((f_set_lst (hb h2)).frz rfl)) seq_set (fun ys h=>E12 h fun ks h1 h2=>I12 ks h1 fun a=>h2.mem_iff.trans (mem_sof a ra.ov)) ?_ (fun q τ qa=>?_) fun hno=>?_
  ·exact fun s hs=>tB (av_N (.inl rfl)) (tp_Cmp (ev_N rfl) (ev_N rfl) (cmp_in_set (b:=decide (s∈rb.ov)) (by rw [decide_eq_true_eq,mem_sof])) dec_iff) (fun qa=>ev_b) (ll1 rfl)
  ·unfold clashB; rw [anyP_t q]; rfl
  have hA:=anyP_f hno
  refine sIfR (tp_eq (ev_at rfl rfl) (ev_at rfl rfl)) (fun hst=>ev_eq ev_b ?_) fun hst=>?_
  ·unfold clashB; rw [hA,decide_eq_true hst]; rfl
  refine sForC (ls:=rb.nd) (f:=fun q:Str×Str=>V.tup [.str q.1,.str q.2]) (P:=fun q=>needClash G.er [q]=true) (R:=.bool true) (ev_at rfl rfl) seq_lst (fun ys h=>ordL ys (h.trans (prs_map rb.nd))) (fun q hq=>?_) (fun q τ qa=>?_) fun hno=>?_
  ·rcases GA.split G q.1 with ⟨g1,g2,g3⟩ | ⟨pre,x,xs,post,rfl,g1,g2,g3⟩
   ·refine (tB2 (Q:=False) (av2 (.inl rfl) (.inl rfl)) (tp_inD (ev_N rfl) (ev_N rfl) (.head _)) (fun z=>?_) (fun z=>?_) (ll2 rfl rfl)).iff ?_
    ·rw [g2] at z; cases z
    ·rw [g2] at z; cases z
    ·rw [need1,g1]; exact ⟨fun z=>z.2.elim,fun z=>nomatch z⟩
   ·have hmem:(x,O.set xs)∈GA.hp d (pre++(q.1,x,xs)::post):=by
     unfold GA.hp; rw [GA.sets_mid]; exact .tail _ (List.mem_append_right _ (.head _))
    refine (tB2 (av2 (.inl rfl) (.inl rfl)) (tp_inD (ev_N rfl) (ev_N rfl) (.head _)) (fun qa=>tp_O2 (tp_gt (ev_CallB hlen rfl (.blt _) rfl (evs (ev_Sub (ev_N rfl) (ev_N rfl) (item_odct (.head _) g2)) evs0) (b_len_oset hmem)) ev_i) fun qa=>tp_niO (ev_N rfl) (ev_Sub (ev_N rfl) (ev_N rfl) (item_odct (.head _) g2)) hmem) (fun qa qb=>ev_b) (ll2 rfl rfl)).iff ?_
    rw [need1,g1,g2,Bool.or_eq_true,decide_eq_true_eq,decide_eq_true_eq]
    exact ⟨fun z=>z.2.imp_left Int.ofNat_lt.mp,fun z=>⟨rfl,z.imp_left Int.ofNat_lt.mpr⟩⟩
  ·have:needClash G.er rb.nd=true:=needs.mpr q
   rw [hG] at this
   unfold clashB; rw [this,Bool.or_true]; rfl
  ·have:needClash G.er rb.nd=false:=Bool.eq_false_iff.mpr fun z=>E12 (needs.mp z) hno
   rw [hG] at this
   refine sRet (ev_eq ev_b ?_)
   unfold clashB; rw [hA,this,decide_eq_false hst]; rfl
end Mine
end
noncomputable section
set_option maxRecDepth 100000
namespace Mine
open PySem PySem.SeqAt
noncomputable def mth (i:Nat):DefD:=defD (clsBody PP.main.body[4]?)[i]?
noncomputable def D_init:DefD:=mth 0
noncomputable def D_out:DefD:=mth 1
noncomputable def D_busy:DefD:=mth 2
noncomputable def D_locked:DefD:=mth 3
noncomputable def D_set:DefD:=mth 4
noncomputable def D_cancel:DefD:=mth 5
noncomputable def D_tick:DefD:=mth 6
noncomputable def D_enter:DefD:=mth 7
noncomputable def D_leave:DefD:=mth 8
noncomputable def D_move:DefD:=mth 9
set_option genInjectivity false in
set_option genSizeOf false in
structure Core (c:Cx) where
 C:Addr
 N:Addr
 mN:Str→Option Value
 K:ClsOk c C N mN
 n_lay:mN "lay" = none
 n_r:mN "r" = none
 n_pos:mN "pos" = none
 n_occ:mN "occ" = none
 n_held:mN "held" = none
 f_init:Addr
 f_out:Addr
 f_busy:Addr
 f_locked:Addr
 f_set:Addr
 f_cancel:Addr
 f_tick:Addr
 f_enter:Addr
 f_leave:Addr
 f_move:Addr
 f_clash:Addr
 m_init:mN "__init__" = some (.ref f_init)
 m_out:mN "_out" = some (.ref f_out)
 m_busy:mN "_busy" = some (.ref f_busy)
 m_locked:mN "_locked" = some (.ref f_locked)
 m_set:mN "_set" = some (.ref f_set)
 m_cancel:mN "_cancel" = some (.ref f_cancel)
 m_tick:mN "_tick" = some (.ref f_tick)
 m_enter:mN "_enter" = some (.ref f_enter)
 m_leave:mN "_leave" = some (.ref f_leave)
 m_move:mN "_move" = some (.ref f_move)
 F_init:IsFn c f_init D_init
 F_out:IsFn c f_out D_out
 F_busy:IsFn c f_busy D_busy
 F_locked:IsFn c f_locked D_locked
 F_set:IsFn c f_set D_set
 F_cancel:IsFn c f_cancel D_cancel
 F_tick:IsFn c f_tick D_tick
 F_enter:IsFn c f_enter D_enter
 F_leave:IsFn c f_leave D_leave
 F_move:IsFn c f_move D_move
 F_clash:IsFn c f_clash D_clash
 g_clash:c.mg "_clash" = some (.ref f_clash)
 g_M:c.mg "_M" = some (.ref C)
 b_set:c.mg "set" = none
 b_dict:c.mg "dict" = none
 b_list:c.mg "list" = none
 b_len:c.mg "len" = none
 b_sorted:c.mg "sorted" = none
theorem k_busy:DefK D_busy ["self","secs"] D_busy.body:=mkK rfl (by
 intro nm qual pm code doc vs h
 refine E21 (list2 h) fun x y z2=>?_; subst z2; rfl)
theorem k_locked:DefK D_locked ["self","p"] D_locked.body:=mkK rfl (by
 intro nm qual pm code doc vs h
 refine E21 (list2 h) fun x y z2=>?_; subst z2; rfl)
section
variable {c:Cx} (G:Core c) {n:Nat} {ad:Ad} {lay:Lay} {rs pos:List (Str×V)} {occ:List Str} {rows:List Row}
theorem spec_busyG {H:List (Addr×O)} {x dx od:Addr} {es:List (Str×V)} {xs:List Str} (hx:(x,O.inst G.C dx)∈H) (hn:(dx,O.ns es)∈H) (ho:es.lookup ("occ" : Str)=some (.ref od)) (hs:(od,O.set occ)∈H) :
  CallSpec c (n + 1) G.f_busy H [.ref x,.set xs] fun X H'=>X=.bool (xs.any fun s=>decide (s∈occ))∧H'=H:=by
 refine def_H G.F_busy k_busy rfl fun A qual code L hR=>?_
 conv in D_busy.body=>whnf
 refine sForC (ls:=xs) (f:=V.str) (P:=fun s=>s∈occ) (R:=.bool true) (ev_N rfl) seq_set ordS ?_ (fun q τ hτ=>?_) fun q=>?_
 ·exact fun s qa=>tB (av_N (.inl rfl)) (tp_inO (ev_N rfl) (ev_SA G.K G.n_occ tl_occ rfl hx hn ho) hs) (fun qa=>ev_b) (ll1 rfl)
 ·rw [anyP_t q]; exact retLe hτ
 ·rw [anyP_f q]; exact sRetH ev_b
theorem spec_busy {xs:List Str}:CallSpec c (n + 1) G.f_busy (mhp G.C ad lay.v rs pos occ rows) [.ref ad.x,.set xs] fun X H'=>X=.bool (xs.any fun s=>decide (s∈occ))∧H'=mhp G.C ad lay.v rs pos occ rows:=spec_busyG G mem_x mem_ns rfl mem_od
noncomputable def rowsV (rows:List Row):List V:=rows.map fun r=>.tup [.str r.nm,.ref r.a]
theorem rowsV_eq (rows:List Row):RdPairs (rowsEs rows)=rowsV rows:=by simp [RdPairs,rowsEs,rowsV]
noncomputable def lockB (R:Str→Rt) (occ:List Str) (hm p:Str) (rows:List Row):Bool:=decide (hm∈occ)||rows.any fun r=>!r.left.isEmpty&&decide (p∈(R r.nm).nd.map (·.1))
structure RsOk (R:Str→Rt) (rs:List (Str×V)) (rows:List Row):Prop where
 get:∀ r∈rows,dget rs r.nm=some (R r.nm).v
 nd:∀ r∈rows,(R r.nm).nd.length≤100
 left:∀ r∈rows,r.left.length≤100
theorem dgetS {l:List (Str×Str)} {k v:Str} (h:tget (tfold l []) k=some v):dget (dfold (tv l) []) k=some (.str v):=by
 rw [show ([]:List (Str×V))=tv [] from rfl,tv_fold,tv_get,h]; rfl
theorem dsome {l:List (Str×Str)} {k:Str}:(dget (dfold (tv l) []) k).isSome=true↔k∈l.map (·.1):=by
 rw [show ([]:List (Str×V))=tv [] from rfl,tv_fold,tv_get,Option.isSome_map,tget_fold_some]
 show (_||false)=true↔_
 rw [Bool.or_false,decide_eq_true_eq]
theorem tvl {l:List (Str×Str)} (h:l.length≤100):(tv l).length≤sizeLine:=by rw [tv,List.length_map]; exact sz100 h
theorem nilB {α:Type} {l:List α}:l≠[]↔(!l.isEmpty)=true:=by cases l <;> simp
theorem spec_locked {p hm:Str} {R:Str→Rt} (hh:tget (tfold lay.pts []) p=some hm) (hpl:lay.pts.length≤100) (hR:RsOk R rs rows) :
  CallSpec c (n + 1) G.f_locked (mhp G.C ad lay.v rs pos occ rows) [.ref ad.x,.str p] fun X H'=>X=.bool (lockB R occ hm p rows)∧H'=mhp G.C ad lay.v rs pos occ rows:=by
 refine def_H G.F_locked k_locked rfl fun A qual code L hR'=>?_
 conv in D_locked.body=>whnf
 have e:lockB R occ hm p rows=if hm∈occ then true else rows.any fun r=>!r.left.isEmpty&&decide (p∈(R r.nm).nd.map (·.1)):=by
  unfold lockB
  by_cases q:hm∈occ
  ·rw [if_pos q,decide_eq_true q]; rfl
  ·rw [if_neg q,decide_eq_false q]; rfl
 rw [e]
 refine sIfQ (K:=fun b=>RetH (.bool b) (mhp G.C ad lay.v rs pos occ rows)) (tp_inO (ev_Sub (ev_CallB G.b_dict rfl (.type _) rfl (evs (ev_T (ev_SA G.K G.n_lay tl_lay rfl mem_x mem_ns rfl) rfl) evs0) ((f_dict_pairs (ps:=tv lay.pts) (tvl hpl)).frz rfl)) (ev_N rfl) (item_dct (dgetS hh))) (ev_SA G.K G.n_occ tl_occ rfl mem_x mem_ns rfl) mem_od) (fun qa=>ev_b) retH fun ho=>?_
 refine sForH (ls:=rows) (η:=mhp' G.C ad lay.v rs pos occ rows) (f:=fun r:Row=>V.tup [.str r.nm,.ref r.a]) (P:=fun r=>(!r.left.isEmpty&&decide (p∈(R r.nm).nd.map (·.1)))=true) (R:=.bool true) (ev_items rfl (ev_SA G.K G.n_held tl_held rfl mem_x mem_ns rfl) mem_hd) (seq_oview mem_hd) (rowsV_eq rows) ?_ (fun q τ hτ=>?_) fun q=>?_
 ·exact fun r hr=>tB (av2 (.inl rfl) (.inl rfl)) (tp_iff (tp_A2 (tp_own (ev_own (ev_N rfl) (mem_rows' (mem_rowA hr)) rfl) (mem_rows' (mem_rowB hr)) (sz100 (hR.left r hr))) fun qa=>tp_Cmp (ev_N rfl) (ev_CallB G.b_dict rfl (.type _) rfl (evs (ev_T (ev_Sub (ev_SA G.K G.n_r tl_r rfl mem_x' mem_ns' rfl) (ev_N rfl) (item_odct mem_rd' (hR.get r hr))) rfl) evs0) ((f_dict_pairs (ps:=tv (R r.nm).nd) (tvl (hR.nd r hr))).frz rfl)) cmp_in_dct dsome) (by rw [nilB,Bool.and_eq_true,decide_eq_true_eq])) (fun qa=>ev_b) (ll2 rfl rfl)
 ·rw [any_t q]; exact retLe hτ
 ·rw [any_f q]; exact sRetH ev_b
end
end Mine
end
noncomputable section
set_option maxRecDepth 100000
namespace Mine
open PySem PySem.SeqAt
theorem k_init:DefK D_init ["self","layout","state"] D_init.body:=mkK rfl (by
 intro nm qual pm code doc vs h
 refine E31 (list3 h) fun x y z z3=>?_; subst z3; rfl)
noncomputable def rsOf (rts:List Rt) (es:List (Str×V)):List (Str×V):=rts.foldl (fun es r=>dset es r.nm r.v) es
theorem rsOf_len (rts:List Rt) (es:List (Str×V)):(rsOf rts es).length≤es.length + rts.length:=by
 induction rts generalizing es with
 | nil=>exact Nat.le_refl _
 | cons r rts ih =>
  refine Nat.le_trans (ih (dset es r.nm r.v)) (Nat.le_trans (Nat.add_le_add_right (dset_len es r.nm r.v) _) ?_)
  rw [List.length_cons,Nat.add_assoc,Nat.add_comm 1]; exact Nat.le_refl _
noncomputable def Row.held (r:Row):Held:=⟨r.nm,r.left,r.e,r.w⟩
theorem map_inv {α:Type} {f:α→V} {X:V} {rest:List V} {l:List α} (h:X::rest=l.map f):∃ r l',l=r::l'∧X=f r∧rest=l'.map f:=by
 cases l with
 | nil=>cases h
 | cons r l'=>simp only [List.map_cons,List.cons.injEq] at h; exact (I23 r l' rfl (h.1) (h.2))
theorem map_nil' {α:Type} {f:α→V} {l:List α} (h:([]:List V)=l.map f):l=[]:=by
 cases l with
 | nil=>rfl
 | cons p l'=>cases h
theorem rows_new {rows:List Row} {r:Row}:rowsEs (rows++[r])=rowsEs rows++[(r.nm,V.ref r.a)]∧rowsHp (rows++[r])=rowsHp rows++[(r.a,O.lst [.ref r.b,.int r.e,.int r.w]),(r.b,O.lst (r.left.map .str))]:=by
 constructor
 ·unfold rowsEs; rw [List.map_append]; rfl
 ·unfold rowsHp; rw [List.flatMap_append]; rfl
theorem add_row {C:Addr} {ad:Ad} {lay:V} {rs pos:List (Str×V)} {occ:List Str} {rows:List Row} {r:Row} {l:List (Str×V)} (hn:dget (rowsEs rows) r.nm=none) :
  St.le ⟨l,(r.a,O.lst [.ref r.b,.int r.e,.int r.w])::(r.b,O.lst (r.left.map .str))::(ad.hd,O.dct (dset (rowsEs rows) r.nm (.ref r.a)))::mhp' C ad lay rs pos occ rows⟩ ⟨l,mhp C ad lay rs pos occ (rows++[r])⟩:=by
 refine le_perm ?_
 unfold mhp mhp'
 rw [rows_new.1,rows_new.2,dset_new hn]
 exact List.perm_append_comm (l₁:=_::_::_::_::_::_::rowsHp rows) (l₂:=[_,_])
theorem dget_no {rows:List Row} {n:Str} (h:∀ r∈rows,r.nm≠n):dget (rowsEs rows) n=none:=by
 unfold dget
 rw [Option.map_eq_none_iff,List.find?_eq_none]
 exact fun e he he2=>E12 (List.mem_map.mp he) fun r hr z=>h r hr (by rw [← z] at he2; exact of_decide_eq_true he2)
section
variable {c:Cx} (G:Core c) {n:Nat}
theorem spec_init {x dx:Addr} {lay:Lay} {st:Sta} (hnd:(st.held.map Held.nm).Nodup) (h1:lay.rts.length≤100) (h2:st.pos.length≤100) (h3:st.occ.length≤100) (h4:st.held.length≤100) (h5:∀ h∈st.held,h.left.length≤100) :
  CallSpec c (n + 1) G.f_init [(x,.inst G.C dx),(dx,.ns [])] [.ref x,lay.v,st.v] fun X H'=>X=.none∧∃ (ad:Ad) (rows:List Row),ad.x=x∧ad.dx=dx∧rows.map Row.held=st.held∧H'=mhp G.C ad lay.v (rsOf lay.rts []) (tv (tfold st.pos [])) (sof st.occ) rows:=by
 refine call_def G.F_init k_init rfl fun A qual code L hR'=>?_
 conv in D_init.body=>whnf
 refine wSs_cons (wS_Assign ((ev_N rfl).run _ (wA_Attr G.K G.n_lay tl_lay ((ev_N rfl).run _ (I35 x dx _ rfl (.head _) (.tail _ (.head _)) (Nat.zero_le _) ?_)))))
 refine WSs.hs (pre:=[_]) ?_
 refine wSs_cons (wS_Assign (wE_Dict0 fun rd hrd=>wA_Attr G.K G.n_r tl_r ((ev_N rfl).run _ (I35 x dx _ rfl (.tail _ (.head _)) (.tail _ (.tail _ (.head _))) (sz10 (Nat.le_of_ble_eq_true rfl)) ?_))))
 refine WSs.hs (pre:=[_,_]) ?_
 refine sFold (ls:=lay.rts) (f:=Rt.v) (ς:=[("self", .ref x),("layout", lay.v),("state", st.v)]) (S:=fun dn qa=>[(x,.inst G.C dx),(dx,.ns [("lay", lay.v),("r", .ref rd)]),(rd,.dct (rsOf dn []))]) (ev_at rfl rfl) seq_lst rfl (le_perm (List.perm_append_comm (l₁:=[_,_]) (l₂:=[_]))) (fun dn r td hdn k' hk=>?_) ?_
 ·have e:rsOf (dn++[r]) []=dset (rsOf dn []) r.nm r.v:=List.foldl_append
  rw [e] at hk
  refine (av_N (.inl rfl)).run _ (sSub (ev_N rfl) (ev_SA G.K G.n_r tl_r rfl (.head _) (.tail _ (.head _)) rfl) (ev_at rfl rfl) (.tail _ (.tail _ (.head _))) (set_odct (.tail _ (.tail _ (.head _))) (sz100 ?_)) (WSs.hs (pre:=[_,_]) (wSs_nil (hk _ (le_loc (I04 rfl rfl rfl trivial))).1)))
  refine Nat.le_trans (rsOf_len dn []) ?_
  rw [List.length_nil,Nat.zero_add]
  exact Nat.le_trans (by rw [← hdn,List.length_append]; exact Nat.le_add_right _ _) h1
 refine wSs_cons (wS_Assign (wE_CallF G.b_dict rfl (.type _) rfl (wEs_cons (wE_at rfl rfl (wEs_nil (I12 _ (f_dict_pairs (ps:=tv st.pos) (tvl h2)) (fun pd hpd=>wA_Attr G.K G.n_pos tl_pos (wE_Name rfl (I35 x dx _ rfl (.tail _ (.head _)) (.tail _ (.tail _ (.head _))) (sz10 (Nat.le_of_ble_eq_true rfl)) ?_)))))))))
 refine WSs.hs (pre:=[_,_]) ?_
 refine wSs_cons (wS_Assign (wE_CallF G.b_set rfl (.type _) rfl (wEs_cons (wE_at rfl rfl (wEs_nil (I12 _ (f_set_lst (Nat.lt_of_le_of_lt (Nat.add_le_add_right h3 1) (by decide))) (fun od hod=>wA_Attr G.K G.n_occ tl_occ (wE_Name rfl (I35 x dx _ rfl (.tail _ (.tail _ (.head _))) (.tail _ (.tail _ (.tail _ (.head _)))) (sz10 (Nat.le_of_ble_eq_true rfl)) ?_)))))))))
 refine WSs.hs (pre:=[_,_,_]) ?_
 refine wSs_cons (wS_Assign (wE_Dict0 fun hd hhd=>wA_Attr G.K G.n_held tl_held (wE_Name rfl (I35 x dx _ rfl (.tail _ (.tail _ (.tail _ (.head _)))) (.tail _ (.tail _ (.tail _ (.tail _ (.head _))))) (sz10 (Nat.le_of_ble_eq_true rfl)) ?_))))
 refine WSs.hs (pre:=[_,_,_,_]) ?_
 have epos:dfold (tv st.pos) []=tv (tfold st.pos []):=tv_fold st.pos []
 rw [epos]
 refine wSs_cons (wS_For (fun rest τ=>∃ (rows:List Row) (td:List Held),τ=⟨[("self", .ref x),("layout", lay.v),("state", st.v)],mhp G.C ⟨x,dx,rd,pd,od,hd⟩ lay.v (rsOf lay.rts []) (tv (tfold st.pos [])) (sof st.occ) rows⟩∧rest=td.map Held.v∧rows.map Row.held++td=st.held) ?_ ?_ ?_)
 ·refine wE_at rfl rfl (I12 _ seq_lst ?_)
  rintro ys rfl
  refine (I12 ⟨[("self", .ref x),("layout", lay.v),("state", st.v)],mhp G.C ⟨x,dx,rd,pd,od,hd⟩ lay.v (rsOf lay.rts []) (tv (tfold st.pos [])) (sof st.occ) []⟩ (le_lp (I04 rfl rfl rfl trivial) ?_) (I23 [] st.held rfl rfl rfl))
  exact .cons _ ((List.perm_append_comm (l₁:=[_,_,_]) (l₂:=[_,_])).trans (List.Perm.swap _ _ _))
 ·refine fun X rest τ=>R23 fun rows td z2 htd happ=>?_; subst z2
  refine E23 (map_inv htd) fun h td z2 z3 z4=>?_; subst z2; subst z3; subst z4
  have hh:h∈st.held:=by rw [← happ]; exact List.mem_append_right _ (.head _)
  have hlr:rows.length≤100:=by
   have e:=congrArg List.length happ
   rw [List.length_append,List.length_map] at e
   exact Nat.le_trans (e▸Nat.le_add_right _ _) h4
  have hnew:dget (rowsEs rows) h.nm=none:=dget_no fun r hr e=>by
   rw [← happ,List.map_append,List.map_cons,List.nodup_append] at hnd
   exact hnd.2.2 r.nm (List.mem_map.mpr (I12 r.held (List.mem_map_of_mem hr) rfl)) h.nm (.head _) e
  refine (av_N (.inl rfl)).run _ (wSs_cons (wS_Assign (wE_ListO (wEs_cons (wE_CallF G.b_list rfl (.type _) rfl ((evs (ev_at rfl rfl) evs0).run _ (I12 _ (f_list_lst (by rw [List.length_map]; exact sz100 (h5 h hh))) (fun b hb=>?_))))))))
  refine (evs (ev_at rfl rfl) (evs (ev_at rfl rfl) evs0)).run _ ⟨sz10 (Nat.le_of_ble_eq_true rfl),fun a ha=>?_⟩
  refine wA_Sub ((ev_SA G.K G.n_held tl_held rfl (.tail _ (.tail _ (mem_x (ad:=⟨x,dx,rd,pd,od,hd⟩)))) (.tail _ (.tail _ (mem_ns (ad:=⟨x,dx,rd,pd,od,hd⟩)))) rfl).run _ ((ev_at rfl rfl).run _ (I33 hd _ _ (.tail _ (.tail _ (.head _))) (set_odct (.tail _ (.tail _ (.head _))) (by rw [rowsEs,List.length_map]; exact sz100 hlr)) ?_)))
  refine WSs.hs (pre:=[_,_]) ?_
  exact wSs_nil (I12 ⟨[("self", .ref x),("layout", lay.v),("state", st.v)],mhp G.C ⟨x,dx,rd,pd,od,hd⟩ lay.v (rsOf lay.rts []) (tv (tfold st.pos [])) (sof st.occ) (rows++[⟨h.nm,a,b,h.left,h.e,h.w⟩])⟩ ((le_loc (l':=[("self", .ref x),("layout", lay.v),("state", st.v)]) (I04 rfl rfl rfl trivial)).trans (add_row (ad:=⟨x,dx,rd,pd,od,hd⟩) (r:=⟨h.nm,a,b,h.left,h.e,h.w⟩) hnew)) (I23 _ td rfl rfl (by rw [← happ,List.map_append,List.append_assoc]; rfl)))
 ·refine fun τ=>R23 fun rows td z2 htd happ=>?_; subst z2
  obtain rfl:=map_nil' htd
  exact wSs_nil (I13 ⟨[],_⟩ (le_loc trivial) rfl (I24 _ rows rfl rfl (by rw [List.append_nil] at happ; exact happ) rfl))
end
end Mine
end
noncomputable section
set_option maxRecDepth 100000
namespace Mine
open PySem PySem.SeqAt PyProof.Rows
theorem k_out:DefK D_out ["self"] D_out.body:=mkK rfl (by
 intro nm qual pm code doc vs h
 obtain ⟨x,rfl⟩:=list1 h; rfl)
theorem compOk {scope:Scope} {D:DefD} {qual:Str} {code:Value} {L a:Addr} (h1:scope.kind=.function) (h2:(scope.names.map (·.1)).Nodup) (h3:∀ p∈scope.names,p.2=.free→D.scope.names.lookup p.1=some .cell):CompOk scope (envD D qual code L a):=⟨h1,h2,h3⟩
theorem flat_one {α:Type} (l:List α) (f:α→V) (g:V→List V) (h:α→V) (hg:∀ a∈l,g (f a)=[h a]):(l.map f).flatMap g=l.map h:=by
 induction l with
 | nil=>rfl
 | cons a l ih =>
  simp only [List.map_cons,List.flatMap_cons,hg a (.head _)]
  rw [ih fun b hb=>hg b (.tail _ hb)]; rfl
section
variable {c:Cx} (G:Core c) {n:Nat} {ad:Ad} {lay:Lay} {rs:List (Str×V)} {occ:List Str} {rows:List Row}
noncomputable def mhpF (C:Addr) (ad:Ad) (lay:V) (rs pos:List (Str×V)) (occ:List Str) (rows:List Row):List (Addr×O) :=
 (ad.x,.inst C ad.dx)::(ad.dx,.ns (setL (nsM ad lay) "held" (.dct (rowsEs rows))))::(ad.rd,.dct rs)::(ad.pd,.dct pos)::(ad.od,.set occ)::rowsHp rows
theorem freezeM {A:Around} {env:Env} {loc:List (Str×V)} {lay:V} {rs pos:List (Str×V)} {C:Addr} {sts:List Stmt} {k:FV→St→Prop} (h:WSs c A env ⟨loc,mhpF C ad lay rs pos occ rows⟩ sts k):WSs c A env ⟨loc,mhp C ad lay rs pos occ rows⟩ sts k:=by
 refine WSs.freeze (d:=ad.hd) (o:=.dct (rowsEs rows)) (X:=.dct (rowsEs rows)) (τ:=⟨loc,mhpF C ad lay rs pos occ rows⟩) mem_hd rfl rfl (fun b ob hb=>?_) (fun hnd=>?_) h
 ·have hb':(b,ob)∈(ad.x,O.inst C ad.dx)::(ad.dx,O.ns (setL (nsM ad lay) "held" (.dct (rowsEs rows))))::(ad.rd,O.dct rs)::(ad.pd,O.dct pos)::(ad.od,O.set occ)::rowsHp rows:=hb
  rcases List.mem_cons.mp hb' with e | hb'
  ·cases e; exact .inl mem_x
  rcases List.mem_cons.mp hb' with e | hb'
  ·cases e; exact .inr (I23 (nsM ad lay) "held" rfl mem_ns rfl)
  ·exact .inl (.tail _ (.tail _ (.tail _ hb')))
 ·have e:(mhp C ad lay rs pos occ rows).map (·.1)=ad.hd::(mhpF C ad lay rs pos occ rows).map (·.1):=rfl
  have hnd':((mhp C ad lay rs pos occ rows).map (·.1)).Nodup:=hnd
  rw [e,List.nodup_cons] at hnd'
  exact ⟨hnd'.2,fun ob hob=>hnd'.1 (List.mem_map_of_mem (f:=(·.1)) hob)⟩
theorem rowA_nodup:∀ {rows:List Row},((rowsHp rows).map (·.1)).Nodup→(rows.map Row.a).Nodup
 | [],_=>.nil
 | r::rows,h=>by
  have e:(rowsHp (r::rows)).map (·.1)=r.a::r.b::(rowsHp rows).map (·.1):=rfl
  rw [e,List.nodup_cons,List.nodup_cons] at h
  rw [List.map_cons,List.nodup_cons]
  refine ⟨fun hm=>h.1 (.tail _ ?_),rowA_nodup h.2.2⟩
  refine E12 (List.mem_map.mp hm) fun q hq e=>?_
  rw [← e]
  exact List.mem_map.mpr (I12 _ (mem_rowA hq) rfl)
theorem find_row:∀ {rows:List Row},(rows.map Row.a).Nodup→∀ r∈rows,rows.find? (fun q=>decide (q.a=r.a))=some r
 | [],_,r,h=>by cases h
 | q::rows,hnd,r,h=>by
  rw [List.map_cons,List.nodup_cons] at hnd
  rcases List.mem_cons.mp h with rfl | h
  ·simp
  ·have:¬ q.a=r.a:=fun e=>hnd.1 (e▸List.mem_map_of_mem h)
   rw [List.find?_cons]
   simp only [this,decide_false]
   exact find_row hnd.2 r h
theorem spec_out {pos:List (Str×Str)} {pg:Str→Str} (hpg:∀ q∈lay.pts,tget pos q.1=some (pg q.1)) (h1:lay.pts.length≤100) (h2:rows.length≤100) (h3:occ.length < 64) (h4:∀ r∈rows,r.left.length≤100) :
  CallSpec c (n + 1) G.f_out (mhp G.C ad lay.v rs (tv pos) occ rows) [.ref ad.x] fun X H'=>∃ ss:List Str,ss.Perm occ∧sortedS ss=true∧X=(Sta.mk (lay.pts.map fun q=>(q.1,pg q.1)) ss (rows.map Row.held)).v:=by
 refine call_def G.F_out k_out rfl fun A qual code L hR=>?_
 conv in D_out.body=>whnf
 have hl:sizeLine > 1000:=by decide
 refine wSs_cons (wS_AssignComp1 (compOk rfl (by decide) (by decide)) ?_)
 refine wE_Sub (wE_SA G.K G.n_lay tl_lay rfl mem_x mem_ns rfl (wE_int (I12 _ (item_tup (by decide) (by decide) rfl) (I12 (prs lay.pts) seq_lst (I13 (fun X=>(match X with | .tup (.str p::_)=>[.tup [.str p,.str (pg p)]] | _=>[])) ?_ ?_ ?_)))))
 ·rw [prs_map,flat_one lay.pts _ _ (fun q=>.tup [.str q.1,.str (pg q.1)]) (fun qa qb=>rfl)]; simp; omega
 ·intro C X hX D zs
  rw [prs_map] at hX
  refine E12 (List.mem_map.mp hX) fun q hq z2=>?_; subst z2
  refine wA_Tuple (wAs_cons (wA_Name (.inl rfl) (wAs_cons (wA_Name (.inl rfl) (wAs_nil ?_)))))
  refine wTs_nil ?_
  refine wE_Tuple (wEs_cons (wE_Name rfl (wEs_cons (wE_Sub (wE_SA G.K G.n_pos tl_pos rfl (.tail _ mem_x) (.tail _ mem_ns) rfl (wE_Name rfl (I12 (.str (pg q.1)) (item_odct (.tail _ mem_pd) (by rw [tv_get,hpg q hq]; rfl)) (wEs_nil (I03 (sz10 (Nat.le_of_ble_eq_true rfl)) rfl ?_)))))))))
  exact le_loc ⟨rfl,trivial⟩
 have e1:(prs lay.pts).flatMap (fun X=>(match X with | .tup (.str p::_)=>[.tup [.str p,.str (pg p)]] | _=>[]))=prs (lay.pts.map fun q=>(q.1,pg q.1)):=by
  rw [prs_map,flat_one lay.pts _ _ (fun q=>.tup [.str q.1,.str (pg q.1)]) (fun qa qb=>rfl),prs_map,List.map_map]; rfl
 rw [e1]
 refine wA_Name (.inl rfl) ?_
 refine freezeM (loc:=[("self", .ref ad.x),("pos", .lst (prs (lay.pts.map fun q=>(q.1,pg q.1))))]) ?_
 refine WSs.nd fun hnd=>?_
 have hra:(rows.map Row.a).Nodup:=by
  refine rowA_nodup ?_
  have e:((mhpF G.C ad lay.v rs (tv pos) occ rows).map (·.1))=[ad.x,ad.dx,ad.rd,ad.pd,ad.od]++(rowsHp rows).map (·.1):=rfl
  have hnd':((mhpF G.C ad lay.v rs (tv pos) occ rows).map (·.1)).Nodup:=hnd
  rw [e,List.nodup_append] at hnd'
  exact hnd'.2.1
 refine wSs_cons (wS_AssignComp1 (compOk rfl (by decide) (by decide)) ?_)
 refine wE_Meth0 meth_items (wE_SA G.K G.n_held tl_held rfl (.head _) (.tail _ (.head _)) rfl ⟨vt_dct,.inl (I12 _ b_items_dct (I12 (RdPairs (rowsEs rows)) seq_view (I13 (fun X=>(match X with | .tup (_::.ref a::_)=>(match rows.find? (fun q=>decide (q.a=a)) with | some r=>[r.held.v] | none=>[]) | _=>[])) ?_ ?_ ?_)))⟩)
 ·rw [rowsV_eq]
  unfold rowsV
  rw [flat_one rows _ _ (fun r=>r.held.v) (fun r hr=>by simp only [find_row hra r hr])]; simp; omega
 ·intro C X hX D zs
  rw [rowsV_eq] at hX
  refine E12 (List.mem_map.mp hX) fun r hr z2=>?_; subst z2
  have hA':∀ {e},e∈rowsHp rows→e∈(D,O.lst zs)::mhpF G.C ad lay.v rs (tv pos) occ rows:=fun h=>.tail _ (.tail _ (.tail _ (.tail _ (.tail _ (.tail _ h)))))
  simp only [find_row hra r hr]
  refine wA_Tuple (wAs_cons (wA_Name (.inl rfl) (wAs_cons (wA_Name (.inl rfl) (wAs_nil ?_)))))
  refine wTs_nil ?_
  refine wE_Tuple (wEs_cons (wE_Name rfl (wEs_cons (wE_CallB G.b_list rfl (.type _) rfl (wEs_cons (wE_Sub (wE_Name rfl (wE_int (I12 _ (item_own (hA' (mem_rowA hr)) (by decide) (by decide) rfl) (wEs_nil (I12 _ ((f_list_own (hA' (mem_rowB hr)) (by have:=h4 r hr; simp; omega)).frz rfl) ?_)))))))))))
  refine wEs_cons (wE_Sub (wE_Name rfl (wE_int (I12 _ (item_own (hA' (mem_rowA hr)) (by decide) (by decide) rfl) (wEs_cons (wE_Sub (wE_Name rfl (wE_int (I12 _ (item_own (hA' (mem_rowA hr)) (by decide) (by decide) rfl) (wEs_nil (I03 (sz10 (Nat.le_of_ble_eq_true rfl)) rfl ?_)))))))))))
  exact le_loc trivial
 have e2:(RdPairs (rowsEs rows)).flatMap (fun X=>(match X with | .tup (_::.ref a::_)=>(match rows.find? (fun q=>decide (q.a=a)) with | some r=>[r.held.v] | none=>[]) | _=>[]))=(rows.map Row.held).map Held.v:=by
  rw [rowsV_eq]
  unfold rowsV
  rw [flat_one rows _ _ (fun r=>r.held.v) (fun r hr=>by simp only [find_row hra r hr]),List.map_map]; rfl
 rw [e2]
 refine wA_Name (.inl rfl) ?_
 refine wSs_Ret (wE_Tuple (wEs_cons (wE_Name rfl (wEs_cons (wE_SortedSet G.b_sorted rfl (wE_SA G.K G.n_occ tl_occ rfl (.head _) (.tail _ (.head _)) rfl (I24 ad.od occ rfl (.tail _ (.tail _ (.tail _ (.tail _ (.head _))))) h3 (fun ss hp hs=>?_))))))))
 refine wEs_cons (wE_Name rfl (wEs_nil (I02 (sz10 (Nat.le_of_ble_eq_true rfl)) (I12 ⟨[],[]⟩ le_nil (I13 ss hp hs rfl)))))
end
end Mine
end
noncomputable section
set_option maxRecDepth 100000
namespace Mine
open PySem PySem.SeqAt PyProof.Rows
section
variable {c:Cx} {A:Around} {env:Env} {σ:St}
theorem wE_Self0 {C N:Addr} {mN:Str→Option Value} {o:Expr} {name:Str} {apos pos:Pos} {f:Addr} {D:DefD} {y:Option Value} {k:V→St→Prop} (K:ClsOk c C N mN) (hf:mN name=some (.ref f)) (F:IsFn c f D) (hB:typeLookup (.type "object") name=pure y)
  (h:WE c A env σ o fun X σ₁=>∃ x d es,X=.ref x∧(x,O.inst C d)∈σ₁.hp∧(d,O.ns es)∈σ₁.hp∧es.lookup name=none∧CRest c A f [X] k σ₁)
  (hbase:attributeBase o name env (eval o env)=eval o env:=by rfl) (hline:(apos.endLine == pos.line)=true:=by rfl):WE c A env σ (.Call (.Attribute o name apos) [] [] pos) k:=by
 refine E51 F fun qa qb qc qd qe M=>?_; clear F
 exact wE_MethI0 K hf M hB h hbase hline
end
theorem k_move:DefK D_move ["self","p","x"] D_move.body:=mkK rfl (by
 intro nm qual pm code doc vs h
 refine E31 (list3 h) fun x y z z3=>?_; subst z3; rfl)
theorem k_cancel:DefK D_cancel ["self","n"] D_cancel.body:=mkK rfl (by
 intro nm qual pm code doc vs h
 refine E21 (list2 h) fun x y z2=>?_; subst z2; rfl)
theorem hset_mid2 {pre post:List (Addr×O)} {x:Addr×O} {d:Addr} {o o':O} (hnd:((pre++x::(d,o)::post).map (·.1)).Nodup):hset (pre++x::(d,o)::post) d o'=pre++x::(d,o')::post:=by
 have e:∀ l,(pre++[x])++l=pre++x::l:=fun l=>List.append_assoc pre [x] l
 have h:=hset_mid (pre:=pre++[x]) (o':=o') (by rw [e]; exact hnd)
 rw [e,e] at h
 exact h
theorem rowsHp_mid (pre post:List Row) (r:Row):rowsHp (pre++r::post)=rowsHp pre++(r.a,.lst [.ref r.b,.int r.e,.int r.w])::(r.b,.lst (r.left.map .str))::rowsHp post:=by simp [rowsHp,Row.hp]
section
variable {C:Addr} {ad:Ad} {lay:V} {rs pos:List (Str×V)} {occ:List Str} {pre post:List Row} {r:Row}
theorem hset_rowA {e w:Int} (hnd:((mhp C ad lay rs pos occ (pre++r::post)).map (·.1)).Nodup):hset (mhp C ad lay rs pos occ (pre++r::post)) r.a (.lst [.ref r.b,.int e,.int w])=mhp C ad lay rs pos occ (pre++{ r with e:=e,w:=w }::post):=by
 have e1:rowsEs (pre++{ r with e:=e,w:=w }::post)=rowsEs (pre++r::post):=by simp [rowsEs]
 unfold mhp mhp' at hnd ⊢
 rw [rowsHp_mid] at hnd ⊢
 rw [rowsHp_mid,e1]
 exact hset_mid (pre:=_::_::_::_::_::_::rowsHp pre) hnd
theorem hset_rowA' {e w:Int} (hnd:((mhp' C ad lay rs pos occ (pre++r::post)).map (·.1)).Nodup):hset (mhp' C ad lay rs pos occ (pre++r::post)) r.a (.lst [.ref r.b,.int e,.int w])=mhp' C ad lay rs pos occ (pre++{ r with e:=e,w:=w }::post):=by
 unfold mhp' at hnd ⊢
 rw [rowsHp_mid] at hnd ⊢
 rw [rowsHp_mid]
 exact hset_mid (pre:=_::_::_::_::_::rowsHp pre) hnd
theorem hset_rowB {l:List Str} (hnd:((mhp C ad lay rs pos occ (pre++r::post)).map (·.1)).Nodup):hset (mhp C ad lay rs pos occ (pre++r::post)) r.b (.lst (l.map .str))=mhp C ad lay rs pos occ (pre++{ r with left:=l }::post):=by
 have e1:rowsEs (pre++{ r with left:=l }::post)=rowsEs (pre++r::post):=by simp [rowsEs]
 unfold mhp mhp' at hnd ⊢
 rw [rowsHp_mid] at hnd ⊢
 rw [rowsHp_mid,e1]
 exact hset_mid2 (pre:=_::_::_::_::_::_::rowsHp pre) hnd
end
section
variable {c:Cx} (G:Core c) {n:Nat} {ad:Ad} {lay:Lay} {rs:List (Str×V)} {occ:List Str} {rows:List Row}
noncomputable def moveF (R:Str→Rt) (pos:List (Str×Str)) (occ:List Str) (rows:List Row) (hm p x:Str):Str×List (Str×Str) :=
 if (tget pos p).isSome then (if lockB R occ hm p rows then ("locked", pos) else ("done", tset pos p x)) else ("unknown", pos)
theorem spec_move {pos:List (Str×Str)} {R:Str→Rt} {p x hm:Str} (hh:(tget pos p).isSome=true→tget (tfold lay.pts []) p=some hm) (hpl:lay.pts.length≤100) (hpl2:pos.length≤100) (hR:RsOk R rs rows) :
  CallSpec c (n + 2) G.f_move (mhp G.C ad lay.v rs (tv pos) occ rows) [.ref ad.x,.str p,.str x] fun X H'=>X=.str (moveF R pos occ rows hm p x).1∧H'=mhp G.C ad lay.v rs (tv (moveF R pos occ rows hm p x).2) occ rows:=by
 refine def_H G.F_move k_move rfl fun A qual code L hR'=>?_
 conv in D_move.body=>whnf
 unfold moveF
 refine sIfQN (K:=fun q:Str×List (Str×Str)=>RetH (.str q.1) (mhp G.C ad lay.v rs (tv q.2) occ rows)) (tp_iff (tp_niD (ev_N rfl) (ev_SA G.K G.n_pos tl_pos rfl mem_x mem_ns rfl) mem_pd) (by rw [tv_get,Option.isSome_map])) (fun qa=>ev_s) retH fun hp=>?_
 refine sIfQ (K:=fun q:Str×List (Str×Str)=>RetH (.str q.1) (mhp G.C ad lay.v rs (tv q.2) occ rows)) (tp_bool (ev_Self G.K G.m_locked G.F_locked tl_locked rfl mem_x mem_ns rfl (evs (ev_N rfl) evs0) hR' (spec_locked G (hh hp) hpl hR))) (fun qa=>ev_s) retH fun hlk=>?_
 refine sSub (ev_N rfl) (ev_SA G.K G.n_pos tl_pos rfl mem_x mem_ns rfl) (ev_N rfl) mem_pd (set_odct mem_pd (tvl hpl2)) ?_
 refine WSs.hs (pre:=[_,_,_,_]) ?_
 rw [tv_set]
 exact sRetH ev_s
end
end Mine
end
noncomputable section
set_option maxRecDepth 100000
namespace Mine
open PySem PySem.SeqAt PyProof.Rows
theorem rowsHp_sub:∀ {l l':List Row},l'.Sublist l→(rowsHp l').Sublist (rowsHp l)
 | _,_,.slnil=>.slnil
 | _,_,.cons r h=>(rowsHp_sub h).trans (List.sublist_append_right _ _)
 | _,_,.cons₂ r h=>(List.Sublist.refl _).append (rowsHp_sub h)
theorem rowsEs_del (rows:List Row) (n:Str):ddel (rowsEs rows) n=rowsEs (rows.filter fun r=>decide (r.nm≠n)):=by
 unfold ddel rowsEs
 rw [List.filter_map]; rfl
theorem row_split:∀ (rows:List Row) (n:Str),(rows.find? (fun r=>decide (r.nm=n))=none∧dget (rowsEs rows) n=none∧∀ r∈rows,r.nm≠n) ∨
  ∃ pre r post,rows=pre++r::post∧r.nm=n∧(∀ q∈pre,q.nm≠n)∧rows.find? (fun r=>decide (r.nm=n))=some r∧dget (rowsEs rows) n=some (.ref r.a)
 | [],n=>.inl (I03 rfl rfl (fun qa h=>by cases h))
 | q::rows,n=>by
  have hc:dget (rowsEs (q::rows)) n=if q.nm=n then some (.ref q.a) else dget (rowsEs rows) n:=dget_cons (q.nm,V.ref q.a) (rowsEs rows) n
  by_cases h:q.nm=n
  ·refine .inr (I35 [] q rows rfl h (fun qa h=>(by cases h)) ?_ ?_)
   ·simp [h]
   ·rw [hc,if_pos h]
  ·rcases row_split rows n with ⟨h1,h2,h3⟩ | ⟨pre,r,post,h0,h1,h2,h3,h4⟩
   ·refine .inl (I03 ?_ ?_ ?_)
    ·rw [List.find?_cons]; simp only [h,decide_false]; exact h1
    ·rw [hc,if_neg h]; exact h2
    ·intro r hr
     rcases List.mem_cons.mp hr with rfl | hr
     ·exact h
     ·exact h3 r hr
   ·refine .inr (I35 (q::pre) r post (by rw [h0]; rfl) h1 ?_ ?_ ?_)
    ·intro r' hr
     rcases List.mem_cons.mp hr with rfl | hr
     ·exact h
     ·exact h2 r' hr
    ·rw [List.find?_cons]; simp only [h,decide_false]; exact h3
    ·rw [hc,if_neg h]; exact h4
theorem names_post {pre post:List Row} {r:Row} (hnd:((pre++r::post).map Row.nm).Nodup):(∀ q∈pre,q.nm≠r.nm)∧∀ q∈post,q.nm≠r.nm:=by
 rw [List.map_append,List.map_cons,List.nodup_append,List.nodup_cons] at hnd
 refine ⟨fun q hq e=>hnd.2.2 q.nm (List.mem_map_of_mem hq) r.nm (.head _) e,fun q hq e=>hnd.2.1.1 (e▸List.mem_map_of_mem hq)⟩
theorem filter_ne {l:List Row} {n:Str} (h:∀ q∈l,q.nm≠n):l.filter (fun r=>decide (r.nm≠n))=l:=List.filter_eq_self.mpr fun q hq=>decide_eq_true (h q hq)
theorem map_row {pre post:List Row} {r:Row} {f:Row→Row} (hnd:((pre++r::post).map Row.nm).Nodup):(pre++r::post).map (fun q=>if q.nm=r.nm then f q else q)=pre++f r::post:=by
 have h1:pre.map (fun q=>if q.nm=r.nm then f q else q)=pre:=(List.map_congr_left fun q hq=>if_neg ((names_post hnd).1 q hq)).trans (List.map_id' _)
 have h2:post.map (fun q=>if q.nm=r.nm then f q else q)=post:=(List.map_congr_left fun q hq=>if_neg ((names_post hnd).2 q hq)).trans (List.map_id' _)
 rw [List.map_append,List.map_cons,if_pos rfl,h1,h2]
theorem rowsL {rows:List Row} {n:Nat} (h:rows.length≤n) (hn:n≤sizeLine:=by decide):(rowsEs rows).length≤sizeLine:=by rw [rowsEs,List.length_map]; exact Nat.le_trans h hn
section
variable {c:Cx} (G:Core c) {n:Nat} {ad:Ad} {lay:Lay} {rs pos:List (Str×V)} {occ:List Str} {rows:List Row}
noncomputable def cancelF (occ:List Str) (rows:List Row) (nm sg:Str):Str×List Row :=
 match rows.find? (fun r=>decide (r.nm=nm)) with
 | none=>("unknown", rows)
 | some r=>if r.e≠0 then ("entered", rows) else if r.w≠0 then ("waiting", rows) else if sg∈occ then ("waits", rows.map fun r=>if r.nm=nm then { r with w:=3 } else r) else ("done", rows.filter fun r=>decide (r.nm≠nm))
theorem spec_cancel {R:Str→Rt} {nm sg:Str} (hnd:(rows.map Row.nm).Nodup) (hR:RsOk R rs rows) (hsg:(∃ r∈rows,r.nm=nm)→tget (tfold lay.sigs []) (R nm).st=some sg) (h1:lay.sigs.length≤100) (h2:rows.length≤100) :
  CallSpec c (n + 1) G.f_cancel (mhp G.C ad lay.v rs pos occ rows) [.ref ad.x,.str nm] fun X H'=>X=.str (cancelF occ rows nm sg).1∧H'=mhp G.C ad lay.v rs pos occ (cancelF occ rows nm sg).2:=by
 refine def_H G.F_cancel k_cancel rfl fun A qual code L hR'=>?_
 conv in D_cancel.body=>whnf
 unfold cancelF
 rcases row_split rows nm with ⟨q1,q2,q3⟩ | ⟨pre,r,post,rfl,rfl,q3,q4,q5⟩
 ·rw [q1]
  exact sIfH (tp_niD (ev_N rfl) (ev_SA G.K G.n_held tl_held rfl mem_x mem_ns rfl) mem_hd) (by rw [q2]; exact fun z=>nomatch z) ev_s retH
 rw [q4]
 have hr:r∈pre++r::post:=List.mem_append_right _ (.head _)
 refine sIfF (tp_niD (ev_N rfl) (ev_SA G.K G.n_held tl_held rfl mem_x mem_ns rfl) mem_hd) (by rw [q5]; exact fun z=>z rfl) ?_
 refine sSet (.inl rfl) (ev_Sub (ev_SA G.K G.n_held tl_held rfl mem_x mem_ns rfl) (ev_N rfl) (item_odct mem_hd q5)) ?_
 refine sIfQ (K:=fun q:Str×List Row=>RetH (.str q.1) (mhp G.C ad lay.v rs pos occ q.2)) (tp_int (ev_own (ev_N rfl) (mem_rows (mem_rowA hr)) rfl)) (fun qa=>ev_s) retH fun qa=>?_
 refine sIfQ (K:=fun q:Str×List Row=>RetH (.str q.1) (mhp G.C ad lay.v rs pos occ q.2)) (tp_int (ev_own (ev_N rfl) (mem_rows (mem_rowA hr)) rfl)) (fun qa=>ev_s) retH fun qa=>?_
 refine sIfB (K:=fun q:Str×List Row=>RetH (.str q.1) (mhp G.C ad lay.v rs pos occ q.2)) (tp_inO (ev_Sub (ev_CallB G.b_dict rfl (.type _) rfl (evs (ev_T (ev_SA G.K G.n_lay tl_lay rfl mem_x mem_ns rfl) rfl) evs0) ((f_dict_pairs (ps:=tv lay.sigs) (tvl h1)).frz rfl)) (ev_T (ev_Sub (ev_SA G.K G.n_r tl_r rfl mem_x mem_ns rfl) (ev_N rfl) (item_odct mem_rd (hR.get r hr))) rfl) (item_dct (dgetS (hsg ⟨r,hr,rfl⟩)))) (ev_SA G.K G.n_occ tl_occ rfl mem_x mem_ns rfl) mem_od) (fun qa=>?_) fun qa=>?_
 ·refine sSub ev_i (ev_N rfl) ev_i (mem_rows (mem_rowA hr)) (set_olst (mem_rows (mem_rowA hr)) (by decide) (show ((2:Nat):Int) < ((3:Nat):Int) by decide) (sz10 (Nat.le_of_ble_eq_true rfl))) ?_
  refine WSs.nd fun hnd2=>?_
  rw [hset_fst] at hnd2
  rw [map_row hnd]
  exact wSs_Ret (ev_s.run _ ⟨rfl,_,le_eq (hset_rowA (e:=r.e) (w:=3) hnd2)⟩)
 ·refine sDel (ev_SA G.K G.n_held tl_held rfl mem_x mem_ns rfl) (ev_N rfl) mem_hd (del_odct mem_hd (by rw [q5]; rfl) (rowsL h2)) ?_
  refine WSs.hs (pre:=[]) ?_
  rw [rowsEs_del]
  exact sRetP (l:=[]) ev_s (le_ls trivial (.cons₂ _ (.cons₂ _ (.cons₂ _ (.cons₂ _ (.cons₂ _ (.cons₂ _ (rowsHp_sub List.filter_sublist))))))))
end
end Mine
end
noncomputable section
set_option maxRecDepth 100000
namespace Mine
open PySem PySem.SeqAt PyProof.Rows
theorem k_tick:DefK D_tick ["self"] D_tick.body:=mkK rfl (by
 intro nm qual pm code doc vs h
 obtain ⟨x,rfl⟩:=list1 h; rfl)
theorem k_enter:DefK D_enter ["self","s"] D_enter.body:=mkK rfl (by
 intro nm qual pm code doc vs h
 refine E21 (list2 h) fun x y z2=>?_; subst z2; rfl)
theorem k_leave:DefK D_leave ["self","s"] D_leave.body:=mkK rfl (by
 intro nm qual pm code doc vs h
 refine E21 (list2 h) fun x y z2=>?_; subst z2; rfl)
noncomputable def tickR (r:Row):List Row:=if r.w=0 then [r] else if r.w - 1=0 then [] else [{ r with w:=r.w - 1 }]
theorem tickR_nm {r q:Row} (h:q∈tickR r):q.nm=r.nm:=by
 unfold tickR at h
 split at h
 ·rw [List.mem_singleton.mp h]
 ·split at h
  ·cases h
  ·rw [List.mem_singleton.mp h]
theorem tickR_len (r:Row):(tickR r).length≤1:=by
 unfold tickR; split
 ·simp
 ·split <;> simp
theorem flat_nm {f:Row→List Row} (hf:∀ r q,q∈f r→q.nm=r.nm) {dn:List Row} {q:Row} (h:q∈dn.flatMap f):∃ r∈dn,r.nm=q.nm:=by
 refine E12 (List.mem_flatMap.mp h) fun r hr hq=>?_
 exact (I12 r hr ((hf r q hq).symm))
theorem flat_len {f:Row→List Row} (hf:∀ r,(f r).length≤1) (dn:List Row):(dn.flatMap f).length≤dn.length:=by
 induction dn with
 | nil=>simp
 | cons r dn ih=>rw [List.flatMap_cons,List.length_append,List.length_cons,Nat.add_comm]; exact Nat.add_le_add ih (hf r)
theorem dget_row {pre post:List Row} {r:Row} (h:∀ q∈pre,q.nm≠r.nm):dget (rowsEs (pre++r::post)) r.nm=some (.ref r.a):=by
 induction pre with
 | nil =>
  show dget ((r.nm,V.ref r.a)::rowsEs post) r.nm=_
  rw [dget_cons]; simp
 | cons q pre ih =>
  show dget ((q.nm,V.ref q.a)::rowsEs (pre++r::post)) r.nm=_
  rw [dget_cons,if_neg (h q (.head _))]
  exact ih fun q hq=>h q (.tail _ hq)
theorem rowsEs_drop {pre post:List Row} {r:Row} (h1:∀ q∈pre,q.nm≠r.nm) (h2:∀ q∈post,q.nm≠r.nm):ddel (rowsEs (pre++r::post)) r.nm=rowsEs (pre++post):=by
 rw [rowsEs_del,List.filter_append,List.filter_cons_of_neg (by simp),filter_ne h1,filter_ne h2]
theorem rowsN {rows:List Row}:((rowsEs rows).map fun e=>V.str e.1)=rows.map fun r=>V.str r.nm:=by unfold rowsEs; rw [List.map_map]; rfl
theorem rowsK {rows:List Row} (h:rows.length≤100):(rowsEs rows).length≤1000:=by rw [rowsEs,List.length_map]; exact Nat.le_trans h (by decide)
theorem flat_step {f:Row→List Row} {dn td:List Row} {r:Row} {l:List Row} (h:f r=l):(dn++[r]).flatMap f++td=dn.flatMap f++(l++td):=by rw [List.flatMap_append,List.flatMap_cons,h,List.flatMap_nil,List.append_nil,List.append_assoc]
theorem hsRow {c:Cx} {A:Around} {env:Env} {C:Addr} {ad:Ad} {lay:V} {rs pos:List (Str×V)} {occ:List Str} {pre post:List Row} {r:Row} {e w:Int} {l:List (Str×V)} {sts:List Stmt} {k:FV→St→Prop} (h:WSs c A env ⟨l,mhp C ad lay rs pos occ (pre++{ r with e:=e,w:=w }::post)⟩ sts k):WSs c A env ⟨l,hset (mhp C ad lay rs pos occ (pre++r::post)) r.a (.lst [.ref r.b,.int e,.int w])⟩ sts k :=
 WSs.nd fun hnd=>by
  have hnd':((hset (mhp C ad lay rs pos occ (pre++r::post)) r.a (.lst [.ref r.b,.int e,.int w])).map (·.1)).Nodup:=hnd
  rw [hset_fst] at hnd'
  rw [hset_rowA hnd']; exact h
section
variable {c:Cx} (G:Core c) {n:Nat} {ad:Ad} {lay:Lay} {rs pos:List (Str×V)} {occ:List Str} {rows:List Row}
theorem spec_tick (hnd:(rows.map Row.nm).Nodup) (h2:rows.length≤100) :
  CallSpec c (n + 1) G.f_tick (mhp G.C ad lay.v rs pos occ rows) [.ref ad.x] fun X H'=>X=.str "done" ∧ H'=mhp G.C ad lay.v rs pos occ (rows.flatMap tickR):=by
 refine def_H G.F_tick k_tick rfl fun A qual code L hR'=>?_
 conv in D_tick.body=>whnf
 refine sFold (ls:=rows) (f:=fun r:Row=>V.str r.nm) (ς:=[("self", .ref ad.x)]) (S:=fun dn td=>mhp G.C ad lay.v rs pos occ (dn.flatMap tickR++td)) (ev_CallB G.b_list rfl (.type _) rfl (evs (ev_SA G.K G.n_held tl_held rfl mem_x mem_ns rfl) evs0) ((f_list_odct mem_hd (rowsK h2)).frz rfl)) seq_lst rowsN (St.le.refl _) (fun dn r td hrows k' hk=>?_) ?_
 ·refine E02 (names_post (hrows.symm▸hnd:((dn++r::td).map Row.nm).Nodup)) fun n1 n2=>?_
  have n1':∀ q∈dn.flatMap tickR,q.nm≠r.nm:=fun q hq e=>E12 (flat_nm (fun qa qb=>tickR_nm) hq) fun r' hr' e'=>n1 r' hr' (e'.trans e)
  have hd:=dget_row (post:=td) n1'
  have hr:r∈dn.flatMap tickR++r::td:=List.mem_append_right _ (.head _)
  have e0:∀ l,tickR r=l→(dn++[r]).flatMap tickR++td=dn.flatMap tickR++(l++td):=fun l h=>flat_step h
  refine (av_N (.inl rfl)).run _ (sIf (tp_int (ev_own (ev_Sub (ev_SA G.K G.n_held tl_held rfl mem_x mem_ns rfl) (ev_N rfl) (item_odct mem_hd hd)) (mem_rows (mem_rowA hr)) rfl)) (fun hw=>?_) fun hw=>?_)
  ·refine sAug (ev_Sub (ev_SA G.K G.n_held tl_held rfl mem_x mem_ns rfl) (ev_N rfl) (item_odct mem_hd hd)) ev_i (item_own (mem_rows (mem_rowA hr)) (by decide) (by decide) rfl) ev_i inp_sub (mem_rows (mem_rowA hr)) (set_olst (mem_rows (mem_rowA hr)) (by decide) (show ((2:Nat):Int) < ((3:Nat):Int) by decide) (sz10 (Nat.le_of_ble_eq_true rfl))) ?_
   refine hsRow (pre:=dn.flatMap tickR) (r:=r) (e:=r.e) (w:=r.w - 1) ?_
   have hr2:({ r with e:=r.e,w:=r.w - 1 }:Row)∈dn.flatMap tickR++{ r with e:=r.e,w:=r.w - 1 }::td:=List.mem_append_right _ (.head _)
   have hd2:dget (rowsEs (dn.flatMap tickR++{ r with e:=r.e,w:=r.w - 1 }::td)) r.nm=some (.ref r.a):=dget_row (r:={ r with e:=r.e,w:=r.w - 1 }) n1'
   refine sIf (tp_not (tp_int (ev_own (ev_Sub (ev_SA G.K G.n_held tl_held rfl mem_x mem_ns rfl) (ev_N rfl) (item_odct mem_hd hd2)) (mem_rows (mem_rowA (r:={ r with e:=r.e,w:=r.w - 1 }) hr2)) rfl))) (fun hw1=>?_) fun hw1=>?_
   ·refine sDel (ev_SA G.K G.n_held tl_held rfl mem_x mem_ns rfl) (ev_N rfl) mem_hd (del_odct mem_hd (by rw [hd2]; rfl) (rowsL (n:=100) ?_)) ?_
    ·rw [List.length_append]
     exact Nat.le_trans (Nat.add_le_add_right (flat_len tickR_len dn) _) (by rw [← hrows,List.length_append] at h2; exact h2)
    refine WSs.hs (pre:=[]) ?_
    rw [show ddel (rowsEs (dn.flatMap tickR++{ r with e:=r.e,w:=r.w - 1 }::td)) r.nm=rowsEs (dn.flatMap tickR++td) from rowsEs_drop (r:={ r with e:=r.e,w:=r.w - 1 }) n1' n2]
    refine wSs_nil (wSs_nil (wSs_nil (hk _ (le_ls ⟨rfl,trivial⟩ ?_)).1))
    rw [e0 [] (by unfold tickR; rw [if_neg hw,if_pos (Decidable.of_not_not hw1)])]
    exact .cons₂ _ (.cons₂ _ (.cons₂ _ (.cons₂ _ (.cons₂ _ (.cons₂ _ (rowsHp_sub ((List.Sublist.refl _).append (List.sublist_cons_self _ _))))))))
   ·refine wSs_nil (wSs_nil (wSs_nil (hk _ ?_).1))
    rw [e0 [{ r with w:=r.w - 1 }] (by unfold tickR; rw [if_neg hw,if_neg (fun z=>hw1 fun q=>q z)])]
    exact le_loc ⟨rfl,trivial⟩
  ·refine wSs_nil (wSs_nil (hk _ ?_).1)
   rw [e0 [r] (by unfold tickR; rw [if_pos (Decidable.of_not_not hw)])]
   exact le_loc ⟨rfl,trivial⟩
 ·show WSs c A _ ⟨_,mhp G.C ad lay.v rs pos occ (rows.flatMap tickR++[])⟩ _ _
  rw [List.append_nil]
  exact sRetH ev_s
end
end Mine
end
noncomputable section
set_option maxRecDepth 100000
namespace Mine
open PySem PySem.SeqAt PyProof.Rows
noncomputable def entR (R:Str→Rt) (s:Str) (r:Row):Row:=if (R r.nm).ov[r.e.toNat]?=some s then { r with e:=r.e + 1,w:=0 } else r
theorem entR_nm (R:Str→Rt) (s:Str) (r:Row):(entR R s r).nm=r.nm:=by unfold entR; split <;> rfl
theorem entR_a (R:Str→Rt) (s:Str) (r:Row):(entR R s r).a=r.a:=by unfold entR; split <;> rfl
theorem rowsEs_ent (R:Str→Rt) (s:Str) (rows:List Row):rowsEs (rows.map (entR R s))=rowsEs rows:=by
 unfold rowsEs
 rw [List.map_map]
 exact List.map_congr_left fun r qa=>by simp only [Function.comp,entR_nm,entR_a]
noncomputable def enterF (R:Str→Rt) (secs occ:List Str) (rows:List Row) (s:Str):Str×List Str×List Row :=
 if s∈secs then (if s∈occ then ("occupied", occ,rows) else ("done", sadd occ s,rows.map (entR R s))) else ("unknown", occ,rows)
theorem hsRow' {c:Cx} {A:Around} {env:Env} {C:Addr} {ad:Ad} {lay:V} {rs pos:List (Str×V)} {occ:List Str} {pre post:List Row} {r:Row} {e w:Int} {l:List (Str×V)} {sts:List Stmt} {k:FV→St→Prop} (h:WSs c A env ⟨l,mhp' C ad lay rs pos occ (pre++{ r with e:=e,w:=w }::post)⟩ sts k):WSs c A env ⟨l,hset (mhp' C ad lay rs pos occ (pre++r::post)) r.a (.lst [.ref r.b,.int e,.int w])⟩ sts k :=
 WSs.nd fun hnd=>by
  have hnd':((hset (mhp' C ad lay rs pos occ (pre++r::post)) r.a (.lst [.ref r.b,.int e,.int w])).map (·.1)).Nodup:=hnd
  rw [hset_fst] at hnd'
  rw [hset_rowA' hnd']; exact h
section
variable {c:Cx} (G:Core c) {n:Nat} {ad:Ad} {lay:Lay} {rs pos:List (Str×V)} {occ:List Str} {rows:List Row}
theorem spec_enter {R:Str→Rt} {s:Str} (hR:RsOk R rs rows) (hov:∀ r∈rows,(R r.nm).ov.length≤100) (he0:∀ r∈rows,0≤r.e) (h3:occ.length≤100) :
  CallSpec c (n + 1) G.f_enter (mhp G.C ad lay.v rs pos occ rows) [.ref ad.x,.str s] fun X H'=>X=.str (enterF R lay.secs occ rows s).1∧H'=mhp G.C ad lay.v rs pos (enterF R lay.secs occ rows s).2.1 (enterF R lay.secs occ rows s).2.2:=by
 refine def_H G.F_enter k_enter rfl fun A qual code L hR'=>?_
 conv in D_enter.body=>whnf
 unfold enterF
 refine sIfQN (K:=fun q:Str×List Str×List Row=>RetH (.str q.1) (mhp G.C ad lay.v rs pos q.2.1 q.2.2)) (tp_ni (ev_N rfl) (ev_T (ev_SA G.K G.n_lay tl_lay rfl mem_x mem_ns rfl) rfl)) (fun qa=>ev_s) retH fun hs=>?_
 refine sIfQ (K:=fun q:Str×List Str×List Row=>RetH (.str q.1) (mhp G.C ad lay.v rs pos q.2.1 q.2.2)) (tp_inO (ev_N rfl) (ev_SA G.K G.n_occ tl_occ rfl mem_x mem_ns rfl) mem_od) (fun qa=>ev_s) retH fun ho=>?_
 refine sMeth meth_add (ev_SA G.K G.n_occ tl_occ rfl mem_x mem_ns rfl) (vt_oset mem_od) (evs (ev_N rfl) evs0) mem_od (u_add mem_od (Nat.lt_of_le_of_lt (Nat.add_le_add_right h3 1) (by decide))) ?_
 refine WSs.hs (pre:=[_,_,_,_,_]) ?_
 refine sFoldH (ls:=rows) (f:=fun r:Row=>V.tup [.str r.nm,.ref r.a]) (ς:=[("self", .ref ad.x),("s", .str s)]) (η₀:=mhp' G.C ad lay.v rs pos (sadd occ s) rows) (d:=ad.hd) (ob:=.dct (rowsEs rows)) (S:=fun dn td=>mhp' G.C ad lay.v rs pos (sadd occ s) (dn.map (entR R s)++td)) (ev_items rfl (ev_SA G.K G.n_held tl_held rfl (.tail _ mem_x') (.tail _ mem_ns') rfl) (.head _)) (seq_oview (.head _)) (rowsV_eq rows) (St.le.refl _) (fun dn r td hrows k' hk=>?_) ?_
 ·have hr0:r∈rows:=by rw [← hrows]; exact List.mem_append_right _ (.head _)
  have hr:r∈dn.map (entR R s)++r::td:=List.mem_append_right _ (.head _)
  have e0:=he0 r hr0
  have ov1:=sz100 (hov r hr0)
  have e1:∀ q,entR R s r=q→(dn++[r]).map (entR R s)++td=dn.map (entR R s)++q::td:=fun q h=>by rw [List.map_append,List.map_cons,h,List.append_assoc]; rfl
  have hget:r.e < ((R r.nm).ov.length:Int)→∃ y,(R r.nm).ov[r.e.toNat]?=some y:=fun z=>⟨_,List.getElem?_eq_getElem ((Int.toNat_lt e0).mpr z)⟩
  refine (av2 (.inl rfl) (.inl rfl)).run _ ?_
  refine sSet (.inl rfl) (ev_T (ev_Sub (ev_SA G.K G.n_r tl_r rfl mem_x' mem_ns' rfl) (ev_N rfl) (item_odct mem_rd' (hR.get r hr0))) rfl) ?_
  refine sIf (P:=(R r.nm).ov[r.e.toNat]?=some s) (tp_iff (tp_A2 (Q:=(R r.nm).ov[r.e.toNat]?=some s) (tp_lt (ev_own (ev_N rfl) (mem_rows' (mem_rowA hr)) rfl) (ev_CallB G.b_len rfl (.blt _) rfl (evs (ev_N rfl) evs0) (b_len_lst (by rw [List.length_map]; exact ov1)))) fun z=>?_) ?_) (fun hit=>?_) fun hit=>?_
  ·rw [List.length_map] at z
   exact E11 (hget z) fun y hy=>tp_iff (Q:=(R r.nm).ov[r.e.toNat]?=some s) (tp_eq (x:=y) (ev_Sub (ev_N rfl) (ev_own (ev_N rfl) (mem_rows' (mem_rowA hr)) rfl) (item_lst e0 (Int.lt_trans z (Int.lt_of_le_of_lt (Int.ofNat_le.mpr (hov r hr0)) (by decide))) (by rw [List.getElem?_map,hy]; rfl))) (ev_N rfl)) (by rw [hy,Option.some.injEq])
  ·rw [List.length_map]
   refine ⟨fun z=>z.2,fun z=>⟨?_,z⟩⟩
   exact (Int.toNat_lt e0).mp (List.getElem?_eq_some_iff.mp z).1
  ·refine sAug (ev_N rfl) ev_i (item_own (mem_rows' (mem_rowA hr)) (by decide) (by decide) rfl) ev_i inp_add (mem_rows' (mem_rowA hr)) (set_olst (mem_rows' (mem_rowA hr)) (by decide) (show ((1:Nat):Int) < ((3:Nat):Int) by decide) (sz10 (Nat.le_of_ble_eq_true rfl))) ?_
   refine hsRow' (pre:=dn.map (entR R s)) (r:=r) (e:=r.e + 1) (w:=r.w) ?_
   have hr2:({ r with e:=r.e + 1,w:=r.w }:Row)∈dn.map (entR R s)++{ r with e:=r.e + 1,w:=r.w }::td:=List.mem_append_right _ (.head _)
   refine sSub ev_i (ev_N rfl) ev_i (mem_rows' (mem_rowA (r:={ r with e:=r.e + 1,w:=r.w }) hr2)) (set_olst (mem_rows' (mem_rowA (r:={ r with e:=r.e + 1,w:=r.w }) hr2)) (by decide) (show ((2:Nat):Int) < ((3:Nat):Int) by decide) (sz10 (Nat.le_of_ble_eq_true rfl))) ?_
   refine hsRow' (pre:=dn.map (entR R s)) (r:={ r with e:=r.e + 1,w:=r.w }) (e:=r.e + 1) (w:=0) ?_
   refine wSs_nil (wSs_nil (hk _ ?_))
   rw [e1 { r with e:=r.e + 1,w:=0 } (by unfold entR; rw [if_pos hit])]
   exact le_loc (I03 rfl rfl trivial)
  ·refine wSs_nil (wSs_nil (hk _ ?_))
   rw [e1 r (by unfold entR; rw [if_neg hit])]
   exact le_loc (I03 rfl rfl trivial)
 ·refine sRetP (l:=[("self", .ref ad.x),("s", .str s)]) ev_s (le_eq ?_)
  show _=mhp G.C ad lay.v rs pos (sadd occ s) (rows.map (entR R s))
  unfold mhp
  rw [rowsEs_ent,List.append_nil]
end
end Mine
end
noncomputable section
set_option maxRecDepth 100000
namespace Mine
open PySem PySem.SeqAt PyProof.Rows
noncomputable def leaveR (R:Str→Rt) (s:Str) (r:Row):List Row :=
 match r.left with
 | []=>[r]
 | x::l=>if x=s∧s∈(R r.nm).ov.take r.e.toNat then (if l=[] then [] else [{ r with left:=l }]) else [r]
theorem leaveR_nm {R:Str→Rt} {s:Str} {r q:Row} (h:q∈leaveR R s r):q.nm=r.nm:=by
 unfold leaveR at h
 split at h
 ·rw [List.mem_singleton.mp h]
 ·split at h
  ·split at h
   ·cases h
   ·rw [List.mem_singleton.mp h]
  ·rw [List.mem_singleton.mp h]
theorem leaveR_len (R:Str→Rt) (s:Str) (r:Row):(leaveR R s r).length≤1:=by
 unfold leaveR
 split
 ·simp
 ·split
  ·split <;> simp
  ·simp
noncomputable def leaveF (R:Str→Rt) (secs occ:List Str) (rows:List Row) (s:Str):Str×List Str×List Row :=
 if s∈secs then (if s∈occ then ("done", occ.filter (fun y=>decide (y≠s)),rows.flatMap (leaveR R s)) else ("free", occ,rows)) else ("unknown", occ,rows)
theorem first_idx {s:Str}:∀ {ov:List Str},s∈ov→∃ j:Nat,ov[j]?=some s∧(∀ m,m < j→ov[m]?≠some s)∧∀ e:Nat,j < e↔s∈ov.take e
 | [],h=>by cases h
 | x::ov,h=>by
  by_cases hx:x=s
  ·subst hx
   refine (I13 0 (by simp) (fun m hm=>by omega) (fun e=>?_))
   cases e with
   | zero=>simp
   | succ e=>simp
  ·have h':s∈ov:=by
    rcases List.mem_cons.mp h with e | h
    ·exact absurd e.symm hx
    ·exact h
   refine E13 (first_idx h') fun j h1 h2 h3=>?_
   refine (I13 (j + 1) (by simpa using h1) (fun m hm=>?_) (fun e=>?_))
   ·cases m with
    | zero=>simpa using hx
    | succ m=>simpa using h2 m (by omega)
   ·cases e with
    | zero=>simp
    | succ e =>
     have hx':¬ s=x:=fun e=>hx e.symm
     rw [List.take_succ_cons,List.mem_cons,← h3 e]
     simp [hx']
theorem hsRowB {c:Cx} {A:Around} {env:Env} {C:Addr} {ad:Ad} {lay:V} {rs pos:List (Str×V)} {occ:List Str} {pre post:List Row} {r:Row} {l':List Str} {l:List (Str×V)} {sts:List Stmt} {k:FV→St→Prop} (h:WSs c A env ⟨l,mhp C ad lay rs pos occ (pre++{ r with left:=l' }::post)⟩ sts k):WSs c A env ⟨l,hset (mhp C ad lay rs pos occ (pre++r::post)) r.b (.lst (l'.map .str))⟩ sts k :=
 WSs.nd fun hnd=>by
  have hnd':((hset (mhp C ad lay rs pos occ (pre++r::post)) r.b (.lst (l'.map .str))).map (·.1)).Nodup:=hnd
  rw [hset_fst] at hnd'
  rw [hset_rowB hnd']; exact h
section
variable {c:Cx} (G:Core c) {n:Nat} {ad:Ad} {lay:Lay} {rs pos:List (Str×V)} {occ:List Str} {rows:List Row}
theorem spec_leave {R:Str→Rt} {s:Str} (hnd:(rows.map Row.nm).Nodup) (hR:RsOk R rs rows) (hov:∀ r∈rows,(R r.nm).ov.length≤100) (he0:∀ r∈rows,0≤r.e) (hin:∀ r∈rows,∀ l,r.left=s::l→s∈(R r.nm).ov) (h2:rows.length≤100) :
  CallSpec c (n + 1) G.f_leave (mhp G.C ad lay.v rs pos occ rows) [.ref ad.x,.str s] fun X H'=>X=.str (leaveF R lay.secs occ rows s).1∧H'=mhp G.C ad lay.v rs pos (leaveF R lay.secs occ rows s).2.1 (leaveF R lay.secs occ rows s).2.2:=by
 refine def_H G.F_leave k_leave rfl fun A qual code L hR'=>?_
 conv in D_leave.body=>whnf
 unfold leaveF
 refine sIfQN (K:=fun q:Str×List Str×List Row=>RetH (.str q.1) (mhp G.C ad lay.v rs pos q.2.1 q.2.2)) (tp_ni (ev_N rfl) (ev_T (ev_SA G.K G.n_lay tl_lay rfl mem_x mem_ns rfl) rfl)) (fun qa=>ev_s) retH fun hs=>?_
 refine sIfQN (K:=fun q:Str×List Str×List Row=>RetH (.str q.1) (mhp G.C ad lay.v rs pos q.2.1 q.2.2)) (tp_niO (ev_N rfl) (ev_SA G.K G.n_occ tl_occ rfl mem_x mem_ns rfl) mem_od) (fun qa=>ev_s) retH fun ho=>?_
 refine sMeth meth_discard (ev_SA G.K G.n_occ tl_occ rfl mem_x mem_ns rfl) (vt_oset mem_od) (evs (ev_N rfl) evs0) mem_od (u_discard mem_od) ?_
 refine WSs.hs (pre:=[_,_,_,_,_]) ?_
 generalize hocc:occ.filter (fun y=>decide (y≠s))=occ'
 refine sFold (ls:=rows) (f:=fun r:Row=>V.str r.nm) (η₀:=mhp G.C ad lay.v rs pos occ' rows) (ς:=[("self", .ref ad.x),("s", .str s)]) (S:=fun dn td=>mhp G.C ad lay.v rs pos occ' (dn.flatMap (leaveR R s)++td)) (ev_CallB G.b_list rfl (.type _) rfl (evs (ev_SA G.K G.n_held tl_held rfl mem_x mem_ns rfl) evs0) ((f_list_odct mem_hd (rowsK h2)).frz rfl)) seq_lst rowsN (St.le.refl _) (fun dn r td hrows k' hk=>?_) ?_
 ·refine E02 (names_post (hrows.symm▸hnd:((dn++r::td).map Row.nm).Nodup)) fun n1 n2=>?_
  have n1':∀ q∈dn.flatMap (leaveR R s),q.nm≠r.nm:=fun q hq e=>E12 (flat_nm (fun qa qb=>leaveR_nm) hq) fun r' hr' e'=>n1 r' hr' (e'.trans e)
  have hd:=dget_row (post:=td) n1'
  have hr0:r∈rows:=by rw [← hrows]; exact List.mem_append_right _ (.head _)
  have hr:r∈dn.flatMap (leaveR R s)++r::td:=List.mem_append_right _ (.head _)
  have eq1:∀ l,leaveR R s r=l→(dn++[r]).flatMap (leaveR R s)++td=dn.flatMap (leaveR R s)++(l++td):=fun l h=>flat_step h
  have hlf:=hR.left r hr0
  refine (av_N (.inl rfl)).run _ ?_
  refine sSet (.inl rfl) (ev_Sub (ev_SA G.K G.n_held tl_held rfl mem_x mem_ns rfl) (ev_N rfl) (item_odct mem_hd hd)) ?_
  refine sSet (.inl rfl) (ev_T (ev_Sub (ev_SA G.K G.n_r tl_r rfl mem_x mem_ns rfl) (ev_N rfl) (item_odct mem_rd (hR.get r hr0))) rfl) ?_
  refine sIf (P:=r.left≠[]∧r.left.head?=some s∧s∈(R r.nm).ov.take r.e.toNat) (tp_A3 (tp_own (ev_own (ev_N rfl) (mem_rows (mem_rowA hr)) rfl) (mem_rows (mem_rowB hr)) (sz100 hlf)) (fun z=>?_) (fun z1 z2=>?_)) (fun hit=>?_) fun hit=>?_
  ·obtain ⟨x,l,hl⟩:=List.exists_cons_of_ne_nil z
   exact tp_iff (tp_eq (x:=x) (ev_own (ev_own (ev_N rfl) (mem_rows (mem_rowA hr)) rfl) (mem_rows (mem_rowB hr)) (by rw [hl]; rfl)) (ev_N rfl)) (by rw [hl,List.head?_cons,Option.some.injEq])
  ·obtain ⟨x,l,hl⟩:=List.exists_cons_of_ne_nil z1
   rw [hl,List.head?_cons,Option.some.injEq] at z2
   subst z2
   refine E13 (first_idx (hin r hr0 l hl)) fun j j1 j2 j3=>?_
   refine tp_iff (tp_lt (ev_Meth meth_index (ev_N rfl) vt_lst (evs (ev_N rfl) evs0) (b_index j1 j2 (sz100 (hov r hr0)))) (ev_own (ev_N rfl) (mem_rows (mem_rowA hr)) rfl)) ?_
   rw [← j3]
   exact Int.lt_toNat.symm
  ·obtain ⟨x,l,hl⟩:=List.exists_cons_of_ne_nil hit.1
   have hx:=hit.2.1
   rw [hl,List.head?_cons,Option.some.injEq] at hx
   subst hx
   have hmb:(r.b,O.lst (V.str x::l.map .str))∈mhp G.C ad lay.v rs pos occ' (dn.flatMap (leaveR R x)++r::td):=by
    have:=mem_rows (C:=G.C) (ad:=ad) (lay:=lay.v) (rs:=rs) (pos:=pos) (occ:=occ') (mem_rowB hr)
    rw [hl] at this; exact this
   rw [hl] at hlf
   have hl1:l.length≤100:=Nat.le_of_succ_le hlf
   refine sMeth meth_pop (ev_own (ev_N rfl) (mem_rows (mem_rowA hr)) rfl) (vt_olst hmb) (evs ev_i evs0) hmb (u_pop0 hmb (by rw [List.length_map]; exact sz100 hlf)) ?_
   refine hsRowB (pre:=dn.flatMap (leaveR R x)) (r:=r) ?_
   have hr2:({ r with left:=l }:Row)∈dn.flatMap (leaveR R x)++{ r with left:=l }::td:=List.mem_append_right _ (.head _)
   have hd2:dget (rowsEs (dn.flatMap (leaveR R x)++{ r with left:=l }::td)) r.nm=some (.ref r.a):=dget_row (r:={ r with left:=l }) n1'
   refine sIf (tp_not (tp_own (ev_own (ev_N rfl) (mem_rows (mem_rowA (r:={ r with left:=l }) hr2)) rfl) (mem_rows (mem_rowB (r:={ r with left:=l }) hr2)) (sz100 hl1))) (fun he=>?_) fun he=>?_
   ·refine sDel (ev_SA G.K G.n_held tl_held rfl mem_x mem_ns rfl) (ev_N rfl) mem_hd (del_odct mem_hd (by rw [hd2]; rfl) (rowsL (n:=100) ?_)) ?_
    ·rw [List.length_append]
     exact Nat.le_trans (Nat.add_le_add_right (flat_len (leaveR_len R x) dn) _) (by rw [← hrows,List.length_append] at h2; exact h2)
    refine WSs.hs (pre:=[]) ?_
    rw [show ddel (rowsEs (dn.flatMap (leaveR R x)++{ r with left:=l }::td)) r.nm=rowsEs (dn.flatMap (leaveR R x)++td) from rowsEs_drop (r:={ r with left:=l }) n1' n2]
    refine wSs_nil (wSs_nil (wSs_nil (hk _ (le_ls (I03 rfl rfl trivial) ?_)).1))
    rw [eq1 [] (by unfold leaveR; rw [hl]; exact (if_pos ⟨rfl,hit.2.2⟩).trans (if_pos (Decidable.of_not_not he)))]
    exact .cons₂ _ (.cons₂ _ (.cons₂ _ (.cons₂ _ (.cons₂ _ (.cons₂ _ (rowsHp_sub ((List.Sublist.refl _).append (List.sublist_cons_self _ _))))))))
   ·refine wSs_nil (wSs_nil (wSs_nil (hk _ ?_).1))
    rw [eq1 [{ r with left:=l }] (by unfold leaveR; rw [hl]; exact (if_pos ⟨rfl,hit.2.2⟩).trans (if_neg fun z=>he fun q=>q z))]
    exact le_loc (I03 rfl rfl trivial)
  ·refine wSs_nil (wSs_nil (hk _ ?_).1)
   rw [eq1 [r] ?_]
   ·exact le_loc (I03 rfl rfl trivial)
   unfold leaveR
   cases hl:r.left with
   | nil=>rfl
   | cons x l=>exact if_neg fun z=>hit ⟨by rw [hl]; exact List.cons_ne_nil _ _,by rw [hl,z.1]; rfl,z.2⟩
 ·show WSs c A _ ⟨_,mhp G.C ad lay.v rs pos occ' (rows.flatMap (leaveR R s)++[])⟩ _ _
  rw [List.append_nil]
  exact sRetH ev_s
end
end Mine
end
noncomputable section
set_option maxRecDepth 100000
namespace Mine
open PySem PySem.SeqAt PyProof.Rows
theorem k_set:DefK D_set ["self","n"] D_set.body:=mkK rfl (by
 intro nm qual pm code doc vs h
 refine E21 (list2 h) fun x y z2=>?_; subst z2; rfl)
noncomputable def setF (R:Str→Rt) (known:Bool) (hm:Str→Str) (pos:List (Str×Str)) (occ:List Str) (rows:List Row) (nm:Str):Str×List (Str×Str) :=
 if known=false then ("unknown", pos)
 else if rows.any (fun r=>decide (r.nm=nm)) then ("held", pos)
 else if (R nm).ov.any (fun s=>decide (s∈occ)) then ("occupied", pos)
 else if rows.any (fun r=>clashB (R nm) (R r.nm)) then ("conflict", pos)
 else if (R nm).nd.any (fun q=>!decide (tget pos q.1=some q.2)&&lockB R occ (hm q.1) q.1 rows) then ("locked", pos)
 else ("done", tfold (R nm).nd pos)
theorem dget_any (rows:List Row) (n:Str):(dget (rowsEs rows) n).isSome=rows.any fun r=>decide (r.nm=n):=by
 induction rows with
 | nil=>rfl
 | cons r rows ih =>
  show (dget ((r.nm,V.ref r.a)::rowsEs rows) n).isSome=_
  rw [dget_cons,List.any_cons]
  by_cases h:r.nm=n
  ·simp [h]
  ·simp [h,ih]
theorem any_sof (xs:List Str) (f:Str→Bool):(sof xs).any f=xs.any f:=by
 rw [Bool.eq_iff_iff,List.any_eq_true,List.any_eq_true]
 exact ⟨fun ⟨x,hx,h⟩=>(I12 x ((mem_sof _ _).mp hx) h),fun ⟨x,hx,h⟩=>(I12 x ((mem_sof _ _).mpr hx) h)⟩
section
variable {c:Cx} (G:Core c) {n:Nat} {ad:Ad} {lay:Lay} {rs:List (Str×V)} {occ:List Str} {rows:List Row}
structure RtOk (r:Rt):Prop where
 ov:r.ov.length≤100
 nd:r.nd.length≤100
noncomputable def SetK (C:Addr) (ad:Ad) (lay:V) (rs:List (Str×V)) (occ:List Str) (rows:List Row) (h:Held) (q:Str×List (Str×Str)) (f:FV) (σ:St):Prop :=
 f=.ret (.str q.1)∧∃ l rows',rows'.map Row.held=rows.map Row.held++(if q.1 = "done" then [h] else [])∧σ.le ⟨l,mhp C ad lay rs (tv q.2) occ rows'⟩
theorem setStay {C:Addr} {ad:Ad} {lay:V} {rs:List (Str×V)} {occ:List Str} {rows:List Row} {h:Held} {told:Str} {pos:List (Str×Str)} {σ:St} {l:List (Str×V)} (hl:σ.le ⟨l,mhp C ad lay rs (tv pos) occ rows⟩) (hne:told ≠ "done" := by decide):SetK C ad lay rs occ rows h (told,pos) (.ret (.str told)) σ :=
 ⟨rfl,l,rows,by rw [if_neg hne,List.append_nil],hl⟩
theorem spec_set {R:Str→Rt} {known:Bool} {hm:Str→Str} {pos:List (Str×Str)} {nm:Str} (hk:dget rs nm=if known then some (R nm).v else none) (hR:RsOk R rs rows) (hok:∀ r,RtOk (R r)) (h1:lay.pts.length≤100) (h2:rows.length≤90) (h3:pos.length≤100)
  (hpos:∀ q∈(R nm).nd,(tget pos q.1).isSome=true∧tget (tfold lay.pts []) q.1=some (hm q.1)) :
  CallSpec c (n + 2) G.f_set (mhp G.C ad lay.v rs (tv pos) occ rows) [.ref ad.x,.str nm] fun X H'=>X=.str (setF R known hm pos occ rows nm).1 ∧
   ∃ rows',rows'.map Row.held=rows.map Row.held++(if (setF R known hm pos occ rows nm).1 = "done" then [⟨nm,(R nm).ov,0,0⟩] else [])∧H'=mhp G.C ad lay.v rs (tv (setF R known hm pos occ rows nm).2) occ rows':=by
 refine call_def G.F_set k_set rfl fun A qual code L hR'=>?_
 conv in D_set.body=>whnf
 refine WP.imp (k:=SetK G.C ad lay.v rs occ rows ⟨nm,(R nm).ov,0,0⟩ (setF R known hm pos occ rows nm)) ?_ fun f σ=>R02 fun z q=>E22 q fun l rows' h1 h2=>I13 _ h2 (congrArg retV z) ⟨rows',h1,rfl⟩
 unfold setF
 cases known with
 | false=>exact sIfH (tp_niD (ev_N rfl) (ev_SA G.K G.n_r tl_r rfl mem_x mem_ns rfl) mem_rd) (by rw [hk]; exact fun z=>nomatch z) ev_s (setStay (St.le.refl _))
 | true =>
 have hk':dget rs nm=some (R nm).v:=hk
 have ov1:=(hok nm).ov
 have nd1:=(hok nm).nd
 rw [if_neg (fun z=>nomatch z)]
 refine sIfF (tp_niD (ev_N rfl) (ev_SA G.K G.n_r tl_r rfl mem_x mem_ns rfl) mem_rd) (by rw [hk']; exact fun z=>z rfl) ?_
 refine sSet (.inl rfl) (ev_Sub (ev_SA G.K G.n_r tl_r rfl mem_x mem_ns rfl) (ev_N rfl) (item_odct mem_rd hk')) ?_
 refine sIfQ (K:=SetK G.C ad lay.v rs occ rows ⟨nm,(R nm).ov,0,0⟩) (tp_iff (tp_inD (ev_N rfl) (ev_SA G.K G.n_held tl_held rfl mem_x mem_ns rfl) mem_hd) (by rw [dget_any])) (fun qa=>ev_s) (setStay (St.le.refl _)) fun hheld=>?_
 refine sIfQ (K:=SetK G.C ad lay.v rs occ rows ⟨nm,(R nm).ov,0,0⟩) (tp_iff (tp_bool (ev_Self G.K G.m_busy G.F_busy tl_busy rfl mem_x mem_ns rfl (evs (ev_CallB G.b_set rfl (.type _) rfl (evs (ev_at rfl rfl) evs0) ((f_set_lst (Nat.lt_of_le_of_lt (Nat.add_le_add_right ov1 1) (by decide))).frz rfl)) evs0) hR' (spec_busy G))) (by rw [any_sof])) (fun qa=>ev_s) (setStay (St.le.refl _)) fun qa=>?_
 refine sForH (ls:=rows) (η:=mhp' G.C ad lay.v rs (tv pos) occ rows) (f:=fun r:Row=>V.str r.nm) (P:=fun r=>clashB (R nm) (R r.nm)=true) (R:=.str "conflict") (ev_SA G.K G.n_held tl_held rfl mem_x mem_ns rfl) (seq_okeys mem_hd) (by unfold rowsEs; rw [List.map_map]; rfl) ?_ (fun q τ hτ=>?_) fun q=>?_
 ·exact fun r hr=>tB (av_N (.inl rfl)) (tp_bool (ev_Pure G.g_clash G.F_clash rfl (evs (ev_N rfl) (evs (ev_Sub (ev_SA G.K G.n_r tl_r rfl mem_x' mem_ns' rfl) (ev_N rfl) (item_odct mem_rd' (hR.get r hr))) evs0)) hR' (spec_clash G.F_clash G.b_set G.b_len nd1 ov1 (hok r.nm).ov))) (fun qa=>ev_s) (ll1 rfl)
 ·rw [if_pos (any_t q)]; exact setStay hτ
 rw [if_neg (Bool.eq_false_iff.mp (any_f q))]
 refine sForC (ls:=(R nm).nd) (f:=fun q:Str×Str=>V.tup [.str q.1,.str q.2]) (P:=fun q=>(!decide (tget pos q.1=some q.2)&&lockB R occ (hm q.1) q.1 rows)=true) (R:=.str "locked") (ev_at rfl rfl) seq_lst (fun ys h=>ordL ys (h.trans (prs_map _))) (fun q hq=>?_) (fun q τ hτ=>?_) fun q=>?_
 ·obtain ⟨pv,hpv⟩:=Option.isSome_iff_exists.mp (hpos q hq).1
  refine tB (av2 (.inl rfl) (.inl rfl)) (tp_iff (tp_A2 (tp_ne (x:=pv) (ev_Sub (ev_SA G.K G.n_pos tl_pos rfl mem_x mem_ns rfl) (ev_N rfl) (item_odct mem_pd (by rw [tv_get,hpv]; rfl))) (ev_N rfl)) fun qa=>tp_bool (ev_Self G.K G.m_locked G.F_locked tl_locked rfl mem_x mem_ns rfl (evs (ev_N rfl) evs0) hR' (spec_locked G (hpos q hq).2 h1 hR))) ?_) (fun qa=>ev_s) (ll2 rfl rfl)
  rw [Bool.and_eq_true,Bool.not_eq_true',decide_eq_false_iff_not,hpv,Option.some.injEq]
 ·rw [if_pos (any_t q)]; exact setStay hτ
 rw [if_neg (Bool.eq_false_iff.mp (any_f q))]
 refine sMeth meth_update (ev_SA G.K G.n_pos tl_pos rfl mem_x mem_ns rfl) (vt_odct mem_pd) (evs (ev_at rfl rfl) evs0) mem_pd (u_update (ps:=tv (R nm).nd) mem_pd (by rw [tv,tv,List.length_map,List.length_map]; exact Nat.le_trans (Nat.add_le_add h3 nd1) (by decide))) ?_
 refine WSs.hs (pre:=[_,_,_,_]) ?_
 rw [tv_fold]
 refine wSs_cons (wS_Assign (wE_ListO (wEs_cons (wE_CallF G.b_list rfl (.type _) rfl ((evs (ev_at rfl rfl) evs0).run _ (I12 _ (f_list_lst (by rw [List.length_map]; exact sz100 ov1)) (fun b hb'=>?_)))))))
 refine (evs ev_i (evs ev_i evs0)).run _ ⟨sz10 (Nat.le_of_ble_eq_true rfl),fun a ha=>?_⟩
 refine wA_Sub ((ev_SA G.K G.n_held tl_held rfl (.tail _ (.tail _ (.tail _ (.head _)))) (.tail _ (.tail _ (.tail _ (.tail _ (.head _))))) rfl).run _ ((ev_N rfl).run _ (I33 ad.hd (.dct (rowsEs rows)) _ (.tail _ (.tail _ (.head _))) (set_odct (.tail _ (.tail _ (.head _))) (rowsL h2)) ?_)))
 refine WSs.hs (pre:=[_,_]) ?_
 have hnew:dget (rowsEs rows) nm=none:=by
  rw [← dget_any] at hheld
  exact Option.not_isSome_iff_eq_none.mp hheld
 exact wSs_Ret (ev_s.run _ ⟨rfl,_,rows++[⟨nm,a,b,(R nm).ov,0,0⟩],by rw [List.map_append,if_pos rfl]; rfl,add_row (r:=⟨nm,a,b,(R nm).ov,0,0⟩) hnew⟩)
end
end Mine
end
noncomputable section
set_option maxRecDepth 100000
namespace Mine
open PySem PySem.SeqAt PyProof.Rows
noncomputable def D_begin:DefD:=defD PP.main.body[3]?
noncomputable def D_act:DefD:=defD PP.main.body[5]?
noncomputable def D_aspects:DefD:=defD PP.main.body[6]?
theorem k_begin:DefK D_begin ["layout"] D_begin.body:=mkK rfl (by
 intro nm qual pm code doc vs h
 obtain ⟨x,rfl⟩:=list1 h; rfl)
theorem k_act:DefK D_act ["layout","state","event"] D_act.body:=mkK rfl (by
 intro nm qual pm code doc vs h
 refine E31 (list3 h) fun x y z z3=>?_; subst z3; rfl)
theorem spec_begin {c:Cx} {a:Addr} {n:Nat} {lay:Lay} (F:IsFn c a D_begin) (h1:lay.pts.length≤100):Pure c (n + 1) a [lay.v] (Sta.mk (lay.pts.map fun q=>(q.1,"+")) [] []).v:=by
 refine pure_def F k_begin rfl fun A qual code L hR=>?_
 conv in D_begin.body=>whnf
 refine sRet (ev_Tup (evs (ev_CompP (ls:=lay.pts) (fun q=>(q.1,"+")) inj_pair (cok rfl (by decide) (by decide)) (ev_at rfl rfl) (prs_map lay.pts) (sz100 h1) ?_) (evs (ev_Lst evs0 n0) (evs (ev_Lst evs0 n0) evs0))) n3)
 exact fun C q hq H hH=>tM (av2 (.inl rfl) (.inl rfl)) (ev_Tup (evs (ev_N rfl) (evs ev_s evs0)) n2) (ll2 rfl rfl)
inductive Ev where
 | set (n:Str)
 | cancel (n:Str)
 | tick
 | enter (s:Str)
 | leave (s:Str)
 | move (p x:Str)
noncomputable def Ev.v:Ev→V
 | .set n=>.tup [.str "set", .str n]
 | .cancel n=>.tup [.str "cancel", .str n]
 | .tick=>.tup [.str "tick"]
 | .enter s=>.tup [.str "enter", .str s]
 | .leave s=>.tup [.str "leave", .str s]
 | .move p x=>.tup [.str "move", .str p,.str x]
structure Kn where
 R:Str→Rt
 known:Str→Bool
 hm:Str→Str
 sg:Str→Str
noncomputable def Trans (K:Kn) (secs:List Str) (pos:List (Str×Str)) (occ:List Str) (rows:List Row) (told:Str) (pos':List (Str×Str)) (occ':List Str) (rows':List Row):Ev→Prop
 | .set nm=>told=(setF K.R (K.known nm) K.hm pos occ rows nm).1∧pos'=(setF K.R (K.known nm) K.hm pos occ rows nm).2∧occ'=occ∧rows'.map Row.held=rows.map Row.held++(if (setF K.R (K.known nm) K.hm pos occ rows nm).1 = "done" then [⟨nm,(K.R nm).ov,0,0⟩] else [])
 | .cancel nm=>told=(cancelF occ rows nm (K.sg (K.R nm).st)).1∧pos'=pos∧occ'=occ∧rows'=(cancelF occ rows nm (K.sg (K.R nm).st)).2
 | .tick=>told = "done" ∧ pos'=pos∧occ'=occ∧rows'=rows.flatMap tickR
 | .enter s=>told=(enterF K.R secs occ rows s).1∧pos'=pos∧occ'=(enterF K.R secs occ rows s).2.1∧rows'=(enterF K.R secs occ rows s).2.2
 | .leave s=>told=(leaveF K.R secs occ rows s).1∧pos'=pos∧occ'=(leaveF K.R secs occ rows s).2.1∧rows'=(leaveF K.R secs occ rows s).2.2
 | .move p x=>told=(moveF K.R pos occ rows (K.hm p) p x).1∧pos'=(moveF K.R pos occ rows (K.hm p) p x).2∧occ'=occ∧rows'=rows
structure LayOk (lay:Lay) (K:Kn):Prop where
 rts:lay.rts.length≤100
 pts:lay.pts.length≤100
 sigs:lay.sigs.length≤100
 get:∀ nm,dget (rsOf lay.rts []) nm=if K.known nm then some (K.R nm).v else none
 rt:∀ nm,RtOk (K.R nm)
 hm:∀ p,p∈lay.pts.map (·.1)→tget (tfold lay.pts []) p=some (K.hm p)
 sg:∀ nm,K.known nm=true→tget (tfold lay.sigs []) (K.R nm).st=some (K.sg (K.R nm).st)
 nd:∀ nm,∀ q∈(K.R nm).nd,q.1∈lay.pts.map (·.1)
structure StaOk (lay:Lay) (K:Kn) (st:Sta):Prop where
 pos:∀ p,(tget (tfold st.pos []) p).isSome=decide (p∈lay.pts.map (·.1))
 posl:st.pos.length≤90
 occl:st.occ.length≤50
 heldl:st.held.length≤80
 names:(st.held.map Held.nm).Nodup
 known:∀ h∈st.held,K.known h.nm=true
 left:∀ h∈st.held,h.left.length≤100
 e0:∀ h∈st.held,0≤h.e
 sub:∀ h∈st.held,∀ s∈h.left,s∈(K.R h.nm).ov
end Mine
end
noncomputable section
set_option maxRecDepth 100000
namespace Mine
open PySem PySem.SeqAt PyProof.Rows
theorem sof_len (xs:List Str):(sof xs).length≤xs.length:=by
 have:=sfold_len xs []; simpa [sof] using this
theorem tset_len (l:List (Str×Str)) (k v:Str):(tset l k v).length≤l.length + 1:=by
 unfold tset; split <;> simp
theorem tfold_len (ps l:List (Str×Str)):(tfold ps l).length≤l.length + ps.length:=by
 induction ps generalizing l with
 | nil=>simp [tfold]
 | cons p ps ih =>
  have h1:=ih (tset l p.1 p.2)
  have h2:=tset_len l p.1 p.2
  show (tfold ps (tset l p.1 p.2)).length≤_
  rw [List.length_cons,Nat.add_comm ps.length,← Nat.add_assoc]; exact Nat.le_trans h1 (Nat.add_le_add_right h2 _)
section
variable {c:Cx} {n:Nat} {lay:Lay} {K:Kn} {st:Sta}
theorem StaOk.row (S:StaOk lay K st) {rows:List Row} (hrows:rows.map Row.held=st.held) {r:Row} (hr:r∈rows):r.held∈st.held:=by rw [← hrows]; exact List.mem_map_of_mem hr
theorem StaOk.rs (LO:LayOk lay K) (S:StaOk lay K st) {rows:List Row} (hrows:rows.map Row.held=st.held):RsOk K.R (rsOf lay.rts []) rows where
 get:=fun r hr=>by
  have:K.known r.nm=true:=S.known _ (S.row hrows hr)
  rw [LO.get]
  rw [if_pos this]
 nd:=fun r qa=>(LO.rt r.nm).nd
 left:=fun r hr=>S.left _ (S.row hrows hr)
theorem StaOk.nd (S:StaOk lay K st) {rows:List Row} (hrows:rows.map Row.held=st.held):(rows.map Row.nm).Nodup:=by
 have:=S.names
 rw [← hrows,List.map_map] at this
 exact this
theorem StaOk.len (S:StaOk lay K st) {rows:List Row} (hrows:rows.map Row.held=st.held):rows.length≤80:=by
 have:=S.heldl
 rw [← hrows,List.length_map] at this
 exact this
noncomputable def ActPost (K:Kn) (lay:Lay) (st:Sta) (ev:Ev) (X:V):Prop :=
 ∃ (rows:List Row) (told:Str) (pos':List (Str×Str)) (occ':List Str) (rows':List Row) (ss:List Str),rows.map Row.held=st.held∧Trans K lay.secs (tfold st.pos []) (sof st.occ) rows told pos' occ' rows' ev∧ss.Perm occ'∧sortedS ss=true ∧
  X=.tup [(Sta.mk (lay.pts.map fun q=>(q.1,(tget pos' q.1).getD "")) ss (rows'.map Row.held)).v,.str told]
theorem sNewM {A:Around} {env:Env} {ς:List (Str×V)} {x:Str} {p p₁ p₂ p₃ pos spos:Pos} {rest:List Stmt} {k:FV→St→Prop} (G:Core c) (LO:LayOk lay K) (SO:StaOk lay K st) (hR:Rm (n + 3) A) (hkx:env.kindOf x=some .local∨env.kindOf x=some .cell) (hkM:env.kindOf "_M" = some .globalImplicit) (h1:ς.lookup ("layout" : Str)=some lay.v) (h2:ς.lookup ("state" : Str)=some st.v)
  (hr:∀ ad rows,rows.map Row.held=st.held→WSs c A env ⟨setL ς x (.ref ad.x),mhp G.C ad lay.v (rsOf lay.rts []) (tv (tfold st.pos [])) (sof st.occ) rows⟩ rest k)
  (he:starEach [.Name "layout" p₂,.Name "state" p₃] env=(false,eval (.Name "layout" p₂) env)::starEach [.Name "state" p₃] env:=by rfl) (he':starEach [.Name "state" p₃] env=(false,eval (.Name "state" p₃) env)::starEach [] env:=by rfl) (hplain:(backTo pos (starEach [.Name "state" p₃] env)).any (·.1)=false:=by rfl)
  (hs:swapsWith (.Call (.Name "_M" p₁) [.Name "layout" p₂,.Name "state" p₃] [] pos) (some (.Name x p)) spos.line env=pure false:=by rfl) (hsw:swappedStores [.Name x p] (.Call (.Name "_M" p₁) [.Name "layout" p₂,.Name "state" p₃] [] pos) env=pure none:=by rfl) (hte:(assignEach [.Name x p] env).map (·.2)=[assign (.Name x p) env]:=by rfl) :
  WSs c A env ⟨ς,[]⟩ (.Assign [.Name x p] (.Call (.Name "_M" p₁) [.Name "layout" p₂,.Name "state" p₃] [] pos) spos::rest) k:=E51 G.F_init fun qa qb qc qd qe MI=>by
 refine wSs_Set hkx (wE_New G.K G.g_M G.m_init MI hkM ((evs (ev_N h1) (evs (ev_N h2) evs0 he') he).run _ (I22 (n + 2) _ hR (fun x d hx hd hdx=>⟨spec_init (n:=n + 1) G (lay:=lay) (st:=st) SO.names LO.rts (Nat.le_trans SO.posl (by decide)) (Nat.le_trans SO.occl (by decide)) (Nat.le_trans SO.heldl (by decide)) SO.left,?_⟩))) (by decide) he hplain) hs hsw hte
 refine fun Y H'=>R02 fun z0 y0=>E24 y0 fun ad rows z3 z4 hrows z6=>?_; subst z0; subst z3; subst z4; subst z6
 refine ⟨rfl,?_⟩
 rw [List.append_nil]
 exact hr ad rows hrows
theorem setF_pos {R:Str→Rt} {known:Bool} {hm:Str→Str} {pos:List (Str×Str)} {occ:List Str} {rows:List Row} {nm q:Str} (h:(tget pos q).isSome=true):(tget (setF R known hm pos occ rows nm).2 q).isSome=true:=by
 unfold setF
 repeat' split
 all_goals first | exact h | skip
 show (tget (tfold (R nm).nd pos) q).isSome=true
 rw [tget_fold_some,h,Bool.or_true]
theorem cancelF_ok {occ:List Str} {rows:List Row} {nm sg:Str} (h:∀ r∈rows,r.left.length≤100) (hl:rows.length≤100):(cancelF occ rows nm sg).2.length≤100∧∀ r∈(cancelF occ rows nm sg).2,r.left.length≤100:=by
 unfold cancelF
 split
 ·exact ⟨hl,h⟩
 split
 ·exact ⟨hl,h⟩
 split
 ·exact ⟨hl,h⟩
 split
 ·refine ⟨by rw [List.length_map]; exact hl,fun r hr=>?_⟩
  refine E12 (List.mem_map.mp hr) fun q hq z2=>?_; subst z2
  split <;> exact h q hq
 ·exact ⟨Nat.le_trans (List.length_filter_le _ _) hl,fun r hr=>h r (List.mem_filter.mp hr).1⟩
theorem spec_act (G:Core c) {a:Addr} (F:IsFn c a D_act) {ev:Ev} (LO:LayOk lay K) (SO:StaOk lay K st):CallSpec c (n + 4) a [] [lay.v,st.v,ev.v] fun X H'=>H'=[]∧ActPost K lay st ev X:=by
 refine call_def F k_act rfl fun A qual code L hR=>?_
 conv in D_act.body=>whnf
 refine sNewM G LO SO hR (.inl rfl) rfl rfl rfl fun ad rows hrows=>?_
 have hRs:=SO.rs LO hrows
 have hnd:=SO.nd hrows
 have hlen:=SO.len hrows
 have hl100:rows.length≤100:=Nat.le_trans hlen (by decide)
 have hpl:(tfold st.pos []).length≤90:=Nat.le_trans (tfold_len st.pos []) (by rw [List.length_nil,Nat.zero_add]; exact SO.posl)
 have hol:(sof st.occ).length≤50:=Nat.le_trans (sof_len st.occ) SO.occl
 have hpos:=SO.pos
 generalize hP:tfold st.pos []=pos at *
 generalize hO:sof st.occ=occ at *
 have hin:∀ p,p∈lay.pts.map (·.1)→(tget pos p).isSome=true:=fun p hp=>by rw [hpos,decide_eq_true hp]
 have hst:∀ q∈lay.pts,(tget pos q.1).isSome=true:=fun q hq=>hin q.1 (List.mem_map_of_mem hq)
 have ho64:occ.length < 64:=Nat.lt_of_le_of_lt hol (by decide)
 have hleft:∀ r∈rows,r.left.length≤100:=hRs.left
 have out:∀ {l:List (Str×V)} {told:Str} {pos':List (Str×Str)} {occ':List Str} {rows':List Row},l.lookup ("m" : Str)=some (.ref ad.x)→l.lookup ("told" : Str)=some (.str told)→Trans K lay.secs pos occ rows told pos' occ' rows' ev→(∀ q∈lay.pts,(tget pos' q.1).isSome=true)→occ'.length < 64→rows'.length≤100→(∀ r∈rows',r.left.length≤100) →
   WSs c A (envD D_act qual code L a) ⟨l,mhp G.C ad lay.v (rsOf lay.rts []) (tv pos') occ' rows'⟩ (D_act.body.drop 3) (fun f σ=>∃ τ,σ.le τ∧τ.hp=[]∧ActPost K lay st ev (retV f)):=by
  intro l told pos' occ' rows' l1 l2 t1 t2 t3 t4 t5
  conv in List.drop 3 _=>whnf
  refine wSs_Ret (wE_Tuple (wEs_cons (wE_Self0 G.K G.m_out G.F_out tl_out ((ev_N l1).run _ (I35 ad.x ad.dx _ rfl mem_x mem_ns rfl (CRest.all (n:=n + 3) hR (spec_out (n:=n + 2) (pg:=fun p=>(tget pos' p).getD "") G (fun q hq=>?_) LO.pts t4 t3 t5) ?_))))))
  ·obtain ⟨v,hv⟩:=Option.isSome_iff_exists.mp (t2 q hq)
   rw [hv]; rfl
  refine fun Y H'=>R13 fun ss s1 s2 z3=>?_; subst z3
  refine (evs (ev_N l2) evs0).run _ (I02 (sz10 (Nat.le_of_ble_eq_true rfl)) (I13 ⟨[],[]⟩ le_nil rfl (I65 rows told pos' occ' rows' ss hrows ?_ s1 s2 rfl)))
  rw [hP,hO]; exact t1
 cases ev with
 | set nm =>
  refine sSet (.inl rfl) (ev_at rfl rfl) ?_
  refine sTh (tp_eq (ev_N rfl) ev_s) rfl ?_
  refine sSelf (.inl rfl) G.K G.m_set G.F_set tl_set rfl mem_x mem_ns rfl (evs (ev_at rfl rfl) evs0) hR (spec_set (n:=n + 1) (R:=K.R) (known:=K.known nm) (hm:=K.hm) G (LO.get nm) hRs LO.rt LO.pts (Nat.le_trans hlen (by decide)) (Nat.le_trans hpl (by decide)) fun q hq=>⟨hin _ (LO.nd nm q hq),LO.hm _ (LO.nd nm q hq)⟩) ?_
  refine fun Y H'=>R02 fun z0 y0=>E12 y0 fun rows' hr' z3=>?_; subst z0; subst z3
  refine wSs_nil (out rfl rfl (I04 rfl rfl rfl hr') (fun q hq=>setF_pos (hst q hq)) ho64 ?_ fun r hr=>?_)
  ·have e:=congrArg List.length hr'
   rw [List.length_map,List.length_append,List.length_map] at e
   rw [e]
   refine Nat.le_trans (Nat.add_le_add hlen (d:=1) ?_) (Nat.le_of_ble_eq_true rfl)
   split <;> exact Nat.le_of_ble_eq_true rfl
  ·have:r.held∈rows.map Row.held++(if (setF K.R (K.known nm) K.hm pos occ rows nm).1 = "done" then [(⟨nm,(K.R nm).ov,0,0⟩:Held)] else []):=by rw [← hr']; exact List.mem_map_of_mem hr
   rcases List.mem_append.mp this with h | h
   ·refine E12 (List.mem_map.mp h) fun q hq e=>?_
    have e':q.left=r.left:=congrArg Held.left e
    rw [← e']; exact hleft q hq
   ·split at h
    ·have e':r.left=(K.R nm).ov:=congrArg Held.left (List.mem_singleton.mp h)
     rw [e']; exact (LO.rt nm).ov
    ·cases h
 | cancel nm =>
  refine sSet (.inl rfl) (ev_at rfl rfl) ?_
  refine sEl (tp_eq (ev_N rfl) ev_s) (by decide) ?_
  refine sTh (tp_eq (ev_N rfl) ev_s) rfl ?_
  refine sSelf (.inl rfl) G.K G.m_cancel G.F_cancel tl_cancel rfl mem_x mem_ns rfl (evs (ev_at rfl rfl) evs0) hR (spec_cancel (n:=n + 2) (R:=K.R) (sg:=K.sg (K.R nm).st) G hnd hRs (fun q=>E12 q fun r hr z2=>?_) LO.sigs hl100) ?_
  ·exact LO.sg _ (z2▸SO.known _ (SO.row hrows hr))
  refine fun Y H'=>R02 fun z0 z1=>?_; subst z0; subst z1
  have hc:=cancelF_ok (occ:=occ) (nm:=nm) (sg:=K.sg (K.R nm).st) hleft hl100
  exact wSs_nil (wSs_nil (out rfl rfl (I04 rfl rfl rfl rfl) hst ho64 hc.1 hc.2))
 | tick =>
  refine sSet (.inl rfl) (ev_at rfl rfl) ?_
  refine sEl (tp_eq (ev_N rfl) ev_s) (by decide) ?_
  refine sEl (tp_eq (ev_N rfl) ev_s) (by decide) ?_
  refine sTh (tp_eq (ev_N rfl) ev_s) rfl ?_
  refine sSelf0 (.inl rfl) G.K G.m_tick G.F_tick tl_tick rfl mem_x mem_ns rfl hR (spec_tick (n:=n + 2) G hnd hl100) ?_
  refine fun Y H'=>R02 fun z0 z1=>?_; subst z0; subst z1
  refine wSs_nil (wSs_nil (wSs_nil (out rfl rfl (I04 rfl rfl rfl rfl) hst ho64 (Nat.le_trans (flat_len tickR_len rows) hl100) fun r hr=>?_)))
  refine E12 (List.mem_flatMap.mp hr) fun q hq hr=>?_
  unfold tickR at hr
  split at hr
  ·rw [List.mem_singleton.mp hr]; exact hleft q hq
  split at hr
  ·cases hr
  ·rw [List.mem_singleton.mp hr]; exact hleft q hq
 | enter s =>
  refine sSet (.inl rfl) (ev_at rfl rfl) ?_
  refine sEl (tp_eq (ev_N rfl) ev_s) (by decide) ?_
  refine sEl (tp_eq (ev_N rfl) ev_s) (by decide) ?_
  refine sEl (tp_eq (ev_N rfl) ev_s) (by decide) ?_
  refine sTh (tp_eq (ev_N rfl) ev_s) rfl ?_
  refine sSelf (.inl rfl) G.K G.m_enter G.F_enter tl_enter rfl mem_x mem_ns rfl (evs (ev_at rfl rfl) evs0) hR (spec_enter (n:=n + 2) (R:=K.R) G hRs (fun r qa=>(LO.rt r.nm).ov) (fun r hr=>SO.e0 _ (SO.row hrows hr)) (Nat.le_trans hol (by decide))) ?_
  refine fun Y H'=>R02 fun z0 z1=>?_; subst z0; subst z1
  have hc:(enterF K.R lay.secs occ rows s).2.1.length < 64∧(enterF K.R lay.secs occ rows s).2.2.length≤100∧∀ r∈(enterF K.R lay.secs occ rows s).2.2,r.left.length≤100:=by
   unfold enterF
   split
   ·split
    ·exact (I03 ho64 hl100 hleft)
    ·refine (I03 (Nat.lt_of_le_of_lt (Nat.le_trans (sadd_len occ s) (Nat.add_le_add_right hol 1)) (by decide)) (by rw [List.length_map]; exact hl100) (fun r hr=>?_))
     refine E12 (List.mem_map.mp hr) fun q hq z2=>?_; subst z2
     unfold entR
     split <;> exact hleft q hq
   ·exact (I03 ho64 hl100 hleft)
  exact wSs_nil (wSs_nil (wSs_nil (wSs_nil (out rfl rfl (I04 rfl rfl rfl rfl) hst hc.1 hc.2.1 hc.2.2))))
 | leave s =>
  refine sSet (.inl rfl) (ev_at rfl rfl) ?_
  refine sEl (tp_eq (ev_N rfl) ev_s) (by decide) ?_
  refine sEl (tp_eq (ev_N rfl) ev_s) (by decide) ?_
  refine sEl (tp_eq (ev_N rfl) ev_s) (by decide) ?_
  refine sEl (tp_eq (ev_N rfl) ev_s) (by decide) ?_
  refine sTh (tp_eq (ev_N rfl) ev_s) rfl ?_
  refine sSelf (.inl rfl) G.K G.m_leave G.F_leave tl_leave rfl mem_x mem_ns rfl (evs (ev_at rfl rfl) evs0) hR (spec_leave (n:=n + 2) (R:=K.R) G hnd hRs (fun r qa=>(LO.rt r.nm).ov) (fun r hr=>SO.e0 _ (SO.row hrows hr)) (fun r hr l e=>SO.sub _ (SO.row hrows hr) s (by show s∈r.left; rw [e]; exact .head _)) hl100) ?_
  refine fun Y H'=>R02 fun z0 z1=>?_; subst z0; subst z1
  have hc:(leaveF K.R lay.secs occ rows s).2.1.length < 64∧(leaveF K.R lay.secs occ rows s).2.2.length≤100∧∀ r∈(leaveF K.R lay.secs occ rows s).2.2,r.left.length≤100:=by
   unfold leaveF
   split
   ·split
    ·refine (I03 (Nat.lt_of_le_of_lt (List.length_filter_le _ _) ho64) (Nat.le_trans (flat_len (leaveR_len K.R s) rows) hl100) (fun r hr=>?_))
     refine E12 (List.mem_flatMap.mp hr) fun q hq hr=>?_
     unfold leaveR at hr
     have hq':=hleft q hq
     split at hr
     ·rw [List.mem_singleton.mp hr]; exact hq'
     ·rename_i x l hx
      split at hr
      ·split at hr
       ·cases hr
       ·rw [List.mem_singleton.mp hr]; rw [hx] at hq'; exact Nat.le_of_succ_le hq'
      ·rw [List.mem_singleton.mp hr]; exact hq'
    ·exact (I03 ho64 hl100 hleft)
   ·exact (I03 ho64 hl100 hleft)
  exact wSs_nil (wSs_nil (wSs_nil (wSs_nil (wSs_nil (out rfl rfl (I04 rfl rfl rfl rfl) hst hc.1 hc.2.1 hc.2.2)))))
 | move p x =>
  refine sSet (.inl rfl) (ev_at rfl rfl) ?_
  refine sEl (tp_eq (ev_N rfl) ev_s) (by decide) ?_
  refine sEl (tp_eq (ev_N rfl) ev_s) (by decide) ?_
  refine sEl (tp_eq (ev_N rfl) ev_s) (by decide) ?_
  refine sEl (tp_eq (ev_N rfl) ev_s) (by decide) ?_
  refine sEl (tp_eq (ev_N rfl) ev_s) (by decide) ?_
  refine sTh (tp_eq (ev_N rfl) ev_s) rfl ?_
  refine sSelf (.inl rfl) G.K G.m_move G.F_move tl_move rfl mem_x mem_ns rfl (evs (ev_at rfl rfl) (evs (ev_at rfl rfl) evs0)) hR (spec_move (n:=n + 1) (R:=K.R) (hm:=K.hm p) G (fun h=>LO.hm p (by rw [hpos] at h; exact of_decide_eq_true h)) LO.pts (Nat.le_trans hpl (by decide)) hRs) ?_
  refine fun Y H'=>R02 fun z0 z1=>?_; subst z0; subst z1
  refine wSs_nil (wSs_nil (wSs_nil (wSs_nil (wSs_nil (wSs_nil (out rfl rfl (I04 rfl rfl rfl rfl) (fun q hq=>?_) ho64 hl100 hleft))))))
  unfold moveF
  split
  ·split
   ·exact hst q hq
   ·show (tget (tset pos p x) q.1).isSome=true
    rw [tget_set]
    split
    ·rfl
    ·exact hst q hq
  ·exact hst q hq
end
end Mine
end
noncomputable section
set_option maxRecDepth 100000
namespace Mine
open PySem PySem.SeqAt PyProof.Rows
theorem k_aspects:DefK D_aspects ["layout","state"] D_aspects.body:=mkK rfl (by
 intro nm qual pm code doc vs h
 refine E21 (list2 h) fun x y z2=>?_; subst z2; rfl)
section
variable {c:Cx} {A:Around} {env:Env} {σ:St}
theorem wS_ReturnF {e:Expr} {pos:Pos} {k:FV→St→Prop} (h:WE c A env σ e fun X σ₁=>∃ a o Y,X=.ref a∧(a,o)∈σ₁.hp∧O.frz o=some Y∧k (.ret Y) ⟨[],[]⟩):WS c A env σ (.Return (some e) pos) k:=by
 refine WP.mk fun hA Z P s R=>?_
 refine wpAny_Return_some (wpAny_mono (h.run hA Z P s R) ?_ fun qa qb x=>x)
 refine fun v s₁=>R34 fun Z₁ X σ₁ S₁ R₁ r₁ y0=>E34 y0 fun a o Y z13 ha hY k₁=>?_; subst z13
 cases r₁
 have hD:=R₁.hp.obj a o ha
 have R2:Rel c Z₁ P env ⟨[],[]⟩ s₁.heap:=R₁.le (I03 (fun x X e=>by simp at e) (fun b ob hb=>(by cases hb)) (fun qa=>by simp))
 have R3:=R2.freeze (N:=fun b=>b=a) (by rintro b rfl; exact (I04 (hD.1.some) (hD.2.2) (R₁.hpOff _ o ha) (fun o ho=>by cases ho)))
 exact (I34 _ _ _ (S₁.trans (Step.freeze (P:=P))) R3 (.ret (hD.1.frz hY)) k₁)
end
noncomputable def goStep (K:Kn) (pos:List (Str×Str)) (occ:List Str) (acc:List (Str×Rt)) (h:Held):List (Str×Rt) :=
 if h.e≠0∨h.w≠0 then acc else if (K.R h.nm).ov.any (fun s=>decide (s∈occ)) then acc
 else if ((K.R h.nm).nd.all fun q=>decide (tget pos q.1=some q.2))&&!decide ((K.R h.nm).st∈acc.map (·.1)) then acc++[((K.R h.nm).st,K.R h.nm)] else acc
noncomputable def goV (acc:List (Str×Rt)):List (Str×V):=acc.map fun g=>(g.1,g.2.v)
noncomputable def goGet (acc:List (Str×Rt)) (k:Str):Option Rt:=(acc.find? fun g=>decide (g.1=k)).map (·.2)
noncomputable def aspOf (acc:List (Str×Rt)) (g:Str):Str :=
 match goGet acc g with
 | none => "stop"
 | some r=>if r.via∈acc.map (·.1) then "clear" else "caution"
theorem goV_get (acc:List (Str×Rt)) (k:Str):dget (goV acc) k=(goGet acc k).map Rt.v:=by
 unfold dget goGet goV
 rw [List.find?_map]
 simp only [Option.map_map]
 rfl
theorem goV_some (acc:List (Str×Rt)) (k:Str):(dget (goV acc) k).isSome=decide (k∈acc.map (·.1)):=by
 rw [goV_get,Option.isSome_map]
 unfold goGet
 rw [Option.isSome_map]
 rw [Bool.eq_iff_iff,List.find?_isSome,decide_eq_true_eq,List.mem_map]
 constructor
 ·refine R12 fun g h1 h2=>?_; exact (I12 g h1 (by simpa using h2))
 ·refine R12 fun g h1 h2=>?_; exact (I12 g h1 (by simpa using h2))
section
variable {c:Cx} {n:Nat} {lay:Lay} {K:Kn} {st:Sta}
noncomputable def GoK (C:Addr) (ad:Ad) (lay:V) (rs pos:List (Str×V)) (occ:List Str) (rows:List Row) (gd:Addr) (acc:List (Str×Rt)) (f:FV) (σ:St):Prop :=
 (f=.next∨f=.cont)∧σ.le ⟨[("layout", lay),("m", .ref ad.x),("go", .ref gd)],(gd,.dct (goV acc))::mhpF C ad lay rs pos occ rows⟩
theorem goStep_len {K:Kn} {pos:List (Str×Str)} {occ:List Str}:∀ (l:List Held) (acc:List (Str×Rt)),(l.foldl (goStep K pos occ) acc).length≤acc.length + l.length
 | [],acc=>Nat.le_refl _
 | h::l,acc=>by
  have h2:(goStep K pos occ acc h).length≤acc.length + 1:=by
   unfold goStep
   split
   ·exact Nat.le_succ _
   split
   ·exact Nat.le_succ _
   split
   ·rw [List.length_append]; exact Nat.le_refl _
   ·exact Nat.le_succ _
  refine Nat.le_trans (goStep_len l (goStep K pos occ acc h)) ?_
  rw [List.length_cons,Nat.add_comm l.length,← Nat.add_assoc]; exact Nat.add_le_add_right h2 _
noncomputable def aspR (acc:List (Str×Rt)):Option Rt→Str
 | none => ""
 | some r=>if r.via∈acc.map (·.1) then "clear" else "caution"
theorem asp_eq {acc:List (Str×Rt)} {g:Str}:aspOf acc g=if g∉acc.map (·.1) then ("stop" : Str) else aspR acc (goGet acc g):=by
 unfold aspOf
 have:=goV_some acc g
 rw [goV_get,Option.isSome_map] at this
 cases hg:goGet acc g with
 | none=>rw [hg] at this; rw [if_pos (of_decide_eq_false this.symm)]
 | some r=>rw [hg] at this; rw [if_neg (fun z=>z (of_decide_eq_true this.symm))]; rfl
theorem spec_aspects (G:Core c) {a:Addr} (F:IsFn c a D_aspects) (LO:LayOk lay K) (SO:StaOk lay K st) :
  CallSpec c (n + 4) a [] [lay.v,st.v] fun X H'=>H'=[]∧X=.lst (prs (lay.sigs.map fun q=>(q.1,aspOf (st.held.foldl (goStep K (tfold st.pos []) (sof st.occ)) []) q.1))):=by
 refine call_def F k_aspects rfl fun A qual code L hR=>?_
 conv in D_aspects.body=>whnf
 refine sNewM G LO SO hR (.inl rfl) rfl rfl rfl fun ad rows hrows=>?_
 have hRs:=SO.rs LO hrows
 have hlen:=SO.len hrows
 have hpos:=SO.pos
 rw [← hrows]
 generalize hP:tfold st.pos []=pos at *
 generalize hO:sof st.occ=occ at *
 refine freezeM ?_
 refine wSs_cons (wS_Assign (wE_Dict0 fun gd hgd=>wA_Name (.inl rfl) ?_))
 have hm1:∀ {g:List (Str×V)},(ad.x,O.inst G.C ad.dx)∈(gd,O.dct g)::mhpF G.C ad lay.v (rsOf lay.rts []) (tv pos) occ rows:=.tail _ (.head _)
 have hm2:∀ {g:List (Str×V)},(ad.dx,O.ns (setL (nsM ad lay.v) "held" (.dct (rowsEs rows))))∈(gd,O.dct g)::mhpF G.C ad lay.v (rsOf lay.rts []) (tv pos) occ rows:=.tail _ (.tail _ (.head _))
 have hm3:∀ {g:List (Str×V)},(ad.rd,O.dct (rsOf lay.rts []))∈(gd,O.dct g)::mhpF G.C ad lay.v (rsOf lay.rts []) (tv pos) occ rows:=.tail _ (.tail _ (.tail _ (.head _)))
 have hm4:∀ {g:List (Str×V)},(ad.pd,O.dct (tv pos))∈(gd,O.dct g)::mhpF G.C ad lay.v (rsOf lay.rts []) (tv pos) occ rows:=.tail _ (.tail _ (.tail _ (.tail _ (.head _))))
 have hm5:∀ {g:List (Str×V)},(ad.od,O.set occ)∈(gd,O.dct g)::mhpF G.C ad lay.v (rsOf lay.rts []) (tv pos) occ rows:=.tail _ (.tail _ (.tail _ (.tail _ (.tail _ (.head _)))))
 have hm6:∀ {g:List (Str×V)} {e},e∈rowsHp rows→e∈(gd,O.dct g)::mhpF G.C ad lay.v (rsOf lay.rts []) (tv pos) occ rows:=fun h=>.tail _ (.tail _ (.tail _ (.tail _ (.tail _ (.tail _ h)))))
 refine sFold (ls:=rows) (f:=fun r:Row=>V.tup [.str r.nm,.ref r.a]) (ς:=[("layout", lay.v),("m", .ref ad.x),("go", .ref gd)]) (S:=fun dn qa=>(gd,.dct (goV ((dn.map Row.held).foldl (goStep K pos occ) [])))::mhpF G.C ad lay.v (rsOf lay.rts []) (tv pos) occ rows) (ev_itemsF rfl (ev_SA G.K G.n_held tl_held rfl hm1 hm2 rfl)) seq_view (rowsV_eq rows) (le_loc (I04 rfl rfl rfl trivial)) (fun dn r td hdn k' hk=>?_) ?_
 ·have hr:r∈rows:=by rw [← hdn]; exact List.mem_append_right _ (.head _)
  have hacl:((dn.map Row.held).foldl (goStep K pos occ) []).length≤80:=by
   refine Nat.le_trans (goStep_len _ _) ?_
   rw [List.length_nil,Nat.zero_add,List.length_map]
   exact Nat.le_trans (by rw [← hdn,List.length_append]; exact Nat.le_add_right _ _) hlen
  have fold1:((dn++[r]).map Row.held).foldl (goStep K pos occ) []=goStep K pos occ ((dn.map Row.held).foldl (goStep K pos occ) []) r.held:=by rw [List.map_append,List.foldl_append]; rfl
  rw [fold1] at hk
  generalize hacc:(dn.map Row.held).foldl (goStep K pos occ) []=acc at *
  refine (av2 (.inl rfl) (.inl rfl)).run _ (WP.imp (k:=GoK G.C ad lay.v (rsOf lay.rts []) (tv pos) occ rows gd (goStep K pos occ acc r.held)) ?_ fun f σ=>R02 fun z h=>z.elim (fun z=>z▸(hk σ h).1) fun z=>z▸(hk σ h).2)
  unfold goStep
  have hov:=(LO.rt r.nm).ov
  refine sSet (.inl rfl) (ev_Sub (ev_SA G.K G.n_r tl_r rfl hm1 hm2 rfl) (ev_N rfl) (item_odct hm3 (hRs.get r hr))) ?_
  refine sIfB (K:=GoK G.C ad lay.v (rsOf lay.rts []) (tv pos) occ rows gd) (tp_O2 (tp_int (ev_own (ev_N rfl) (hm6 (mem_rowA hr)) rfl)) fun qa=>tp_int (ev_own (ev_N rfl) (hm6 (mem_rowA hr)) rfl)) (fun qa=>wSs_cons (wS_Continue ⟨.inr rfl,le_loc (I04 rfl rfl rfl trivial)⟩)) fun qa=>?_
  refine sIfB (K:=GoK G.C ad lay.v (rsOf lay.rts []) (tv pos) occ rows gd) (tp_iff (tp_bool (ev_Self G.K G.m_busy G.F_busy tl_busy rfl hm1 hm2 rfl (evs (ev_CallB G.b_set rfl (.type _) rfl (evs (ev_at rfl rfl) evs0) ((f_set_lst (Nat.lt_of_le_of_lt (Nat.add_le_add_right hov 1) (by decide))).frz rfl)) evs0) hR (spec_busyG (n:=n + 2) G hm1 hm2 rfl hm5))) (by rw [any_sof]; exact Iff.rfl)) (fun qa=>wSs_cons (wS_Continue ⟨.inr rfl,le_loc (I04 rfl rfl rfl trivial)⟩)) fun qa=>?_
  refine sSet (.inl rfl) ev_b ?_
  have hpv:∀ q∈(K.R r.nm).nd,∃ v,tget pos q.1=some v:=fun q hq=>Option.isSome_iff_exists.mp (by rw [hpos,decide_eq_true_eq]; exact LO.nd r.nm q hq)
  refine sForBrk (ls:=(K.R r.nm).nd) (f:=fun q:Str×Str=>V.tup [.str q.1,.str q.2]) (P:=fun q=>¬ tget pos q.1=some q.2) (ev_at rfl rfl) (prs_map _) (fun q hq=>I03 (av2 (.inl rfl) (.inl rfl)) ?_ (ll2 rfl rfl)) (.inl rfl) (fun h q hq=>?_) fun h=>?_
  ·obtain ⟨v,hv⟩:=hpv q hq
   exact tp_iff (tp_ne (ev_Sub (ev_SA G.K G.n_pos tl_pos rfl hm1 hm2 rfl) (ev_N rfl) (item_odct hm4 (by rw [tv_get,hv]; rfl))) (ev_N rfl)) (by rw [hv,Option.some.injEq])
  ·have e:((K.R r.held.nm).nd.all fun q=>decide (tget pos q.1=some q.2))=false:=List.all_eq_false.mpr (E12 h fun q h1 h2=>⟨q,h1,fun z=>h2 (of_decide_eq_true z)⟩)
   rw [e]
   exact sIfF (tp_A2 (Q:=False) (tp_bool (ev_N rfl)) fun z=>nomatch z) (fun z=>z.2) (wSs_nil ⟨.inl rfl,le_loc (I04 rfl rfl rfl trivial)⟩)
  ·have e:((K.R r.held.nm).nd.all fun q=>decide (tget pos q.1=some q.2))=true:=List.all_eq_true.mpr fun q hq=>decide_eq_true (Decidable.of_not_not (h q hq))
   rw [e]
   refine sIfB (K:=GoK G.C ad lay.v (rsOf lay.rts []) (tv pos) occ rows gd) (tp_iff (tp_A2 (tp_bool (ev_N rfl)) fun qa=>tp_niD (ev_at rfl rfl) (ev_N rfl) (.head _)) ?_) (fun q=>?_) fun qa=>wSs_nil ⟨.inl rfl,le_loc (I04 rfl rfl rfl trivial)⟩
   ·rw [goV_some,Bool.true_and,Bool.not_eq_true',decide_eq_true_eq,decide_eq_false_iff_not]
    exact ⟨fun z=>z.2,fun z=>⟨rfl,z⟩⟩
   ·refine sSub (ev_N rfl) (ev_N rfl) (ev_at rfl rfl) (.head _) (set_odct (.head _) (by rw [goV,List.length_map]; exact sz100 (Nat.le_trans hacl (by decide)))) ?_
    refine WSs.hs (pre:=[]) ?_
    have hn:dget (goV acc) (K.R r.nm).st=none:=by
     have:=goV_some acc (K.R r.nm).st
     rw [Bool.true_and,Bool.not_eq_true'] at q
     exact Option.not_isSome_iff_eq_none.mp (by rw [this]; exact Bool.eq_false_iff.mp q)
    rw [dset_new hn]
    have e3:goV acc++[((K.R r.nm).st,(K.R r.nm).v)]=goV (acc++[((K.R r.nm).st,K.R r.nm)]):=by rw [goV,goV,List.map_append]; rfl
    rw [e3]
    exact wSs_nil (wSs_nil ⟨.inl rfl,le_loc (I04 rfl rfl rfl trivial)⟩)
 ·generalize (rows.map Row.held).foldl (goStep K pos occ) []=acc at *
  refine wSs_cons (wS_Assign (wE_ListO (wEs_nil ⟨Nat.zero_le _,fun oa hoa=>wA_Name (.inl rfl) ?_⟩)))
  refine sFold (ls:=lay.sigs) (f:=fun q:Str×Str=>V.tup [.str q.1,.str q.2]) (ς:=[("go", .ref gd),("out", .ref oa)]) (S:=fun dn qa=>(oa,.lst (prs (dn.map fun q=>(q.1,aspOf acc q.1))))::(gd,.dct (goV acc))::mhpF G.C ad lay.v (rsOf lay.rts []) (tv pos) occ rows) (ev_at rfl rfl) seq_lst (prs_map _) (le_loc (I03 rfl rfl trivial)) (fun dn g td hdn k' hk=>?_) ?_
  ·have hdl:(prs (dn.map fun q=>(q.1,aspOf acc q.1))).length≤sizeLine:=by
    rw [prs_len,List.length_map]
    exact sz100 (Nat.le_trans (by rw [← hdn,List.length_append]; exact Nat.le_add_right _ _) LO.sigs)
   have e1:prs ((dn++[g]).map fun q=>(q.1,aspOf acc q.1))=prs (dn.map fun q=>(q.1,aspOf acc q.1))++[.tup [.str g.1,.str (aspOf acc g.1)]]:=by
    rw [prs_map,prs_map,List.map_append,List.map_append]; rfl
   rw [e1] at hk
   refine (av2 (.inl rfl) (.inl rfl)).run _ ?_
   rw [asp_eq] at hk
   by_cases hg:g.1∈acc.map (·.1)
   ·rw [if_neg (fun z=>z hg)] at hk
    have hs:=goV_some acc g.1
    rw [decide_eq_true hg] at hs
    refine sEl (tp_niD (ev_N rfl) (ev_N rfl) (.tail _ (.head _))) (fun z=>z hs) ?_
    rw [goV_get,Option.isSome_map] at hs
    obtain ⟨rt,hrt⟩:=Option.isSome_iff_exists.mp hs
    rw [hrt] at hk
    refine sIf (tp_iff (tp_inD (ev_T (ev_Sub (Z:=rt.v) (ev_N rfl) (ev_N rfl) (item_odct (.tail _ (.head _)) (by rw [goV_get,hrt]; rfl))) rfl) (ev_N rfl) (.tail _ (.head _))) (by rw [goV_some,decide_eq_true_eq])) (fun z=>?_) fun z=>?_
    ·rw [show aspR acc (some rt) = "clear" from if_pos z] at hk
     refine sMeth meth_append (ev_N rfl) (vt_olst (.head _)) (evs (ev_NS rfl) evs0) (.head _) (u_append (.head _) hdl) (WSs.hs (pre:=[]) ?_)
     exact wSs_nil (wSs_nil (wSs_nil (hk _ (le_loc (I03 rfl rfl trivial))).1))
    ·rw [show aspR acc (some rt) = "caution" from if_neg z] at hk
     refine sMeth meth_append (ev_N rfl) (vt_olst (.head _)) (evs (ev_NS rfl) evs0) (.head _) (u_append (.head _) hdl) (WSs.hs (pre:=[]) ?_)
     exact wSs_nil (wSs_nil (wSs_nil (hk _ (le_loc (I03 rfl rfl trivial))).1))
   ·rw [if_pos hg] at hk
    have hs:=goV_some acc g.1
    rw [decide_eq_false hg] at hs
    refine sTh (tp_niD (ev_N rfl) (ev_N rfl) (.tail _ (.head _))) (by rw [hs]; exact fun z=>nomatch z) ?_
    refine sMeth meth_append (ev_N rfl) (vt_olst (.head _)) (evs (ev_NS rfl) evs0) (.head _) (u_append (.head _) hdl) (WSs.hs (pre:=[]) ?_)
    exact wSs_nil (wSs_nil (hk _ (le_loc (I03 rfl rfl trivial))).1)
  ·exact wSs_cons (wS_ReturnF ((ev_N rfl).run _ (I34 oa _ _ rfl (.head _) rfl (I13 ⟨[],[]⟩ le_nil rfl rfl))))
end
end Mine
end
noncomputable section
namespace Mine
open PySem PySem.SeqAt PyProof.Rows
theorem RdL.reverse {c Z h xs vs} (r:RdL c Z h xs vs):RdL c Z h xs.reverse vs.reverse:=r.ind (M:=fun xs vs=>RdL c Z h xs.reverse vs.reverse) .nil fun a qa ih=>by
 rw [List.reverse_cons,List.reverse_cons]; exact ih.append (.cons a .nil)
section
variable {c:Cx} {A:Around} {env:Env} {σ:St}
theorem wS_While {test:Expr} {body:List Stmt} {pos:Pos} {k:FV→St→Prop} (J:Nat→St→Prop) {n:Nat} {σ₀:St} (hle:σ.le σ₀) (h0:J n σ₀)
  (turn:∀ n τ,J n τ→WT c A env τ test fun b τ₁=>if b then WSs c A env τ₁ body (TurnK (fun τ₂=>∃ m,m < n∧J m τ₂) k) else k .next τ₁):WS c A env σ (.While test body [] pos) k:=by
 refine WP.mk fun hA Z P s R=>?_
 refine wpAny_While ?_
 refine codeAny_whileLoop (prog:=c.prog) (fun n s'=>∃ Z' τ,Step Z P (cr s) Z' (cr s')∧Rel c Z' P env τ s'.heap∧J n τ) ?_ n ⟨Z,σ₀,Step.refl ..,R.le hle,h0⟩
 intro n s₁ hI
 refine E23 hI fun Z₁ τ S₁ R₁ j₁=>?_; clear hI
 refine wp_thenB (turn n τ j₁) hA R₁ fun Z₂ s₂ b τ₂ S₂ R₂ k₂=>?_
 cases b with
 | false=>exact wpAny_pure (fin_mk (S₁.trans S₂) R₂ .next k₂)
 | true =>
  refine wpAny_mono (k₂.run hA Z₂ P _ R₂) ?_ fun qa qb x=>x.elim
  refine fun f s₃=>R34 fun Z₃ fv τ₃ S₃ R₃ rf k₃=>?_
  cases rf with
  | next=>exact E12 k₃ fun τ' hle hm=>E12 hm fun m hm hj=>⟨m,hm,Z₃,τ',(S₁.trans S₂).trans S₃,R₃.le hle,hj⟩
  | cont=>exact E12 k₃ fun τ' hle hm=>E12 hm fun m hm hj=>⟨m,hm,Z₃,τ',(S₁.trans S₂).trans S₃,R₃.le hle,hj⟩
  | brk=>exact fin_mk ((S₁.trans S₂).trans S₃) R₃ .next k₃
  | ret r=>exact fin_mk ((S₁.trans S₂).trans S₃) R₃ (.ret r) k₃
theorem wS_AugAssign_Name {x:Str} {npos pos:Pos} {op:Operator} {value:Expr} {X:V} {k:FV→St→Prop} (hx:σ.loc.lookup x=some X)
  (h:WE c A env σ value fun Y σ₁=>∃ w,(AOk A→∀ Z P s x y,HpR c Z P s.heap σ₁.hp→Rd c Z s.heap X x→Rd c Z s.heap Y y→Res c A Z s (inplaceOp op x y) w)∧k .next (σ₁.set x w)) (hk:env.kindOf x=some .local∨env.kindOf x=some .cell)
  (hn:(x == ("__classdict__" : Str))=false:=by decide):WS c A env σ (.AugAssign (.Name x npos) op value pos) k:=by
 refine WP.mk fun hA Z P s R=>?_
 show wpAny _ _ (do
  standAt npos
  let old ← loadName env x
  let v ← holding [old] (eval value env)
  standAt pos
  let new ← operate [old,v] (inplaceOp op old v)
  standAt npos
  bindName env x new
  pure Flow.next) _ _ s
 refine E12 (R.vars x X hx) fun v hv r=>?_
 refine wpAny_bind (wpAny_standAt (wpAny_bind ?_))
 have main:wpAny c.M A (do
   let u ← holding [v] (eval value env)
   standAt pos
   let new ← operate [v,u] (inplaceOp op v u)
   standAt npos
   bindName env x new
   pure Flow.next) (Fin c P env (RF c) k Z s) (fun qa qb=>False) s:=by
  refine wpAny_bind (wpAny_holding (wp_then h hA R fun Z₁ s₁ Y σ₁ u S₁ R₁ r₁ kk=>?_))
  refine E12 kk fun w hw k₁=>?_; clear kk
  refine wpAny_bind (wpAny_standAt (wpAny_bind (wpAny_operateT (hw hA Z₁ P s₁ v u R₁.hp (r.step S₁) r₁ _ _ fun z h' tk dr N hkp hN rd=>?_))))
  refine wpAny_bind (wpAny_standAt ?_)
  have R':=R₁.new hkp hN
  have hS:=S₁.trans (Step.new (P:=P) hkp N)
  refine wpAny_bind (wpAny_bindName (store_var (s:={ s₁ with heap:=h',toks:=tk,drawn:=dr }) R' hk rd fun h₂ tk₂ S₂ R₂=>?_))
  exact wpAny_pure (fin_mk (hS.trans S₂) R₂ .next k₁)
 rcases hv with ⟨k1,m,hm,hm1⟩ | ⟨k1 | k1,cl,h1,h2⟩
 ·exact wpAny_loadName_local R.fn k1 hm hm1 main
 ·exact wpAny_loadName_cell R.fn k1 h1 h2 main
 ·exact wpAny_loadName_free R.fn k1 h1 h2 main hn
theorem wE_Compare {l r:Expr} {op:CmpOp} {pos:Pos} {k:V→St→Prop} (h:WE c A env σ l fun X σ₁=>WE c A env σ₁ r fun Y σ₂=>∃ b,CmpV c A σ₂.hp op X Y b∧k (.bool b) σ₂)
  (hm:behindInMarks op r=false:=by rfl):WE c A env σ (.Compare l [op] [r] pos) k:=by
 refine WP.mk fun hA Z P s R=>?_
 rw [arm_eval_Compare]
 have e1:markedEach [op] [r] (evalEach [r] env)=[eval r env]:=by
  show [markedBehindIn op r (eval r env)]=_
  unfold markedBehindIn; rw [hm]
 rw [e1]
 refine wpAny_bind (wp_then h hA R fun Z₁ s₁ X σ₁ v₁ S₁ R₁ r₁ k₁=>?_)
 show wpAny _ A (do
  let rv ← holding [v₁] (eval r env)
  standAt pos
  operate [v₁,rv] (compareOp op v₁ rv)) _ _ s₁
 refine wpAny_bind (wpAny_holding (wp_then k₁ hA R₁ fun Z₂ s₂ Y σ₂ v₂ S₂ R₂ r₂ kk=>?_))
 refine E12 kk fun b hb k₂=>?_; clear kk
 refine wpAny_bind (wpAny_standAt (wpAny_operateT ?_))
 exact hb hA Z₂ P s₂ v₁ v₂ R₂.hp (r₁.step S₂) r₂ _ _ fun tk=>(fin_mk (S₁.trans S₂) R₂ (.bool _) k₂)
noncomputable def WNs (c:Cx) (A:Around) (env:Env) (σ:St) (ns:List Str) (Xs:List V) (k:St→Prop):Prop :=
 AOk A→∀ Z P s vs,Rel c Z P env σ s.heap→RdL c Z s.heap Xs vs→wpAny c.M A (assignInOrder (ns.map fun n=>bindName env n) vs) (Fin c P env RU (fun qa=>k) Z s) (fun qa qb=>False) s
theorem wNs_nil {k:St→Prop} (h:k σ):WNs c A env σ [] [] k:=by
 intro hA Z P s vs R r
 cases r
 exact wpAny_pure (fin_mk (b:=()) (Step.refl ..) R trivial h)
theorem wNs_cons {x:Str} {ns:List Str} {X:V} {Xs:List V} {k:St→Prop} (hk:env.kindOf x=some .local∨env.kindOf x=some .cell) (h:WNs c A env (σ.set x X) ns Xs k):WNs c A env σ (x::ns) (X::Xs) k:=by
 intro hA Z P s vs R r
 cases r with | cons r1 r2 =>
 show wpAny _ _ (do holding _ (bindName env x _); assignInOrder _ _) _ _ s
 refine wpAny_bind (wpAny_holding (wpAny_bindName (store_var R hk r1 fun h₁ tk₁ S₁ R₁=>?_)))
 exact wpAny_mono (h hA Z P _ _ R₁ (r2.step S₁)) (fun qa qb f=>Fin.after S₁ f) fun qa qb x=>x
theorem wS_Swap {ts:List Expr} {value:Expr} {n:Nat} {tp pos:Pos} {names:List Str} {k:FV→St→Prop}
  (h:WE c A env σ value fun X σ₁=>∃ Xs,X=.tup Xs∧names.length=Xs.length∧WNs c A env σ₁ names.reverse Xs.reverse fun σ₂=>k .next σ₂)
  (hs:swapsWith value (some (.Tuple ts n tp)) pos.line env=pure false:=by rfl) (hsw:swappedStores [.Tuple ts n tp] value env=pure (some names):=by rfl):WS c A env σ (.Assign [.Tuple ts n tp] value pos) k:=by
 refine WP.mk fun hA Z P s R=>?_
 show wpAny _ _ (exec _ _) _ _ _
 rw [exec_Assign_arm]
 refine wpAny_bind (wpAny_standAt ?_)
 have hs':swapsWithSole [.Tuple ts n tp] value pos.line env=pure false:=hs
 rw [hs']
 refine wpAny_bind (wpAny_pure ?_)
 rw [if_neg (by decide)]
 refine wpAny_bind (wp_then h hA R fun Z₁ s₁ X σ₁ v S₁ R₁ r₁ kk=>?_)
 refine E13 kk fun Xs z0 hl k₁=>?_; clear kk; subst z0
 rw [hsw]
 refine wpAny_bind (wpAny_pure ?_)
 refine Rd.tup_elim r₁ fun a items z ht rs=>?_
 have hlen:items.size=names.length:=by rw [hl,rs.length,Array.length_toList]
 show wpAny _ _ (do rule "assign.swapped-stores"; let items ← unpackItems (.ref a) names.length none; assignInOrder (names.reverse.map fun n=>bindName env n) items.reverse; pure Flow.next) _ _ _
 rw [← hlen]
 refine wpAny_bind (wpAny_rule (wpAny_bind (wpAny_unpackItems_tuple hA.handled ht.isTuple fun h' he'=>?_)))
 have hk:Kp s₁.heap h':=fun b o e=>he' b o (Nat.ne_of_lt (Heap.lt_size e)) e
 have h2:=k₁ hA Z₁ P { s₁ with heap:=h' } items.toList.reverse (R₁.kp hk) (rs.kp hk).reverse
 refine wpAny_bind (wpAny_mono h2 ?_ fun qa qb x=>x.elim)
 refine fun qa s₂=>R34 fun Z₂ b σ₂ S₂ R₂ qa k₂=>?_
 exact wpAny_pure (fin_mk (S₁.trans ((Step.kp hk).trans S₂)) R₂ .next k₂)
theorem WP.freezeL {α β:Type} {t:Sem α} {Rr:(Addr→Prop)→Heap→β→α→Prop} {k:β→St→Prop} {d:Addr} {o:O} {X:V} {τ:St} (hd:(d,o)∈σ.hp) (hX:o.frz=some X) (hloc:∀ y Y,τ.loc.lookup y=some Y→σ.loc.lookup y=some Y∨(Y=X∧σ.loc.lookup y=some (.ref d)))
  (hhp:∀ b ob,(b,ob)∈τ.hp→(b,ob)∈σ.hp) (hnd:(σ.hp.map (·.1)).Nodup→(τ.hp.map (·.1)).Nodup∧∀ ob,(d,ob)∉τ.hp) (h:WP c A env τ t Rr k):WP c A env σ t Rr k:=by
 refine WP.mk fun hA Z P s R=>?_
 refine E02 (hnd R.hp.nodup) fun n1 n2=>?_
 have hD:=R.hp.obj d o hd
 have R1:Rel c Z P env ⟨σ.loc,[]⟩ s.heap:=R.le (I03 (fun x X e=>e) (fun b ob hb=>(by cases hb)) (fun qa=>by simp))
 have R2:=R1.freeze (N:=fun b=>b=d) (fun b hb=>by subst hb; exact (I04 (hD.1.some) (hD.2.2) (R.hpOff _ o hd) (fun o ho=>by cases ho)))
 have rX:Rd c (fun b=>Z b∨b=d) s.heap X (.ref d):=hD.1.frz hX
 have R3:Rel c (fun b=>Z b∨b=d) P env τ s.heap:={ R2 with
  vars:=fun x Y e=>(hloc x Y e).elim (fun q=>R2.vars x Y q) fun q=>E02 q fun q1 q2=>E12 (R2.vars x _ q2) fun v hv rv=>by
   cases rv
   rw [q1]
   exact I12 _ hv rX
  hp:=⟨fun b ob hb=>by
   have hbd:b≠d:=fun e=>n2 ob (e▸hb)
   have:=R.hp.obj b ob (hhp b ob hb)
   exact (I03 (this.1.keep (fun qa z=>.inl z) (fun qa qb qc e=>e) (fun qa e=>e)) (fun z=>z.elim this.2.1 hbd) (this.2.2)),n1⟩
  hpOff:=fun b ob hb=>R.hpOff b ob (hhp b ob hb) }
 exact wpAny_mono (h.run hA _ P s R3) (fun qa qb f=>Fin.after (Step.freeze (P:=P)) f) fun qa qb x=>x
end
section
variable {c:Cx} {A:Around} {env:Env} {ς:List (Str×V)} {η:List (Addr×O)} {p p₁ p₂ p₃ pos spos:Pos} {n:Nat} {X Y Z W R:V} {Xs:List V} {e l r t:Expr} {es:List Expr} {P Q:Prop} {x y:Str} {rest:List Stmt}
theorem sFrz {k:FV→St→Prop} {d:Addr} {o:O} {pre post:List (Addr×O)} (hx:ς.lookup x=some (.ref d)) (hX:o.frz=some X) (h:WSs c A env ⟨setL ς x X,pre++post⟩ rest k):WSs c A env ⟨ς,pre++(d,o)::post⟩ rest k :=
 WP.freezeL (d:=d) (o:=o) (X:=X) (τ:=⟨setL ς x X,pre++post⟩) (List.mem_append_right _ (.head _)) hX (fun y Y e=>by
   have e':(setL ς x X).lookup y=some Y:=e
   rw [lookup_setL] at e'
   by_cases q:y=x
   ·rw [if_pos q] at e'; cases e'; exact .inr ⟨rfl,q▸hx⟩
   ·rw [if_neg q] at e'; exact .inl e')
  (fun b ob hb=>(List.mem_append.mp hb).elim (fun z=>List.mem_append_left _ z) fun z=>List.mem_append_right _ (.tail _ z))
  (fun hnd=>by
   have hnd':((pre++(d,o)::post).map (·.1)).Nodup:=hnd
   rw [List.map_append,List.map_cons,List.nodup_append,List.nodup_cons] at hnd'
   show ((pre++post).map (·.1)).Nodup∧∀ ob,(d,ob)∉pre++post
   rw [List.map_append,List.nodup_append]
   refine ⟨⟨hnd'.1,hnd'.2.1.2,fun a ha b hb=>hnd'.2.2 a ha b (.tail _ hb)⟩,fun ob hob=>?_⟩
   rcases List.mem_append.mp hob with z | z
   ·exact hnd'.2.2 d (List.mem_map_of_mem (f:=(·.1)) z) d (.head _) rfl
   ·exact hnd'.2.1.1 (List.mem_map_of_mem (f:=(·.1)) z)) h
theorem sSwap3 {k:FV→St→Prop} {m:Nat} {z:Str} {e₁ e₂ e₃:Expr} {pz:Pos} (hx:env.kindOf x=some .local) (hy:env.kindOf y=some .local) (hz:env.kindOf z=some .local) (h:EV c A env ⟨ς,η⟩ (.Tuple [e₁,e₂,e₃] n p) (.tup [X,Y,Z])) (hr:WSs c A env ⟨setL (setL (setL ς z Z) y Y) x X,η⟩ rest k)
  (hs:swapsWith (.Tuple [e₁,e₂,e₃] n p) (some (.Tuple [.Name x p₁,.Name y p₂,.Name z pz] m p₃)) pos.line env=pure false:=by rfl) (hsw:swappedStores [.Tuple [.Name x p₁,.Name y p₂,.Name z pz] m p₃] (.Tuple [e₁,e₂,e₃] n p) env=pure (some [x,y,z]):=by rfl) :
  WSs c A env ⟨ς,η⟩ (.Assign [.Tuple [.Name x p₁,.Name y p₂,.Name z pz] m p₃] (.Tuple [e₁,e₂,e₃] n p) pos::rest) k :=
 wSs_cons (wS_Swap (names:=[x,y,z]) (h.run _ ⟨[X,Y,Z],rfl,rfl,wNs_cons (.inl hz) (wNs_cons (.inl hy) (wNs_cons (.inl hx) (wNs_nil hr)))⟩) hs hsw)
theorem sAugN {k:FV→St→Prop} {op:Operator} {w:V} (hx:ς.lookup x=some X) (hv:EV c A env ⟨ς,η⟩ e Y) (hop:AOk A→∀ Z P s x y,HpR c Z P s.heap η→Rd c Z s.heap X x→Rd c Z s.heap Y y→Res c A Z s (inplaceOp op x y) w) (hk:env.kindOf x=some .local∨env.kindOf x=some .cell) (hr:WSs c A env ⟨setL ς x w,η⟩ rest k)
  (hn:(x == ("__classdict__" : Str))=false:=by decide):WSs c A env ⟨ς,η⟩ (.AugAssign (.Name x p) op e pos::rest) k:=wSs_cons (wS_AugAssign_Name hx (hv.run _ ⟨w,hop,hr⟩) hk hn)
theorem sLst0 {k:FV→St→Prop} (hk:env.kindOf x=some .local∨env.kindOf x=some .cell) (hr:∀ d,WSs c A env ⟨setL ς x (.ref d),(d,.lst [])::η⟩ rest k)
  (hs:swapsWith (.List [] p) (some (.Name x p₁)) pos.line env=pure false:=by rfl) (hsw:swappedStores [.Name x p₁] (.List [] p) env=pure none:=by rfl) (hte:(assignEach [.Name x p₁] env).map (·.2)=[assign (.Name x p₁) env]:=by rfl):WSs c A env ⟨ς,η⟩ (.Assign [.Name x p₁] (.List [] p) pos::rest) k :=
 wSs_cons (wS_Assign (wE_ListO (wEs_nil ⟨Nat.zero_le _,fun d qa=>wA_Name hk (hr d)⟩)) hs hsw hte)
theorem sApp {k:FV→St→Prop} {d:Addr} {xs:List V} {q:Pos} (hx:ς.lookup x=some (.ref d)) (he:EV c A env ⟨ς,(d,.lst xs)::η⟩ e X) (hl:xs.length≤sizeLine) (hr:WSs c A env ⟨ς,(d,.lst (xs++[X]))::η⟩ rest k)
  (hd:(x == ("__debug__" : Str))=false:=by decide) (hn':(x == ("__classdict__" : Str))=false:=by decide) (hbase:attributeBase (.Name x p) "append" env (eval (.Name x p) env)=eval (.Name x p) env:=by rfl) (hline:(q.endLine == pos.line)=true:=by rfl)
  (hfew:((backTo pos (starEach [e] env)).all (fun x=>!x.1)&&(backToKw pos (keywordEach [] env)).all (fun x=>x.1.isSome)&&decide ([e].length + ([]:List Keyword).length + (if ([]:List Keyword).isEmpty then 0 else 1) < 30))=true:=by rfl)
  (hes:starEach [e] env=(false,eval e env)::starEach [] env:=by rfl) (hplain:(backTo pos (starEach [e] env)).any (·.1)=false:=by rfl) (hs:swapsWith (.Call (.Attribute (.Name x p) "append" q) [e] [] pos) none spos.line env=pure false:=by rfl) :
  WSs c A env ⟨ς,(d,.lst xs)::η⟩ (.Expr (.Call (.Attribute (.Name x p) "append" q) [e] [] pos) spos::rest) k :=
 sMeth meth_append (ev_N hx hd hn') (vt_olst (.head _)) (evs he evs0 hes) (.head _) (u_append (.head _) hl) (WSs.hs (pre:=[]) hr) hbase hline hfew hes hplain hs
theorem ev_Cmp {op:CmpOp} {b:Bool} (h1:EV c A env ⟨ς,η⟩ l X) (h2:EV c A env ⟨ς,η⟩ r Y) (h:CmpV c A η op X Y b) (hm:behindInMarks op r=false:=by rfl):EV c A env ⟨ς,η⟩ (.Compare l [op] [r] pos) (.bool b):=⟨fun qa hk=>wE_Compare (h1.run _ (h2.run _ ⟨b,h,hk⟩)) hm⟩
theorem sWhile {k:FV→St→Prop} {body:List Stmt} (J:Nat→St→Prop) {m:Nat} {σ₀:St} (hle:St.le ⟨ς,η⟩ σ₀) (h0:J m σ₀) (turn:∀ m τ,J m τ→WT c A env τ t fun b τ₁=>if b then WSs c A env τ₁ body (TurnK (fun τ₂=>∃ m',m' < m∧J m' τ₂) (thenS c A env rest k)) else WSs c A env τ₁ rest k):WSs c A env ⟨ς,η⟩ (.While t body [] pos::rest) k :=
 wSs_cons (wS_While J hle h0 turn)
end
theorem item_pm {c:Cx} {A:Around} {hp:List (Addr×O)} {i:Int}:ItemV c A hp (.str "+-") (.int (i.fmod 2)) (.str (pick ["+","-"] "" i)):=by
 intro hA Z P s x y _ rX rY
 refine Rd.str_elim rX fun t=>?_
 refine Rd.int_elim rY fun u=>?_
 refine ⟨fun Q E h=>gip (T:="str") (typeIs_str _ _ _) F.slot_str_getitem.lookup (by intro e; cases e) h,?_⟩
 have h2:=Int.fmod_lt_of_pos i (show (0:Int) < 2 by decide)
 have h1:=Int.fmod_nonneg_of_pos i (show (0:Int) < 2 by decide)
 have e:i.fmod 2=0∨i.fmod 2=1:=(Int.lt_or_le (i.fmod 2) 1).elim (fun h=>.inl (Int.le_antisymm (Int.lt_add_one_iff.mp h) h1)) fun h=>.inr (Int.le_antisymm (Int.lt_add_one_iff.mp h2) h)
 intro Q E h
 have hp:pick (["+","-"]:List Str) "" i=(["+","-"]:List Str).getD (i.fmod 2).toNat "" := rfl
 rw [hp] at h
 rcases e with e | e
 ·rw [e] at h ⊢
  exact PyProof.Rows.getItem_str (c:=43) (by decide) (by decide) (h _ s.heap (s.toks + 1) s.drawn (fun qa=>False) (fun qa qb e=>e) (fun qa z=>z.elim) (.str _ _))
 ·rw [e] at h ⊢
  exact PyProof.Rows.getItem_str (c:=45) (by decide) (by decide) (h _ s.heap (s.toks + 1) s.drawn (fun qa=>False) (fun qa qb e=>e) (fun qa z=>z.elim) (.str _ _))
end Mine
end
noncomputable section
set_option maxRecDepth 100000
namespace Mine
open PySem PySem.SeqAt PyProof.Rows
noncomputable def D_conf:DefD:=defD PP.main.body[2]?
theorem k_conf:DefK D_conf ["layout"] D_conf.body:=mkK rfl (by
 intro nm qual pm code doc vs h
 obtain ⟨x,rfl⟩:=list1 h; rfl)
noncomputable def confL:List Rt→List (Str×Str)
 | []=>[]
 | r::rs=>(rs.filter (clashB r)).map (fun q=>(r.nm,q.nm))++confL rs
theorem confL_len:∀ rs:List Rt,(confL rs).length≤rs.length * rs.length
 | []=>Nat.le_refl _
 | r::rs=>by
  have h1:=List.length_filter_le (clashB r) rs
  have h2:=confL_len rs
  show ((rs.filter (clashB r)).map (fun q=>(r.nm,q.nm))++confL rs).length≤(rs.length + 1) * (rs.length + 1)
  rw [List.length_append,List.length_map,Nat.add_mul,Nat.one_mul,Nat.mul_add,Nat.mul_one,Nat.add_comm]
  exact Nat.add_le_add (Nat.le_trans h2 (Nat.le_add_right _ _)) (Nat.le_succ_of_le h1)
theorem prs_snoc (o:List (Str×Str)) (q:Str×Str):prs o++[V.tup [.str q.1,.str q.2]]=prs (o++[q]):=by rw [prs_map,prs_map,List.map_append]; rfl
section
variable {c:Cx} {n:Nat}
noncomputable def locC (rs:List Rt) (d:Addr) (i:Nat):List (Str×V):=[("rs", .lst (rs.map Rt.v)),("out", .ref d),("i", .int i)]
noncomputable def locC' (rs:List Rt) (d:Addr) (i j:Nat):List (Str×V):=[("rs", .lst (rs.map Rt.v)),("out", .ref d),("i", .int i),("j", .int j)]
theorem spec_conflicts (G:Core c) {a:Addr} (F:IsFn c a D_conf) {lay:Lay} (h1:lay.rts.length≤20) (h2:∀ r∈lay.rts,RtOk r):Pure c (n + 2) a [lay.v] (.lst (prs (confL lay.rts))):=by
 refine call_def F k_conf rfl fun A qual code L hR=>?_
 conv in D_conf.body=>whnf
 generalize hrs:lay.rts=rs at *
 have hsz:(rs.map Rt.v).length≤sizeLine:=by rw [List.length_map]; exact sz100 (Nat.le_trans h1 (by decide))
 refine sSet (X:=.lst (rs.map Rt.v)) (.inl rfl) (ev_CallB G.b_list rfl (.type _) rfl (evs (ev_at rfl (by rw [← hrs]; rfl)) evs0) ((f_list_lst hsz).frz rfl)) ?_
 refine sLst0 (.inl rfl) fun d=>?_
 refine sSet (.inl rfl) ev_i ?_
 have hget:∀ {i:Nat},i < rs.length→∃ r∈rs,(rs.map Rt.v)[((i:Nat):Int).toNat]?=some r.v∧rs.drop i=r::rs.drop (i + 1):=fun {i} hi =>
  ⟨rs[i],List.getElem_mem hi,by rw [Int.toNat_natCast,List.getElem?_map,List.getElem?_eq_getElem hi]; rfl,List.drop_eq_getElem_cons hi⟩
 have hb:∀ {i:Nat},i < rs.length→((i:Nat):Int) < 2 ^ 62:=fun hi=>Int.lt_of_lt_of_le (Int.ofNat_lt.mpr (Nat.lt_of_lt_of_le hi h1)) (by decide)
 have ho:∀ {o t:List (Str×Str)},o++t=confL rs→(prs o).length≤sizeLine:=fun {o t} e=>by
  rw [prs_len]
  have h:=confL_len rs
  rw [← e,List.length_append] at h
  exact sz900 (Nat.le_trans (Nat.le_trans (Nat.le_add_right _ _) h) (Nat.le_trans (Nat.mul_le_mul h1 h1) (by decide)))
 refine sWhile (fun m τ=>∃ (i:Nat) (o:List (Str×Str)),m=rs.length - i∧i≤rs.length∧τ=⟨locC rs d i,[(d,.lst (prs o))]⟩∧o++confL (rs.drop i)=confL rs) (m:=rs.length) (σ₀:=⟨locC rs d 0,[(d,.lst (prs []))]⟩) (le_loc (I04 rfl rfl rfl trivial)) ⟨0,[],rfl,Nat.zero_le _,rfl,rfl⟩ ?_
 refine fun m τ=>R24 fun i o z1 hi z3 he=>?_
 subst z1; subst z3
 refine (tp_lt (ev_N rfl) (ev_CallB G.b_len rfl (.blt _) rfl (evs (ev_N rfl) evs0) (b_len_lst hsz))).run _ fun b hbb=>?_
 rw [List.length_map,Int.ofNat_lt] at hbb
 cases b with
 | false =>
  have:i=rs.length:=Nat.le_antisymm hi (Nat.le_of_not_lt fun z=>Bool.noConfusion (hbb.mpr z))
  subst this
  rw [List.drop_length] at he
  have he':o=confL rs:=(List.append_nil o).symm.trans he
  subst he'
  exact wSs_cons (wS_ReturnF ((ev_N rfl).run _ (I34 d _ _ rfl (.head _) rfl (I13 ⟨[],[]⟩ le_nil rfl rfl))))
 | true =>
  have hlt:=hbb.mp rfl
  refine E13 (hget hlt) fun r hr hg hdr=>?_
  rw [hdr] at he
  refine sSet (X:=.int ((i + 1:Nat):Int)) (.inl rfl) (ev_eq (ev_Bin (ev_N rfl) ev_i bin_add_int) rfl) ?_
  refine sWhile (fun m τ=>∃ (j:Nat) (o:List (Str×Str)),m=rs.length - j∧j≤rs.length∧τ=⟨locC' rs d i j,[(d,.lst (prs o))]⟩∧o++(((rs.drop j).filter (clashB r)).map (fun q=>(r.nm,q.nm))++confL (rs.drop (i + 1)))=confL rs) (m:=rs.length - (i + 1)) (St.le.refl _) ⟨i + 1,o,rfl,hlt,rfl,he⟩ ?_
  refine fun m τ=>R24 fun j o z1 hj z3 he=>?_
  subst z1; subst z3
  refine (tp_lt (ev_N rfl) (ev_CallB G.b_len rfl (.blt _) rfl (evs (ev_N rfl) evs0) (b_len_lst hsz))).run _ fun b hbb=>?_
  rw [List.length_map,Int.ofNat_lt] at hbb
  cases b with
  | false =>
   have:j=rs.length:=Nat.le_antisymm hj (Nat.le_of_not_lt fun z=>Bool.noConfusion (hbb.mpr z))
   subst this
   rw [List.drop_length] at he
   refine sAugN rfl ev_i inp_add (.inl rfl) (wSs_nil (I12 ⟨locC rs d (i + 1),[(d,.lst (prs o))]⟩ (le_loc (I04 rfl rfl rfl trivial)) ⟨rs.length - (i + 1),Nat.sub_lt_sub_left hlt (Nat.lt_succ_self i),i + 1,o,rfl,hlt,rfl,he⟩))
  | true =>
   have hlt':=hbb.mp rfl
   refine E13 (hget hlt') fun q hq hg' hdq=>?_
   rw [hdq,List.filter_cons] at he
   have fin:∀ {o':List (Str×Str)} {ς:List (Str×V)},o'++(((rs.drop (j + 1)).filter (clashB r)).map (fun q=>(r.nm,q.nm))++confL (rs.drop (i + 1)))=confL rs→Sub (locC' rs d i (j + 1)) ς→∃ τ:St,St.le ⟨ς,[(d,.lst (prs o'))]⟩ τ∧∃ m',m' < rs.length - j∧∃ (j:Nat) (o:List (Str×Str)),m'=rs.length - j∧j≤rs.length∧τ=⟨locC' rs d i j,[(d,.lst (prs o))]⟩∧o++(((rs.drop j).filter (clashB r)).map (fun q=>(r.nm,q.nm))++confL (rs.drop (i + 1)))=confL rs:=fun {o' ς} e hs =>
    I12 ⟨locC' rs d i (j + 1),[(d,.lst (prs o'))]⟩ (le_loc hs) ⟨rs.length - (j + 1),Nat.sub_lt_sub_left hlt' (Nat.lt_succ_self j),j + 1,o',rfl,hlt',rfl,e⟩
   have ei:∀ {η:List (Addr×O)} {p p' p'':Pos},EV c A (envD D_conf qual code L a) ⟨locC' rs d i j,η⟩ (.Subscript (.Name "rs" p) (.Name "i" p') p'') r.v:=ev_Sub (ev_N rfl) (ev_N rfl) (item_lst (Int.natCast_nonneg i) (hb hlt) hg)
   have ej:∀ {η:List (Addr×O)} {p p' p'':Pos},EV c A (envD D_conf qual code L a) ⟨locC' rs d i j,η⟩ (.Subscript (.Name "rs" p) (.Name "j" p') p'') q.v:=ev_Sub (ev_N rfl) (ev_N rfl) (item_lst (Int.natCast_nonneg j) (hb hlt') hg')
   refine sIf (tp_bool (ev_Pure G.g_clash G.F_clash rfl (evs ei (evs ej evs0)) hR (spec_clash G.F_clash G.b_set G.b_len (h2 r hr).nd (h2 r hr).ov (h2 q hq).ov))) (fun hc=>?_) fun hc=>?_
   ·rw [if_pos hc,List.map_cons] at he
    refine sApp (X:=.tup [.str r.nm,.str q.nm]) rfl (ev_Tup (evs (ev_T ei rfl) (evs (ev_T ej rfl) evs0)) n2) (ho he) ?_
    rw [prs_snoc o (r.nm,q.nm)]
    exact wSs_nil (sAugN rfl ev_i inp_add (.inl rfl) (wSs_nil (fin (by rw [List.append_assoc]; exact he) (I05 rfl rfl rfl rfl trivial))))
   ·rw [if_neg hc] at he
    exact wSs_nil (sAugN rfl ev_i inp_add (.inl rfl) (wSs_nil (fin he (I05 rfl rfl rfl rfl trivial))))
end
end Mine
end
noncomputable section
namespace Mine
open PySem PySem.Spec PyProof.Rows
noncomputable abbrev leS (x y:Str):Prop:=¬ (y.cps.toList < x.cps.toList)
theorem leS_trans {x y z:Str} (h1:leS x y) (h2:leS y z):leS x z:=by
 unfold leS at *
 rw [List.not_lt] at *
 exact List.le_trans h1 h2
theorem leS_antisymm {x y:Str} (h1:leS x y) (h2:leS y x):x=y:=by
 unfold leS at *
 rw [List.not_lt] at *
 have:=List.le_antisymm h1 h2
 cases x; cases y
 simp only [Str.mk.injEq]
 exact Array.toList_inj.mp this
theorem risingS_iff:∀ (l:List Str) (x:Str),risingS x l=true↔(x::l).Pairwise leS
 | [],x=>by simp [risingS]
 | y::l,x=>by
  rw [List.pairwise_cons]
  unfold risingS
  rw [Bool.and_eq_true,risingS_iff l y,ltCps_eq,Bool.not_eq_true',decide_eq_false_iff_not]
  constructor
  ·rintro ⟨h1,h2⟩
   refine ⟨fun z hz=>?_,h2⟩
   rcases List.mem_cons.mp hz with rfl | hz
   ·exact h1
   ·exact leS_trans h1 ((List.pairwise_cons.mp h2).1 z hz)
  ·rintro ⟨h1,h2⟩
   exact ⟨h1 y (.head _),h2⟩
theorem sortedS_iff (l:List Str):sortedS l=true↔l.Pairwise leS:=by
 cases l with
 | nil=>simp [sortedS]
 | cons x l=>exact risingS_iff l x
theorem srt_unique {l m:List Str} (hp:l.Perm m) (h1:sortedS l=true) (h2:sortedS m=true):l=m :=
 hp.eq_of_pairwise (fun qa qb qc qd=>leS_antisymm) ((sortedS_iff l).mp h1) ((sortedS_iff m).mp h2)
theorem srt_filter {l:List Str} (p:Str→Bool) (h:sortedS l=true):sortedS (l.filter p)=true:=(sortedS_iff _).mpr (((sortedS_iff l).mp h).filter p)
noncomputable def sortL (l:List Str):List Str:=l.mergeSort fun x y=>decide (leS x y)
theorem sortL_perm (l:List Str):(sortL l).Perm l:=List.mergeSort_perm _ _
theorem sortL_sorted (l:List Str):sortedS (sortL l)=true:=by
 rw [sortedS_iff]
 have h:=List.pairwise_mergeSort (le:=fun x y=>decide (leS x y)) (fun a b c h1 h2=>decide_eq_true (leS_trans (of_decide_eq_true h1) (of_decide_eq_true h2))) (fun a b=>by
  by_cases h1:leS a b
  ·rw [Bool.or_eq_true]; exact .inl (decide_eq_true h1)
  ·have:leS b a:=by
    unfold leS at *
    intro h2
    apply h1
    intro h3
    exact List.lt_irrefl _ (List.lt_trans h2 h3)
   rw [Bool.or_eq_true]; exact .inr (decide_eq_true this)) l
 exact h.imp fun h=>of_decide_eq_true h
theorem sortL_eq {l ss:List Str} (hp:ss.Perm l) (h:sortedS ss=true):ss=sortL l:=srt_unique (hp.trans (sortL_perm l).symm) h (sortL_sorted l)
theorem tget_cons (q:Str×Str) (r:List (Str×Str)) (j:Str):tget (q::r) j=if q.1=j then some q.2 else tget r j:=by
 unfold tget; rw [List.find?_cons]; by_cases hq:q.1=j <;> simp [hq]
theorem tget_mem {l:List (Str×Str)} (hnd:(l.map (·.1)).Nodup) {k v:Str}:tget l k=some v↔(k,v)∈l:=by
 induction l with
 | nil=>simp [tget]
 | cons q l ih =>
  rw [List.map_cons,List.nodup_cons] at hnd
  rw [tget_cons]
  by_cases h:q.1=k
  ·rw [if_pos h]
   constructor
   ·intro e; cases e; subst h; exact .head _
   ·intro e
    rcases List.mem_cons.mp e with e | e
    ·rw [← e]
    ·exact absurd (h▸List.mem_map_of_mem (f:=(·.1)) e) hnd.1
  ·rw [if_neg h,ih hnd.2,List.mem_cons]
   constructor
   ·exact .inr
   ·rintro (e | e)
    ·exact absurd (by rw [← e]) h
    ·exact e
theorem tget_isSome (l:List (Str×Str)) (k:Str):(tget l k).isSome=decide (k∈l.map (·.1)):=by
 induction l with
 | nil=>rfl
 | cons q l ih =>
  rw [tget_cons]
  by_cases h:q.1=k
  ·simp [h]
  ·have h':¬ k=q.1:=fun e=>h e.symm
   rw [if_neg h,ih]
   simp only [List.map_cons,List.mem_cons,h',false_or]
theorem tget_some {l:List (Str×Str)} {k:Str} (h:k∈l.map (·.1)):∃ v,tget l k=some v:=by
 have:=tget_isSome l k
 rw [decide_eq_true h] at this
 exact Option.isSome_iff_exists.mp this
theorem tset_new {l:List (Str×Str)} {k v:Str} (h:k∉l.map (·.1)):tset l k v=l++[(k,v)]:=by
 unfold tset
 rw [if_neg]
 intro h1
 refine E12 (List.any_eq_true.mp h1) fun e he h2=>?_
 exact h ((of_decide_eq_true h2)▸List.mem_map_of_mem (f:=(·.1)) he)
theorem tset_names {l:List (Str×Str)} {k v:Str} (h:k∈l.map (·.1)):(tset l k v).map (·.1)=l.map (·.1):=by
 unfold tset
 refine E12 (List.mem_map.mp h) fun e he h2=>?_
 rw [if_pos (List.any_eq_true.mpr (I12 e he (decide_eq_true h2))),List.map_map]
 refine List.map_congr_left fun p qa=>?_
 simp only [Function.comp]
 split <;> rfl
theorem tfold_new (l:List (Str×Str)):∀ acc:List (Str×Str),((acc++l).map (·.1)).Nodup→tfold l acc=acc++l:=by
 induction l with
 | nil=>intro acc _; simp [tfold]
 | cons q l ih =>
  intro acc h
  show tfold l (tset acc q.1 q.2)=_
  have h1:q.1∉acc.map (·.1):=by
   rw [List.map_append,List.nodup_append] at h
   intro h2
   exact h.2.2 _ h2 q.1 (by simp) rfl
  rw [tset_new h1,ih]
  ·simp
  ·simpa using h
theorem tfold_self {l:List (Str×Str)} (h:(l.map (·.1)).Nodup):tfold l []=l:=tfold_new l [] h
theorem tfold_names (ps:List (Str×Str)):∀ {l:List (Str×Str)},(∀ q∈ps,q.1∈l.map (·.1))→(tfold ps l).map (·.1)=l.map (·.1):=by
 induction ps with
 | nil=>intro l _; rfl
 | cons p ps ih =>
  intro l h
  show (tfold ps (tset l p.1 p.2)).map (·.1)=_
  have e:=tset_names (v:=p.2) (h p (.head _))
  rw [ih,e]
  intro q hq
  rw [e]; exact h q (.tail _ hq)
theorem tget_tfold (ps:List (Str×Str)) (k:Str):∀ l:List (Str×Str),tget (tfold ps l) k=(tget (tfold ps []) k).or (tget l k):=by
 induction ps with
 | nil=>intro l; simp [tfold,tget]
 | cons p ps ih =>
  intro l
  show tget (tfold ps (tset l p.1 p.2)) k=(tget (tfold ps (tset [] p.1 p.2)) k).or _
  rw [ih,ih (tset [] p.1 p.2),tget_set,tget_set]
  by_cases h:k=p.1
  ·simp [h]
  ·simp only [if_neg h,Option.or_assoc]
   congr 1
theorem pos_out {pts pos:List (Str×Str)} (hn:pos.map (·.1)=pts.map (·.1)) (hnd:(pts.map (·.1)).Nodup):(pts.map fun q=>(q.1,(tget pos q.1).getD ""))=pos:=by
 have e:(pts.map fun q=>(q.1,(tget pos q.1).getD ""))=(pts.map (·.1)).map fun k=>(k,(tget pos k).getD ""):=by rw [List.map_map]; rfl
 rw [e,← hn,List.map_map]
 have h:∀ q∈pos,((fun k=>(k,(tget pos k).getD ""))∘fun x:Str×Str=>x.1) q=q:=by
  intro q hq
  have:=(tget_mem (hn▸hnd:(pos.map (·.1)).Nodup)).mpr hq
  simp only [Function.comp,this,Option.getD_some]
 rw [List.map_congr_left h,List.map_id']
theorem sof_new (l:List Str):∀ acc:List Str,(acc++l).Nodup→l.foldl sadd acc=acc++l:=by
 induction l with
 | nil=>intro acc _; simp
 | cons q l ih =>
  intro acc h
  rw [List.foldl_cons]
  have h1:q∉acc:=by
   rw [List.nodup_append] at h
   intro h2
   exact h.2.2 _ h2 q (by simp) rfl
  have:sadd acc q=acc++[q]:=by unfold sadd; rw [if_neg h1]
  rw [this,ih]
  ·simp
  ·simpa using h
theorem sof_self {l:List Str} (h:l.Nodup):sof l=l:=sof_new l [] h
end Mine
end
noncomputable section
namespace Mine
open PySem PySem.SeqAt
theorem turnG_one (elt target iter:Expr) (ifs:List Expr) (scope:Scope) (pos:Pos) (it acc:Value) (env:Env) :
  compTurn (.GeneratorExp elt [⟨target,iter,ifs,0⟩] scope pos) 0 it acc env=turnTree it iter.pos target ifs env (do (do let v ← eval elt env; standAt elt.pos; let _ ← yieldOut env v); again (.compLoop (.GeneratorExp elt [⟨target,iter,ifs,0⟩] scope pos) 0 it acc env)) (.compLoop (.GeneratorExp elt [⟨target,iter,ifs,0⟩] scope pos) 0 it acc env):=by rfl
theorem turnG_snd (elt target iter target' iter':Expr) (ifs ifs':List Expr) (scope:Scope) (pos:Pos) (it acc:Value) (env:Env) :
  compTurn (.GeneratorExp elt [⟨target,iter,ifs,0⟩,⟨target',iter',ifs',0⟩] scope pos) 1 it acc env=turnTree it iter'.pos target' ifs' env (do (do let v ← eval elt env; standAt elt.pos; let _ ← yieldOut env v); again (.compLoop (.GeneratorExp elt [⟨target,iter,ifs,0⟩,⟨target',iter',ifs',0⟩] scope pos) 1 it acc env)) (.compLoop (.GeneratorExp elt [⟨target,iter,ifs,0⟩,⟨target',iter',ifs',0⟩] scope pos) 1 it acc env):=by rfl
theorem turnG_fst (elt target iter target' iter':Expr) (ifs ifs':List Expr) (scope:Scope) (pos:Pos) (it acc:Value) (env:Env) :
  compTurn (.GeneratorExp elt [⟨target,iter,ifs,0⟩,⟨target',iter',ifs',0⟩] scope pos) 0 it acc env=turnTree it iter.pos target ifs env (do
    let x ← eval iter' env
    standAt iter'.pos
    let x ← foldedSetIterable iter' env x
    let _ ← runOwn (.compStart (.GeneratorExp elt [⟨target,iter,ifs,0⟩,⟨target',iter',ifs',0⟩] scope pos) 1 (← holding [x] (pyIter x)) acc env) env
    again (.compLoop (.GeneratorExp elt [⟨target,iter,ifs,0⟩,⟨target',iter',ifs',0⟩] scope pos) 0 it acc env)) (.compLoop (.GeneratorExp elt [⟨target,iter,ifs,0⟩,⟨target',iter',ifs',0⟩] scope pos) 0 it acc env):=by rfl
section
variable {c:Cx} {A:Around} {cenv:Env} {σ:St} {Z P:Addr→Prop}
structure Sm (s s':Shared):Prop where
 heap:s'.heap=s.heap
 os:s'.os=s.os
 gens:GB s.gens s'.gens
theorem Sm.step {s s':Shared} (x:Sm s s'):Step Z P (cr s) Z (cr s') :=
 ⟨fun qa z=>z,fun b o qa e=>by show s'.heap.get? b=_; rw [x.heap]; exact e,fun b o qa qb e=>by show s'.heap.get? b=_; rw [x.heap]; exact e,fun q qa t=>by show IsTab s'.heap q; rw [x.heap]; exact t,x.os,x.gens⟩
structure GX where
 c:Cx
 P:Addr→Prop
 Z:Addr→Prop
 s:Shared
 all:List Bool
noncomputable def GX.At (g:GX) (s:Shared):Prop:=∃ Z',Step g.Z g.P (cr g.s) Z' (cr s)∧Inv g.c Z' g.P s.heap
noncomputable def GX.R (g:GX):GenEnd:=fun n qa r s=>r=.ok .next∧(n=0∧g.At s)
noncomputable def GX.Y (g:GX):Protocol:=fun m qa v s kap=>∃ pre b post,g.all=pre++b::post∧post.length=m∧v=.bool b∧g.At s∧∀ s'',Sm s s''→kap (.send .none) s''
theorem Inv.down {h:Heap} {P':Addr→Prop} (I:Inv c Z P' h) (hP:∀ b,P b→P' b) (hT:∀ q∈tabs,P q.2):Inv c Z P h :=
 ⟨I.ground,I.exZ,fun b p=>I.exP b (hP b p),fun b z p=>I.off b z (hP b p),I.sys,I.top,hT,I.tab⟩
theorem Step.down {Z' P':Addr→Prop} {x x':Heap×Array GenState×OsState} (S:Step Z P' x Z' x') (hP:∀ b,P b→P' b):Step Z P x Z' x' :=
 ⟨S.grow,S.keepZ,fun b o p n e=>S.keepP b o (hP b p) n e,S.keepT,S.os,S.gens⟩
noncomputable def Goes (g:GX) (A:Around) (cenv:Env) (P:Addr→Prop) (σ:St) (code:Code) (t:Sem PySem.Fin) (fs:List Frame) (bs:List Bool) (Zb:Addr→Prop) (sb:Shared):Prop :=
 ∀ Z s s₀,Step Zb P (cr sb) Z (cr s)→Rel g.c Z P cenv σ s.heap→Seg g.c.M A g.R g.Y bs.length s₀ code t fs s
theorem goes_elt {g:GX} {P Zb:Addr→Prop} {sb:Shared} {σ τ:St} {elt:Expr} {code nxt:Code} {fs:List Frame} {b:Bool} {rest:List Bool} {N:Value→Sem Unit} (hA:AOk (A.over code fs)) (hP:∀ x,g.P x→P x) (hT:∀ q∈tabs,g.P q.2)
  (hco:cenv.scope.isCoroutine=false) (hfs:splitAtGen fs=none) (hfg:fs.any Frame.guarded=false) (hall:∃ pre,g.all=pre++b::rest) (hq:nxt.quiet=true)
  (h:WE g.c (A.over code fs) cenv τ elt fun Y σ'=>Y=.bool b∧σ'.le σ) (Sb:Step g.Z g.P (cr g.s) Zb (cr sb)) (hn:Goes g A cenv P σ nxt (g.c.M.den nxt) fs rest Zb sb) :
  Goes g A cenv P τ code (Sem.onRaise (do (do let v ← eval elt cenv; standAt elt.pos; let _ ← yieldOut cenv v); again nxt) N) fs (b::rest) Zb sb:=by
 intro Z s s₀ S R
 have hy:∀ v,yieldOut cenv v=yieldValue v:=fun v=>by simp only [yieldOut,hco,Bool.false_eq_true,if_false]
 simp only [hy]
 rw [Sem.onRaise_eq_wrap,Sem.bind_eq_wrap',Sem.bind_eq_wrap',Sem.wrap_wrap,Sem.wrap_wrap]
 refine seg_wrap (wp_then h hA R fun Z₁ s₁ X σ₁ v S₁ R₁ r₁ kk=>?_)
 obtain ⟨rfl,hle⟩:=kk
 cases r₁
 obtain ⟨pre,hpre⟩:=hall
 refine seg_at (seg_yield hfs rfl hfg ⟨pre,b,rest,hpre,rfl,rfl,⟨Z₁,Sb.trans ((S.trans S₁).down hP),R₁.inv.down hP hT⟩,fun s'' hs=>?_⟩)
 refine seg_again hq (hn Z₁ s'' s'' ((S.trans S₁).trans hs.step) ?_)
 rw [hs.heap]; exact R₁.le hle
theorem seg_next {M:Model} {R:GenEnd} {Y:Protocol} {n:Nat} {s₀:Shared} {code:Code} {fs:List Frame} {s:Shared} {β:Type} {K':β→Sem PySem.Fin} {H':Value→Sem PySem.Fin} {gd lv} {target:Expr} {it:Value} {f:Option Value→Sem β} {rest:Value→Sem β}
  (h:wpAny M (A.over code fs) (pyNext it) (fun r s₁=>match r with | none=>False | some v=>wpAny M (A.over code fs) (letOwnedTupleGo target it v) (fun qa s₂=>Seg M A R Y n s₀ code ((rest v).wrap K' H' gd lv) fs s₂) (fun x s'=>Seg M A R Y n s₀ code (H' x) fs s') s₁) (fun x s'=>Seg M A R Y n s₀ code (H' x) fs s') s)
  (hf:∀ v,f (some v)=(do letOwnedTupleGo target it v; rest v)):Seg M A R Y n s₀ code ((pyNext it >>= f).wrap K' H' gd lv) fs s:=by
 refine seg_bind_wrap (wpAny_mono h (fun r s₁ hr=>?_) fun qa qb x=>x)
 cases r with
 | none=>exact hr.elim
 | some v=>rw [hf]; exact seg_bind_wrap hr
theorem seg_loop {g:GX} {P:Addr→Prop} {σ:St} {code:Code} {target:Expr} {ipos:Pos} {inner:Sem PySem.Fin} {xs:List V} {I:Addr} {fp:List Addr} {Stt:Nat→Heap→Prop} {fs:List Frame} {tail:List Bool} {N:Value→Sem Unit} {s:Shared} (f:V→List Bool)
  (hden:g.c.M.den code=Sem.onRaise (turnTree (.ref I) ipos target [] cenv inner code) N) (hA:AOk (A.over code fs)) (W:Iter g.c (A.over code fs) target I fp xs Stt Z s.heap) (hfp:∀ b∈fp,b=I∨Z b) (hst:Stt 0 s.heap)
  (R:Rel g.c Z P cenv σ s.heap) (hPI:¬ P I) (hZI:¬ Z I) (hOI:¬ OwnA cenv I) (hHI:∀ o,(I,o)∉σ.hp) (hP:∀ x,g.P x→P x) (S:Step g.Z g.P (cr g.s) Z (cr s)) (hall:∃ pre,g.all=pre++(xs.flatMap f++tail))
  (turn:∀ X∈xs,WA g.c (A.over code fs) cenv σ target X fun τ=>∀ rest Zb sb,Step g.Z g.P (cr g.s) Zb (cr sb)→(∃ pre,g.all=pre++(f X++rest))→Goes g A cenv (fun b=>P b∨b=I) σ code (g.c.M.den code) fs rest Zb sb→Goes g A cenv (fun b=>P b∨b=I) τ code (Sem.onRaise inner N) fs (f X++rest) Zb sb)
  (fin:Goes g A cenv P σ code (leafOf (.ok .next)) fs tail Z s):∀ s₀,Seg g.c.M A g.R g.Y (xs.flatMap f++tail).length s₀ code (g.c.M.den code) fs s:=by
 have hIT:¬ isT I:=R.inv.nT hPI
 have offT:∀ b,b=I→¬ isT b:=fun b e=>e▸hIT
 have R₁:Rel g.c Z (fun b=>P b∨b=I) cenv σ s.heap:=R.protect fun b hb=>by subst hb; exact I04 (W.ex _ _ hst) hZI hOI hHI
 have main:∀ (k i:Nat) (Z':Addr→Prop) (s' s₀:Shared),xs.length - i=k→i≤xs.length→Step Z P (cr s) Z' (cr s')→Rel g.c Z' (fun b=>P b∨b=I) cenv σ s'.heap→Stt i s'.heap →
   Seg g.c.M A g.R g.Y ((xs.drop i).flatMap f++tail).length s₀ code (g.c.M.den code) fs s':=by
  intro k
  induction k with
  | zero =>
   intro i Z' s' s₀ hk hi S' R' hst'
   have hin:i=xs.length:=oz hk hi
   subst hin
   rw [hden,Sem.onRaise_eq_wrap]
   unfold turnTree
   refine seg_bind_wrap (wpAny_standAt ?_)
   refine seg_bind_wrap (W.done s' _ _ hst' fun h' tk hk'=>?_)
   rw [List.drop_length]
   have hIe:¬ Z' I:=fun z=>R'.inv.off _ z (.inr rfl)
   refine fin Z' { s' with heap:=h',toks:=tk } s₀ ⟨S'.grow,fun b o z e=>hk' b o (fun x=>hIe (x▸S'.grow b z)) (S'.keepZ b o z e),fun b o p n e=>hk' b o (fun x=>hPI (x▸p)) (S'.keepP b o p n e),
    fun q hq t=>(S'.keepT q hq t).at (fun o e=>hk' _ o (fun x=>hIe (x▸(R'.inv.tab q hq).1)) e) (fun o e=>hk' _ o (fun x=>hIT ⟨q,hq,x⟩) e),S'.os,S'.gens⟩ ?_
   have R2:Rel g.c Z' P cenv σ s'.heap:=R'.unprotect R.inv.tp (fun b p=>.inl p) R.freeP
   exact R2.but (N:=fun b=>b=I) (fun b o n e=>hk' b o n e) offT (by rintro b rfl; exact hIe) (by rintro b rfl; exact hOI) (by rintro b rfl; exact hHI) (fun b p n=>absurd (n▸p) hPI) (fun x cl h1 h2 e=>hPI (e▸R.freeP x cl h1 h2))
  | succ k ih =>
   intro i Z' s' s₀ hk hi S' R' hst'
   have hlt:i < xs.length:=ol hk
   obtain ⟨X,hX⟩:∃ X,xs[i]?=some X:=⟨xs[i],by simp [hlt]⟩
   have hXm:X∈xs:=List.mem_of_getElem? hX
   have hdrop:xs.drop i=X::xs.drop (i + 1):=by
    rw [List.drop_eq_getElem_cons hlt]
    have:xs[i]=X:=by rw [List.getElem?_eq_getElem hlt] at hX; exact Option.some.inj hX
    rw [this]
   have hIe:¬ Z' I:=fun z=>R'.inv.off _ z (.inr rfl)
   rw [hden,Sem.onRaise_eq_wrap]
   unfold turnTree
   refine seg_bind_wrap (wpAny_standAt ?_)
   refine seg_next (target:=target) (rest:=fun v=>do
    assign target cenv v
    let ok ← testsTree [] cenv true
    if ok then inner else again code) (W.item i X s' Z' _ _ hX hst' S'.grow S'.keepZ ?_) (fun v=>rfl)
   intro v h₁ tk₁ Nw hst₁ hk₁ hN rX
   have R₀:Rel g.c Z' (fun b=>P b∨b=I) cenv σ h₁:=R'.but (N:=fun b=>b=I) (fun b o n e=>hk₁ b o n e) offT (by rintro b rfl; exact hIe) (by rintro b rfl; exact hOI) (by rintro b rfl; exact hHI) (fun b qa n=>n▸W.ex _ _ hst₁) (fun x cl h1 h2 e=>hPI (e▸R.freeP x cl h1 h2))
   have hNn:∀ b,Nw b→s'.heap.get? b=none:=fun b hb=>(hN b hb).1
   have R₁':Rel g.c (fun b=>Z' b∨Nw b) (fun b=>P b∨b=I) cenv σ h₁:=R₀.freeze fun b hb=>by
    refine (I04 ((hN b hb).2) (fun p=>?_) (fun o=>?_) (fun o ho=>?_))
    ·obtain ⟨o,e⟩:=R'.inv.exP b p
     rw [hNn b hb] at e; cases e
    ·obtain ⟨o',e⟩:=R'.exOwn o
     rw [hNn b hb] at e; cases e
    ·obtain ⟨ob,e⟩:=(R'.hp.obj b o ho).1.some
     rw [hNn b hb] at e; cases e
   have S₁:Step Z P (cr s) (fun b=>Z' b∨Nw b) (cr { s' with heap:=h₁,toks:=tk₁ }):=⟨fun b z=>.inl (S'.grow b z),fun b o z e=>hk₁ b o (fun x=>hIe (x▸S'.grow b z)) (S'.keepZ b o z e),fun b o p n e=>hk₁ b o (fun x=>hPI (x▸p)) (S'.keepP b o p n e),
    fun q hq qa=>(R₀.inv.tab q hq).2,S'.os,S'.gens⟩
   refine seg_bind_wrap (wa_then (s:={ s' with heap:=h₁,toks:=tk₁ }) (turn X hXm) hA R₁' rX fun Z₂ s₂ τ S₂ R₂ k₂=>?_)
   refine seg_bind_wrap (m:=testsTree [] cenv true) (wpAny_pure ?_)
   rw [if_pos rfl,← Sem.onRaise_eq_wrap,hdrop,List.flatMap_cons,List.append_assoc]
   refine k₂ ((xs.drop (i + 1)).flatMap f++tail) _ { s' with heap:=h₁,toks:=tk₁ } (S.trans (S₁.down hP)) ?_ (fun Z₃ s₃ s₀' S₃ R₃=>?_) Z₂ s₂ s₀ S₂ R₂
   ·obtain ⟨pre,hpre⟩:=hall
    refine ⟨pre++(xs.take i).flatMap f,?_⟩
    have e:xs.flatMap f=(xs.take i).flatMap f++(f X++(xs.drop (i + 1)).flatMap f):=by
     rw [← List.flatMap_cons,← hdrop,← List.flatMap_append,List.take_append_drop]
    rw [hpre,e]
    simp only [List.append_assoc]
   ·exact ih (i + 1) Z₃ s₃ s₀' (os hk) hlt (S₁.trans (S₃.down fun qa p=>.inl p)) R₃ (W.frame _ _ _ hst₁ fun b hb o e=>(hfp b hb).elim (fun x=>S₃.keepP b o (.inr x) (offT b x) e) fun z=>S₃.keepZ b o (.inl (S'.grow b z)) e)
 intro s₀
 have:=main xs.length 0 Z s s₀ (Nat.sub_zero _) (Nat.zero_le _) (Step.refl ..) R₁ hst
 rw [List.drop_zero] at this
 exact this
end
end Mine
end
noncomputable section
namespace Mine
open PySem PySem.SeqAt
section
variable {c:Cx} {A:Around} {cenv:Env} {σ:St} {Z P:Addr→Prop}
theorem seqL {target:Expr} {s:Shared} {xs:List V} {v:Value} (ht:plainTarget target=true) (hZ:∀ b,Z b→∃ o,s.heap.get? b=some o) (r:Rd c Z s.heap (.lst xs) v) {Q:Value→Shared→Prop} {E:Value→Shared→Prop}
  (hQ:∀ (h':Heap) (I:Addr) (fp:List Addr) (Stt:Nat→Heap→Prop),Kp s.heap h'→s.heap.get? I=none→(∀ b∈fp,b=I∨Z b)→Stt 0 h'→(∀ A₂,AOk A₂→Iter c A₂ target I fp xs Stt Z h')→Q (.ref I) { s with heap:=h' }):wpAny c.M A (pyIter v) Q E s:=by
 refine Rd.lst_elim r fun a items z i r=>?_
 have hl:=i.isList
 have hne:a≠s.heap.objs.size:=by
  refine E12 hl fun o ho qa=>?_
  exact Nat.ne_of_lt (Heap.lt_size ho)
 refine wpAny_pyIter_list hl (hQ _ s.heap.objs.size [s.heap.objs.size,a] (fun i h=>h.IsListIter s.heap.objs.size a i∧h.IsList a items) (Kp.push _ _) (fresh_none _ _ (Nat.le_refl _)) ?_ ⟨(I13 _ (Heap.get?_push_size _ rfl) rfl rfl),hl.push _⟩ fun A₂ hA=>?_)
 ·intro b hb
  rcases List.mem_cons.mp hb with rfl | hb
  ·exact .inl rfl
  ·exact .inr ((List.mem_singleton.mp hb)▸z)
 ·refine Iter.ofWalks (T:="list_iterator") (Walks.list hA.handled _ a hne items) ?_ ?_ ht (by decide) ?_ ?_
  ·have:=r.length; simpa using this.symm
  ·rintro i h ⟨⟨o,ho,hc,_⟩,_⟩; exact (I12 o ho hc)
  ·intro i v hv
   refine E12 (r.get' i v (by simpa using hv)) fun X hX rX=>?_
   exact (I12 X hX (rX.kp (Kp.push _ _)))
  ·intro z; obtain ⟨o,ho⟩:=hZ _ z; exact absurd (Heap.lt_size ho) (Nat.lt_irrefl _)
theorem over0 (A:Around) (e:Expr) (gs:List Comprehension) (scope:Scope) (pos:Pos) (it acc:Value) (env:Env):(A.over (.compLoop (.GeneratorExp e gs scope pos) 0 it acc env) []).handled=A.handled∧(A.over (.compLoop (.GeneratorExp e gs scope pos) 0 it acc env) []).depth=A.depth + 1∧(A.over (.compLoop (.GeneratorExp e gs scope pos) 0 it acc env) []).units=A.units + 3:=⟨rfl,rfl,rfl⟩
theorem over1 (A:Around) (e:Expr) (gs:List Comprehension) (scope:Scope) (pos p:Pos) (it acc it':Value) (env:Env) (k:Result→Sem PySem.Fin) (g:Bool) (l:List Value):(A.over (.compLoop (.GeneratorExp e gs scope pos) 1 it acc env) [.ret k none g l (.compLoop (.GeneratorExp e gs scope pos) 0 it' acc env) p []]).handled=A.handled∧(A.over (.compLoop (.GeneratorExp e gs scope pos) 1 it acc env) [.ret k none g l (.compLoop (.GeneratorExp e gs scope pos) 0 it' acc env) p []]).depth≤A.depth + 2∧(A.over (.compLoop (.GeneratorExp e gs scope pos) 1 it acc env) [.ret k none g l (.compLoop (.GeneratorExp e gs scope pos) 0 it' acc env) p []]).units≤A.units + 10:=⟨rfl,by first | exact Nat.le_refl (A.depth + 2) | (show A.depth + 1 + 0≤A.depth + 2; omega) | (show A.depth + 1 + 1≤A.depth + 2; omega),by first | (show A.units + 3 + 3≤A.units + 10; omega) | (show A.units + 3 + 0≤A.units + 10; omega) | (show A.units + 3 + 1≤A.units + 10; omega) | (show A.units + 3 + 2≤A.units + 10; omega) | (show A.units + 3 + 4≤A.units + 10; omega)⟩
theorem over1S (A:Around) (e:Expr) (gs:List Comprehension) (scope:Scope) (pos p:Pos) (it acc it':Value) (env:Env) (k:Result→Sem PySem.Fin) (g:Bool) (l:List Value):(A.over (.compStart (.GeneratorExp e gs scope pos) 1 it acc env) [.ret k none g l (.compLoop (.GeneratorExp e gs scope pos) 0 it' acc env) p []]).handled=A.handled∧(A.over (.compStart (.GeneratorExp e gs scope pos) 1 it acc env) [.ret k none g l (.compLoop (.GeneratorExp e gs scope pos) 0 it' acc env) p []]).depth≤A.depth + 2∧(A.over (.compStart (.GeneratorExp e gs scope pos) 1 it acc env) [.ret k none g l (.compLoop (.GeneratorExp e gs scope pos) 0 it' acc env) p []]).units≤A.units + 10:=⟨rfl,by first | exact Nat.le_refl (A.depth + 2) | (show A.depth + 1 + 0≤A.depth + 2; omega) | (show A.depth + 1 + 1≤A.depth + 2; omega),by first | (show A.units + 3 + 3≤A.units + 10; omega) | (show A.units + 3 + 0≤A.units + 10; omega) | (show A.units + 3 + 1≤A.units + 10; omega) | (show A.units + 3 + 2≤A.units + 10; omega) | (show A.units + 3 + 4≤A.units + 10; omega)⟩
theorem denG_one {elt target iter:Expr} {scope:Scope} {pos:Pos} {it:Value}:c.M.den (.compLoop (.GeneratorExp elt [⟨target,iter,[],0⟩] scope pos) 0 it .none cenv)=Sem.onRaise (turnTree it iter.pos target [] cenv (do (do let v ← eval elt cenv; standAt elt.pos; let _ ← yieldOut cenv v); again (.compLoop (.GeneratorExp elt [⟨target,iter,[],0⟩] scope pos) 0 it .none cenv)) (.compLoop (.GeneratorExp elt [⟨target,iter,[],0⟩] scope pos) 0 it .none cenv)) (leaving cenv):=by
 rw [← turnG_one]; rfl
theorem denG_snd {elt target iter target' iter':Expr} {scope:Scope} {pos:Pos} {it:Value}:c.M.den (.compLoop (.GeneratorExp elt [⟨target,iter,[],0⟩,⟨target',iter',[],0⟩] scope pos) 1 it .none cenv)=Sem.onRaise (turnTree it iter'.pos target' [] cenv (do (do let v ← eval elt cenv; standAt elt.pos; let _ ← yieldOut cenv v); again (.compLoop (.GeneratorExp elt [⟨target,iter,[],0⟩,⟨target',iter',[],0⟩] scope pos) 1 it .none cenv)) (.compLoop (.GeneratorExp elt [⟨target,iter,[],0⟩,⟨target',iter',[],0⟩] scope pos) 1 it .none cenv)) (fun x=>do noteFrame x cenv; theTreesLotGoes x):=by
 rw [← turnG_snd]; rfl
@[reducible] noncomputable def gE (elt target iter target' iter':Expr) (scope:Scope) (pos:Pos):Expr:=.GeneratorExp elt [⟨target,iter,[],0⟩,⟨target',iter',[],0⟩] scope pos
section
variable {g:GX} {elt target iter target' iter':Expr} {scope:Scope} {pos p:Pos} {I J:Addr} {bs rest:List Bool} {τ₂:St} {s:Shared} {k:Result→Sem PySem.Fin} {xs':List V}
theorem map_fm (b':V→Bool):∀ xs:List V,xs.map b'=xs.flatMap fun Y=>[b' Y]
 | []=>rfl
 | a::l=>by rw [List.map_cons,List.flatMap_cons,map_fm b' l]; rfl
theorem seg_snd {fp:List Addr} {Stt:Nat→Heap→Prop} (b':V→Bool) (hA2:∀ A':Around,A'.handled=A.handled→A'.depth≤A.depth + 2→A'.units≤A.units + 10→AOk A') (hP:∀ x,g.P x→P x) (hT:∀ q∈tabs,g.P q.2)
  (hco:cenv.scope.isCoroutine=false) (hall:∃ pre,g.all=pre++(xs'.map b'++rest))
  (W:∀ A₂,AOk A₂→Iter g.c A₂ target' J fp xs' Stt Z s.heap) (hfp:∀ b∈fp,b=J∨Z b) (hst:Stt 0 s.heap)
  (R:Rel g.c Z P cenv τ₂ s.heap) (hPI:¬ P J) (hZI:¬ Z J) (hOI:¬ OwnA cenv J) (hHI:∀ o,(J,o)∉τ₂.hp) (S:Step g.Z g.P (cr g.s) Z (cr s))
  (hturn:∀ A',∀ Y∈xs',WA g.c A' cenv τ₂ target' Y fun τ₃=>WE g.c A' cenv τ₃ elt fun V σ'=>V=.bool (b' Y)∧σ'.le τ₂)
  (fin:Goes g A cenv P τ₂ (.compLoop (gE elt target iter target' iter' scope pos) 0 (.ref I) .none cenv) (k (.ok .next)) [] rest Z s) (s₀:Shared) :
  Seg g.c.M A g.R g.Y (xs'.map b'++rest).length s₀ (.compStart (gE elt target iter target' iter' scope pos) 1 (.ref J) .none cenv) (g.c.M.den (.compStart (gE elt target iter target' iter' scope pos) 1 (.ref J) .none cenv)) [.ret k none false [] (.compLoop (gE elt target iter target' iter' scope pos) 0 (.ref I) .none cenv) p []] s:=by
 have ov:=over1 A elt [⟨target,iter,[],0⟩,⟨target',iter',[],0⟩] scope pos p (.ref J) .none (.ref I) cenv k false []
 have ovS:=over1S A elt [⟨target,iter,[],0⟩,⟨target',iter',[],0⟩] scope pos p (.ref J) .none (.ref I) cenv k false []
 have hA:=hA2 _ ov.1 ov.2.1 ov.2.2
 rw [map_fm] at hall ⊢
 have loop:=seg_loop (g:=g) (A:=A) (cenv:=cenv) (P:=P) (Z:=Z) (σ:=τ₂) (s:=s) (I:=J) (xs:=xs') (fs:=[.ret k none false [] (.compLoop (gE elt target iter target' iter' scope pos) 0 (.ref I) .none cenv) p []]) (tail:=rest) (fun Y=>[b' Y])
  denG_snd hA (W _ hA) hfp hst R hPI hZI hOI hHI hP S hall
  (fun Y hY=>WA.imp (hturn _ Y hY) fun τ₃ h₃ rest' Zb sb Sb hall' hn=>goes_elt hA (fun x p=>.inl (hP x p)) hT hco rfl rfl hall' rfl h₃ Sb hn)
  (fun Z' s' s₀' S' R'=>seg_leaf (.ok .next) (fin Z' s' s₀' S' R')) s₀
 show Seg _ A _ _ _ s₀ _ ((compStart (gE elt target iter target' iter' scope pos) 1 (.ref J) .none cenv).onRaise _) _ s
 unfold compStart
 rw [Sem.onRaise_eq_wrap]
 show Seg _ A _ _ _ s₀ _ ((ask >>= _).wrap _ _ _ _) _ s
 refine seg_bind_wrap (wpAny_askSetting ?_)
 split
 ·exact seg_again rfl loop
 ·refine seg_bind_wrap (wpAny_rule ?_)
  show Seg _ A _ _ _ s₀ _ ((standAt iter'.pos >>= _).wrap _ _ _ _) _ s
  exact seg_bind_wrap (wpAny_standAt (seg_bind_wrap ((W _ (hA2 _ ovS.1 ovS.2.1 ovS.2.2)).self 0 s _ _ hst (seg_again rfl loop))))
theorem goes_fst {Zb:Addr→Prop} {sb:Shared} {σ τ:St} {N:Value→Sem Unit} (hA2:∀ A':Around,A'.handled=A.handled→A'.depth≤A.depth + 2→A'.units≤A.units + 10→AOk A') (hP:∀ x,g.P x→P x) (hT:∀ q∈tabs,g.P q.2)
  (hco:cenv.scope.isCoroutine=false) (hall:∃ pre,g.all=pre++(bs++rest)) (ht:plainTarget target'=true) (hs:∀ x,foldedSetIterable iter' cenv x=pure x)
  (h:WE g.c (A.over (.compLoop (gE elt target iter target' iter' scope pos) 0 (.ref I) .none cenv) []) cenv τ iter' fun X τ₁=>∃ xs' b' τ₂,X=.lst xs'∧bs=xs'.map b'∧τ₁.le τ₂∧τ₂.le σ ∧
   ∀ A',∀ Y∈xs',WA g.c A' cenv τ₂ target' Y fun τ₃=>WE g.c A' cenv τ₃ elt fun V σ'=>V=.bool (b' Y)∧σ'.le τ₂)
  (Sb:Step g.Z g.P (cr g.s) Zb (cr sb)) (hn:Goes g A cenv P σ (.compLoop (gE elt target iter target' iter' scope pos) 0 (.ref I) .none cenv) (g.c.M.den (.compLoop (gE elt target iter target' iter' scope pos) 0 (.ref I) .none cenv)) [] rest Zb sb) :
  Goes g A cenv P τ (.compLoop (gE elt target iter target' iter' scope pos) 0 (.ref I) .none cenv) (Sem.onRaise (do
    let x ← eval iter' cenv
    standAt iter'.pos
    let x ← foldedSetIterable iter' cenv x
    let _ ← runOwn (.compStart (gE elt target iter target' iter' scope pos) 1 (← holding [x] (pyIter x)) .none cenv) cenv
    again (.compLoop (gE elt target iter target' iter' scope pos) 0 (.ref I) .none cenv)) N) [] (bs++rest) Zb sb:=by
 intro Z s s₀ S R
 have o0:=over0 A elt [⟨target,iter,[],0⟩,⟨target',iter',[],0⟩] scope pos (.ref I) .none cenv
 rw [Sem.onRaise_eq_wrap]
 refine seg_bind_wrap (wp_then h (hA2 _ o0.1 (by rw [o0.2.1]; omega) (by rw [o0.2.2]; omega)) R fun Z₁ s₁ X τ₁ v S₁ R₁ r₁ kk=>?_)
 obtain ⟨xs',b',τ₂,rfl,hbs,hle,hle',hturn⟩:=kk
 refine seg_bind_wrap (wpAny_standAt ?_)
 refine seg_bind_wrap (wpAny_of_eq (hs v) ?_)
 refine seg_bind_wrap (wpAny_holding (seqL ht R₁.inv.exZ r₁ fun h' J fp Stt hk hJ hfp hst W=>?_))
 have R₂:Rel g.c Z₁ P cenv τ₂ h':=(R₁.kp hk).le hle
 have R₁':=R₁.le hle
 have S₂:Step Zb P (cr sb) Z₁ (cr { s₁ with heap:=h' }):=(S.trans S₁).trans (Step.kp hk)
 rw [hbs] at hall ⊢
 refine seg_call fun p=>seg_snd b' hA2 hP hT hco hall W hfp hst R₂ (fun x=>?_) (fun z=>?_) (fun o=>?_) (fun o ho=>?_) (Sb.trans (S₂.down hP)) hturn (fun Z₃ s₃ s₀' S₃ R₃=>seg_again rfl (hn Z₃ s₃ s₀' (S₂.trans S₃) (R₃.le hle'))) s₀
 ·obtain ⟨o,e⟩:=R₁.inv.exP _ x; rw [hJ] at e; cases e
 ·obtain ⟨o,e⟩:=R₁.inv.exZ _ z; rw [hJ] at e; cases e
 ·obtain ⟨o,e⟩:=R₁.exOwn o; rw [hJ] at e; cases e
 ·obtain ⟨ob,e⟩:=(R₁'.hp.obj _ o ho).1.some; rw [hJ] at e; cases e
end
end
end Mine
end
noncomputable section
namespace Mine
open PySem PySem.SeqAt
section
variable {c:Cx} {A:Around} {env:Env} {σ:St} {Z P:Addr→Prop}
noncomputable def HeldP (env:Env) (σ:St) (P:Addr→Prop) (b:Addr):Prop:=P b∨OwnA env b∨∃ o,(b,o)∈σ.hp
theorem Rel.heldT {h:Heap} (R:Rel c Z P env σ h) {b:Addr} (n:OwnA env b∨∃ o,(b,o)∈σ.hp):¬ isT b:=R.inv.nT (n.elim (fun hb=>(R.own b hb).2) fun ⟨o,hb⟩=>(R.hp.obj b o hb).2.2)
theorem Rel.heldEx {h:Heap} (R:Rel c Z P env σ h) {b:Addr} (n:HeldP env σ P b):∃ o,h.get? b=some o :=
 n.elim (R.inv.exP b) fun n=>n.elim R.exOwn fun ⟨o,hb⟩=>(R.hp.obj b o hb).1.some
theorem Rel.heldZ {h:Heap} (R:Rel c Z P env σ h) {b:Addr} (z:Z b):¬ HeldP env σ P b:=fun n =>
 n.elim (R.inv.off b z) fun n=>n.elim (fun o=>(R.own b o).1 z) fun ⟨o,hb⟩=>(R.hp.obj b o hb).2.1 z
theorem Rel.back {h h':Heap} {x x':Array GenState×OsState} {Z' P':Addr→Prop} (R:Rel c Z P env σ h) (S:Step Z P' (h,x) Z' (h',x')) (I:Inv c Z' P' h') (hP:∀ b,HeldP env σ P b→P' b):Rel c Z' P env σ h':=by
 have hkN:∀ b o,(OwnA env b∨∃ o,(b,o)∈σ.hp)→h.get? b=some o→h'.get? b=some o:=fun b o n e=>S.keepP b o (hP b (.inr n)) (R.heldT n) e
 exact {
  inv:=I.down (fun b p=>hP b (.inl p)) R.inv.tp
  fn:=R.fn
  gl:=R.gl
  bl:=R.bl
  ns:=let ⟨m,o,es,ep,ho,q⟩:=R.ns; (I42 m o es ep (hkN _ _ (.inl (.inl rfl)) ho) q)
  cells:=fun x hx=>let ⟨cl,v,h1,⟨o,ho,q⟩⟩:=R.cells x hx; (I22 cl v h1 (I12 o (hkN _ _ (.inl (.inr (I12 x hx h1))) ho) q))
  inj:=R.inj
  cellL:=R.cellL
  freeP:=R.freeP
  own:=fun b hb=>⟨fun z=>I.off b z (hP b (.inr (.inl hb))),(R.own b hb).2⟩
  vars:=fun x Y e=>by
   refine E12 (R.vars x Y e) fun u hu ru=>?_
   refine (I12 u ?_ (ru.keep S.grow S.keepZ))
   rcases hu with ⟨k1,m,⟨o,es,ep,ho,q⟩,hm1⟩ | ⟨k1,cl,h1,⟨o,ho,q⟩⟩
   ·exact .inl (I02 k1 (I12 m (I32 o es ep (hkN _ _ (.inl (.inl rfl)) ho) q) hm1))
   ·refine .inr (I02 k1 (I12 cl h1 (I12 o ?_ q)))
    rcases k1 with k1 | k1
    ·exact hkN _ _ (.inl (.inr (I12 x k1 h1))) ho
    ·exact S.keepP _ _ (hP _ (.inl (R.freeP x cl k1 h1))) (R.inv.nTc ⟨o,ho,q⟩) ho
  hp:=⟨fun b o hb=>(I03 ((R.hp.obj b o hb).1.keep S.grow S.keepZ (fun o' e=>hkN b o' (.inr ⟨o,hb⟩) e)) (fun z=>I.off b z (hP b (.inr (.inr ⟨o,hb⟩)))) ((R.hp.obj b o hb).2.2)),R.hp.nodup⟩
  hpOff:=R.hpOff }
theorem gen_code {s:Shared} {q:Addr×Addr} {pos:Pos} {qn:Str} {scope:Scope} {Q:Value→Shared→Prop} {E:Value→Shared→Prop} (hc:env.code=.ref q.1) (ht:IsTab s.heap q)
  (hQ:∀ code h' tk,(∀ b o,b≠q.2→s.heap.get? b=some o→h'.get? b=some o)→IsTab h' q→Q code { s with heap:=h',toks:=tk }):wpAny c.M A (genexprCode env pos qn scope) Q E s:=by
 obtain ⟨ps,h1,h2⟩:=ht
 cases e:codeAmong pos ps.toList with
 | some cv=>exact wpAny_genexprCode_hit hc h1 e (hQ cv s.heap s.toks (fun qa qb qc e=>e) ⟨ps,h1,h2⟩)
 | none=>exact wpAny_genexprCodeX hc h1 h2 e fun c' h' tk hk qa qb k1 qc k2 qd=>hQ _ h' tk (fun b o n e=>hk b o n e) ⟨_,k1,k2⟩
structure BltOk (c:Cx):Prop where
 ex:∃ bm o,c.mg "__builtins__" = some (.ref bm)∧bm≠builtinsNs∧c.G.get? bm=some o∧o.cls=.type "module" ∧ o.dict=some builtinsNs∧o.data=.plain
theorem closL_lookup {scope:Scope} {h:Heap} (O:CompOk scope env) (hcells:∀ x,env.kindOf x=some .cell→∃ cl v,env.cells.lookup x=some cl∧h.IsCell cl v) {x:Str} (hx:scope.names.lookup x=some .free) :
  (closL env scope.names []).lookup x=env.cells.lookup x:=by
 have hm:=PySem.mem_of_lookup hx
 refine E22 (hcells x (O.free (x,.free) hm rfl)) fun cl v h1 qa=>?_
 obtain ⟨a,ha⟩:=closL_has (env:=env) scope.names [] x (.inl hm)
 obtain ⟨b,hb⟩:=exists_lookup ha
 rw [hb]
 rcases closL_mem _ _ _ _ (PySem.mem_of_lookup hb) with h | h
 ·cases h
 ·rw [h.2,h1]; rfl
theorem tab_inj:∀ q'∈tabs,∀ q∈tabs,q'.2=q.2→q'=q:=by decide
theorem Rel.genIn {scope:Scope} {h h':Heap} {q:Addr×Addr} {C a:Addr} {code it:Value} (R:Rel c Z P env σ h) (O:CompOk scope env) (hcell:∀ y∈scope.names,y.2≠.cell) (hq:q∈tabs)
  (hk:∀ b o,b≠q.2→h.get? b=some o→h'.get? b=some o) (ht:IsTab h' q) (hC:h.get? C=none) (ha:h.get? a=none) (haC:a≠C) (hns:h'.Ns C fun y=>if y = ".0" then some it else none) (hae:∃ o,h'.get? a=some o) :
  Rel c Z (fun b=>HeldP env σ P b∨b=a) (genEnv scope (closL env scope.names []) C code builtinsNs env) ⟨capsOf scope σ.loc,[]⟩ h'∧∀ x,Step Z (fun b=>HeldP env σ P b∨b=a) (h,x) Z (h',x):=by
 have hZ:∀ b o,Z b→h.get? b=some o→h'.get? b=some o:=fun b o z e=>hk b o (fun x=>R.inv.off b z (x▸R.inv.tp q hq)) e
 have hP:∀ b o,¬ isT b→h.get? b=some o→h'.get? b=some o:=fun b o n e=>hk b o (fun x=>n ⟨q,hq,x.symm⟩) e
 have nC:¬ Z C∧¬ HeldP env σ P C:=⟨fun z=>by (obtain ⟨o,e⟩:=R.inv.exZ _ z; rw [hC] at e; cases e),fun n=>by (obtain ⟨o,e⟩:=R.heldEx n; rw [hC] at e; cases e)⟩
 have na:¬ Z a:=fun z=>by obtain ⟨o,e⟩:=R.inv.exZ _ z; rw [ha] at e; cases e
 have hT:∀ q'∈tabs,IsTab h q'→IsTab h' q':=fun q' hq' t=>by
  by_cases e:q'=q
  ·subst e; exact ht
  ·refine t.at (fun o e'=>hZ _ o (R.inv.tab q' hq').1 e') (fun o e'=>hk _ o (fun x=>e (tab_inj q' hq' q hq x)) e')
 have hkn:∀ x,(genEnv scope (closL env scope.names []) C code builtinsNs env).kindOf x=scope.names.lookup x:=fun qa=>rfl
 refine ⟨{
  inv:=⟨fun b o e=>⟨(R.inv.ground b o e).1,hZ b o (R.inv.ground b o e).1 (R.inv.ground b o e).2⟩,fun b z=>let ⟨o,e⟩:=R.inv.exZ b z; ⟨o,hZ b o z e⟩,
   fun b p=>p.elim (fun n=>?_) fun e=>e▸hae,fun b z p=>p.elim (R.heldZ z) fun e=>na (e▸z),R.inv.sys,R.inv.top,fun q' hq'=>.inl (.inl (R.inv.tp q' hq')),fun q' hq'=>⟨(R.inv.tab q' hq').1,hT q' hq' (R.inv.tab q' hq').2⟩⟩
  fn:=O.fn
  gl:=R.gl
  bl:=rfl
  ns:=⟨_,hns⟩
  cells:=fun x hx=>?_
  inj:=fun x y cl hx=>?_
  cellL:=fun x cl hx=>?_
  freeP:=fun x cl hx h1=>?_
  own:=fun b hb=>?_
  vars:=fun x X e=>?_
  hp:=⟨fun b o hb=>(List.not_mem_nil hb).elim,List.nodup_nil⟩
  hpOff:=fun b o hb=>(List.not_mem_nil hb).elim },fun x=>⟨fun qa z=>z,fun b o z e=>hZ b o z e,fun b o p n e=>hP b o n e,fun q' hq' t=>hT q' hq' t,rfl,GB.refl _⟩⟩
 ·obtain ⟨o,e⟩:=R.heldEx n
  by_cases hb:b=q.2
  ·subst hb; obtain ⟨ps,t⟩:=ht.obj; exact ⟨_,t⟩
  ·exact ⟨o,hk b o hb e⟩
 ·rw [hkn] at hx; exact absurd rfl (hcell _ (PySem.mem_of_lookup hx))
 ·rw [hkn] at hx; exact absurd rfl (hcell _ (PySem.mem_of_lookup hx))
 ·rw [hkn] at hx; exact absurd rfl (hcell _ (PySem.mem_of_lookup hx))
 ·rw [hkn] at hx
  have h2:env.cells.lookup x=some cl:=(closL_lookup O R.cells hx).symm.trans h1
  exact .inl (.inr (.inl (.inr ⟨x,O.free (x,.free) (PySem.mem_of_lookup hx) rfl,h2⟩)))
 ·rcases hb with rfl | ⟨x,hx,_⟩
  ·exact ⟨nC.1,fun p=>p.elim nC.2 fun e=>haC e.symm⟩
  ·rw [hkn] at hx; exact absurd rfl (hcell _ (PySem.mem_of_lookup hx))
 ·rw [lookup_caps] at e
  by_cases hs:scope.names.lookup x=some .free
  ·rw [if_pos hs] at e
   refine E12 (R.vars x X e) fun v hv r=>?_
   have hkx:=O.free (x,.free) (PySem.mem_of_lookup hs) rfl
   refine (I12 v (.inr ⟨.inr ((hkn x).trans hs),?_⟩) (r.keep (fun qa z=>z) hZ))
   rcases hv with ⟨k1,_⟩ | ⟨_,cl,h1,o,ho,q'⟩
   ·rw [hkx] at k1; cases k1
   ·exact (I12 cl ((closL_lookup O R.cells hs).trans h1) (I12 o (hP _ o (R.inv.nTc ⟨o,ho,q'⟩) ho) q'))
  ·rw [if_neg hs] at e; cases e
end
end Mine
end
noncomputable section
namespace Mine
open PySem PySem.SeqAt
section
variable {A:Around} {g:GX} {a:Addr} {gn:Nat} {rest:List Bool} {s:Shared}
structure GnA (g:GX) (A:Around) (gn:Nat) (rest:List Bool) (s:Shared):Prop where
 at_:g.At s
 suf:∃ pre,g.all=pre++rest
 go:∃ gs,s.gens[gn]?=some gs∧∀ s'',Sm s s''→gs.Goes g.c.M A.in1 g.R g.Y rest.length (.send .none) s''
theorem Sm.refl (s:Shared):Sm s s:=⟨rfl,rfl,GB.refl _⟩
theorem Sm.setGen {s:Shared} {x:GenState} (hx:x.bare=true):Sm s (s.setGen gn x):=⟨rfl,rfl,by simp [Shared.setGen],fun h=>by
 intro y hy
 obtain ⟨i,hi,rfl⟩:=Array.mem_iff_getElem.mp hy
 simp only [Shared.setGen] at hi ⊢
 rw [Array.getElem_setIfInBounds (by simpa using hi)]
 split
 ·exact hx
 ·exact h _ (Array.getElem_mem (by simpa using hi))⟩
theorem GX.At.sm {s s':Shared} (h:g.At s) (x:Sm s s'):g.At s':=let ⟨Z',S,I⟩:=h; ⟨Z',S.trans x.step,x.heap▸I⟩
theorem GX.At.kp {s:Shared} {h':Heap} (h:g.At s) (hk:Kp s.heap h'):g.At { s with heap:=h' }:=let ⟨Z',S,I⟩:=h; ⟨Z',S.trans (Step.kp hk),I.kp hk⟩
theorem ga_next (hh:A.handled=none) (hroom:A.depth < recursionLimit) (gen0:g.s.heap.IsGen a gn) (hPa:g.P a) (hTa:¬ isT a) (hsz:gn < g.s.gens.size) (G:GnA g A gn rest s) {Q:Option Value→Shared→Prop} {E:Value→Shared→Prop}
  (h1:∀ b rest' s',rest=b::rest'→GnA g A gn rest' s'→Q (some (.bool b)) s') (h0:∀ s',rest=[]→g.At s'→Q none s'):wpAny g.c.M A (pyNext (.ref a)) Q E s:=by
 obtain ⟨Z',S,I⟩:=G.at_
 obtain ⟨gs,hgs,hgo⟩:=G.go
 have hg:s.heap.IsGen a gn:=let ⟨o,nm,qn,ho,r⟩:=gen0; ⟨o,nm,qn,S.keepP a o hPa hTa ho,r⟩
 refine wpAny_pyNext_genexpQ (P:=fun n qa s=>n=0∧g.At s) hh (I.top.nolimit.keeps fun b o e=>(I.ground b o e).2) hroom hg hgs (hgo _ (Sm.setGen rfl)) (fun v s₁ gs' hb hv=>?_) (fun s₁ hp h' hk=>?_)
 ·obtain ⟨pre,b,post,hall,hlen,rfl,hat,hkap⟩:=hv
  obtain ⟨pre0,hsuf⟩:=G.suf
  cases rest with
  | nil=>exact (hkap s₁ (Sm.refl _)).elim
  | cons b0 rest' =>
   have e:b::post=b0::rest':=List.append_inj_right' (hall.symm.trans hsuf) (by simpa using hlen)
   injection e with e1 e2
   subst e1; subst e2
   refine h1 b post _ rfl ⟨hat.sm (Sm.setGen hb),⟨pre++[b],by rw [hall]; simp⟩,gs',?_,fun s'' hs=>hkap s'' ?_⟩
   ·obtain ⟨_,S₁,_⟩:=hat
    have:=S₁.gens.size
    have hlt:gn < s₁.gens.size:=Nat.lt_of_lt_of_le hsz this
    simp [Shared.setGen,hlt]
   ·exact ⟨hs.heap,hs.os,(Sm.setGen (s:=s₁) (gn:=gn) hb).gens.trans hs.gens⟩
 ·obtain ⟨hn,hat⟩:=hp
  refine h0 _ (List.eq_nil_of_length_eq_zero hn) ?_
  exact GX.At.kp (s:=s₁.setGen gn .finished) (hat.sm (Sm.setGen rfl)) hk
theorem any_loop (hh:A.handled=none) (hroom:A.in1.depth < recursionLimit) (gen0:g.s.heap.IsGen a gn) (hPa:g.P a) (hTa:¬ isT a) (hsz:gn < g.s.gens.size) {R:Result→Shared→Prop}:∀ (rest:List Bool) (s:Shared),GnA g A.in1 gn rest s →
  (∀ s',g.At s'→R (.ok (.ret (.bool (rest.any id)))) s')→codeAny g.c.M A (.builtin "any.loop" ⟨[.ref a],[]⟩) R s:=by
 intro rest
 induction rest with
 | nil =>
  intro s G hR
  refine codeAny_builtin F.entry_any_loop ?_
  rw [Around.under_plainId F.plain_any_loop _]
  show wpAny _ A.in1 (pyNext (.ref a) >>= _) _ _ s
  refine wpAny_bind (ga_next (A:=A.in1) hh hroom gen0 hPa hTa hsz G (fun b rest' s' e=>nomatch e) fun s' qa h=>?_)
  exact wpAny_bind (wpAny_rule (wpAny_pure (hR s' h)))
 | cons b0 l ih =>
  intro s G hR
  refine codeAny_builtin F.entry_any_loop ?_
  rw [Around.under_plainId F.plain_any_loop _]
  show wpAny _ A.in1 (pyNext (.ref a) >>= _) _ _ s
  refine wpAny_bind (ga_next (A:=A.in1) hh hroom gen0 hPa hTa hsz G (fun b rest' s' e G'=>?_) fun s' e=>nomatch e)
  injection e with e1 e2
  subst e1; subst e2
  refine wpAny_bind (wpAny_holding (wpAny_truthy_bool ?_))
  refine wpAny_bind (wpAny_letGo ?_)
  cases b0 with
  | false =>
   simp only [Bool.false_eq_true,if_false]
   exact wpAny_pure ⟨plainId_quiet F.plain_any_loop _,ih s' G' hR⟩
  | true =>
   simp only [if_true]
   exact wpAny_bind (wpAny_rule (wpAny_pure (hR s' G'.at_)))
theorem all_loop (hh:A.handled=none) (hroom:A.in1.depth < recursionLimit) (gen0:g.s.heap.IsGen a gn) (hPa:g.P a) (hTa:¬ isT a) (hsz:gn < g.s.gens.size) {R:Result→Shared→Prop}:∀ (rest:List Bool) (s:Shared),GnA g A.in1 gn rest s →
  (∀ s',g.At s'→R (.ok (.ret (.bool (rest.all id)))) s')→codeAny g.c.M A (.builtin "all.loop" ⟨[.ref a],[]⟩) R s:=by
 intro rest
 induction rest with
 | nil =>
  intro s G hR
  refine codeAny_builtin F.entry_all_loop ?_
  rw [Around.under_plainId F.plain_all_loop _]
  show wpAny _ A.in1 (pyNext (.ref a) >>= _) _ _ s
  refine wpAny_bind (ga_next (A:=A.in1) hh hroom gen0 hPa hTa hsz G (fun b rest' s' e=>nomatch e) fun s' qa h=>?_)
  exact wpAny_bind (wpAny_rule (wpAny_pure (hR s' h)))
 | cons b0 l ih =>
  intro s G hR
  refine codeAny_builtin F.entry_all_loop ?_
  rw [Around.under_plainId F.plain_all_loop _]
  show wpAny _ A.in1 (pyNext (.ref a) >>= _) _ _ s
  refine wpAny_bind (ga_next (A:=A.in1) hh hroom gen0 hPa hTa hsz G (fun b rest' s' e G'=>?_) fun s' e=>nomatch e)
  injection e with e1 e2
  subst e1; subst e2
  refine wpAny_bind (wpAny_holding (wpAny_truthy_bool ?_))
  refine wpAny_bind (wpAny_letGo ?_)
  cases b0 with
  | true =>
   simp only [if_true]
   exact wpAny_pure ⟨plainId_quiet F.plain_all_loop _,ih s' G' hR⟩
  | false =>
   simp only [Bool.false_eq_true,if_false]
   exact wpAny_bind (wpAny_rule (wpAny_pure (hR s' G'.at_)))
end
end Mine
end
noncomputable section
namespace Mine
open PySem PySem.SeqAt
section
variable {c:Cx} {A:Around} {env:Env} {σ:St} {Z P:Addr→Prop}
structure Made (c:Cx) (P:Addr→Prop) (env:Env) (e:Expr) (target:Expr) (scope:Scope) (xs:List V) (σ₁:St) (Z₁:Addr→Prop) (s₁:Shared) (I C a:Addr) (gn:Nat) (code:Value) (fp:List Addr) (Stt:Nat→Heap→Prop) (s₅:Shared):Prop where
 step:Step Z₁ (fun b=>HeldP env σ₁ P b∨b=a) (cr s₁) Z₁ (cr s₅)
 rel:Rel c Z₁ (fun b=>HeldP env σ₁ P b∨b=a) (genEnv scope (closL env scope.names []) C code builtinsNs env) ⟨capsOf scope σ₁.loc,[]⟩ s₅.heap
 st:Stt 0 s₅.heap
 it:∀ A₂,AOk A₂→Iter c A₂ target I fp xs Stt Z₁ s₅.heap
 fp:∀ b∈fp,b=I∨Z₁ b
 notP:¬ (HeldP env σ₁ P I∨I=a)
 notZ:¬ Z₁ I
 notC:I≠C
 gen:s₅.heap.IsGen a gn
 gens:s₅.gens[gn]?=some (.fresh (.compStart e 0 (.ref I) .none (genEnv scope (closL env scope.names []) C code builtinsNs env)))
 notT:¬ isT a
theorem gen_new {elt:Expr} {gc:Comprehension} {gs:List Comprehension} {scope:Scope} {pos:Pos} {q:Addr×Addr} {s:Shared} (hq:q∈tabs) (hc:env.code=.ref q.1) (hB:BltOk c) (OK:CompOk scope env) (hco:scope.isCoroutine=false) (hcell:∀ y∈scope.names,y.2≠.cell)
  (h0:scope.names.lookup (".0" : Str)=some NameKind.local) (hA:AOk A) (R:Rel c Z P env σ s.heap) (ht:plainTarget gc.target=true) (ha:gc.is_async=0) (hs:∀ x,genexprIterable false (gc::gs) env x=pure x) (kk:List V→St→Prop)
  (h:WE c A env σ gc.iter fun X σ₁=>∃ xs,X=.lst xs∧kk xs σ₁) {Q:Value→Shared→Prop} {E:Value→Shared→Prop}
  (hQ:∀ xs σ₁ Z₁ s₁ I C a gn code fp Stt s₅,kk xs σ₁→Step Z P (cr s) Z₁ (cr s₁)→Rel c Z₁ P env σ₁ s₁.heap→Made c P env (.GeneratorExp elt (gc::gs) scope pos) gc.target scope xs σ₁ Z₁ s₁ I C a gn code fp Stt s₅→Q (.ref a) s₅) :
  wpAny c.M A (eval (.GeneratorExp elt (gc::gs) scope pos) env) Q E s:=by
 obtain ⟨target,iter,ifs,as⟩:=gc
 simp only at ha ht
 subst ha
 rw [arm_eval_GeneratorExp]
 dsimp only
 refine wpAny_bind (wp_then h hA R fun Z₁ s₁ X σ₁ v S₁ R₁ r₁ kk=>?_)
 obtain ⟨xs,rfl,hk⟩:=kk
 refine wpAny_bind (wpAny_standAt (wpAny_bind (wpAny_of_eq (hs v) ?_)))
 refine wpAny_bind (wpAny_holding (seqL ht R₁.inv.exZ r₁ fun h₂ I fp Stt hk₂ hI hfp hst W=>?_))
 refine wpAny_bind (wpAny_enterFrame ((R₁.inv.top.nolimit.keeps fun b o e=>(R₁.inv.ground b o e).2).keeps hk₂) (by have:=hA.depth; omega) ?_)
 refine wpAny_bind (wpAny_of_eq (hclos_of R₁ OK) ?_)
 refine wpAny_bind (gen_code hc ((R₁.inv.tab q hq).2.kp hk₂) fun code h₃ tk hk₃ ht₃=>?_)
 have kp₃:∀ b o,b≠q.2→s₁.heap.get? b=some o→h₃.get? b=some o:=fun b o n e=>hk₃ b o n (hk₂ b o e)
 have hZ₃:∀ b o,Z₁ b→s₁.heap.get? b=some o→h₃.get? b=some o:=fun b o z e=>kp₃ b o (fun x=>R₁.inv.off b z (x▸R₁.inv.tp q hq)) e
 obtain ⟨bm,bo,b1,b2,b3,b4,b5,b6⟩:=hB.ex
 refine wpAny_bind (wpAny_builtinsFor (R.gl▸(R₁.inv.top.g.keeps fun b o e=>hZ₃ b o (R₁.inv.ground b o e).1 (R₁.inv.ground b o e).2)) b1 b2 (hZ₃ bm bo (R₁.inv.ground bm bo b3).1 (R₁.inv.ground bm bo b3).2) b4 b5 b6 ?_)
 have hbinds:∀ y∈([((".0" : Str),Value.ref I)]:List (Str×Value)),scope.names.lookup y.1=some NameKind.local:=fun y hy=>by
  cases List.mem_singleton.mp hy; exact h0
 refine wpAny_bind (wpAny_newFunctionEnv hcell hbinds (fun h₄ hn hs₄=>?_) OK.fn)
 rw [show (fun y:Str=>([((".0" : Str),Value.ref I)]:List (Str×Value)).reverse.lookup y)=fun y:Str=>if y=(".0" : Str) then some (Value.ref I) else none from funext fun y=>by
  by_cases hy:y = ".0"
  ·subst hy; simp
  ·have:(y == (".0" : Str))=false:=by simpa using hy
   simp [List.lookup,this,hy]] at hn
 simp only [hco,Bool.false_eq_true,if_false,newGenerator,newFields]
 refine wpAny_bind (wpAny_newGen (wpAny_bind (wpAny_mkText (wpAny_bind (wpAny_mkText (wpAny_newObj_type ?_ (by size_fits)))))))
 have hsz:h₃.objs.size≤h₄.objs.size:=by have:=hs₄.1; rw [this,Heap.size_push]; exact Nat.le_succ _
 have hsz':h₄.objs.size=h₃.objs.size + 1:=by have:=hs₄.1; rw [this,Heap.size_push]
 have k34:∀ b o,h₃.get? b=some o→h₄.get? b=some o:=fun b o e=>hs₄.extBut b o (Nat.ne_of_lt (Heap.lt_size e)) (Heap.get?_push_of_some _ e)
 have hlt:∀ b,(∃ o,s₁.heap.get? b=some o)→b < h₃.objs.size:=fun b ⟨o,e⟩=>by
  by_cases n:b=q.2
  ·obtain ⟨ps,t⟩:=ht₃.obj; rw [n]; exact Heap.lt_size t
  ·exact Heap.lt_size (kp₃ b o n e)
 have nn:∀ b,h₃.objs.size≤b→s₁.heap.get? b=none:=fun b hb=>by
  cases e:s₁.heap.get? b with
  | none=>rfl
  | some o=>exact absurd (hlt b ⟨o,e⟩) (Nat.not_lt.mpr hb)
 have k35:∀ (ob:Obj) b o,h₃.get? b=some o→(h₄.push ob).get? b=some o:=fun ob b o e=>Heap.get?_push_of_some _ (k34 b o e)
 have haC:h₄.objs.size≠h₃.objs.size:=by rw [hsz']; exact Nat.succ_ne_self _
 have nI:∃ o,h₂.get? I=some o:=(W _ hA).ex _ _ hst
 have hIT:¬ isT I:=R₁.inv.nT0 hI
 have hI3:∃ o,h₃.get? I=some o:=let ⟨o,e⟩:=nI; ⟨o,hk₃ I o (fun x=>hIT ⟨q,hq,x.symm⟩) e⟩
 have hI3':I < h₃.objs.size:=let ⟨o,e⟩:=hI3; Heap.lt_size e
 have keep₂:∀ (ob:Obj),∀ b∈fp,∀ o,h₂.get? b=some o→(h₄.push ob).get? b=some o:=fun ob b hb o e=>k35 ob b o (hk₃ b o (fun x=>(hfp b hb).elim (fun e'=>hIT ⟨q,hq,(e'▸x).symm⟩) fun z=>R₁.inv.off b z (x▸R₁.inv.tp q hq)) e)
 have hZ₅:∀ (ob:Obj) b o,Z₁ b→h₂.get? b=some o→(h₄.push ob).get? b=some o:=fun ob b o z e=>k35 ob b o (hk₃ b o (fun x=>R₁.inv.off b z (x▸R₁.inv.tp q hq)) e)
 have G:=R₁.genIn (h':=h₄.push { cls:=.type "generator", data:=.fields #[.int s₁.gens.size 0,.str "<genexpr>" (tk + 1),.str (env.qual ++ "<genexpr>") (tk + 1 + 1)] }) (code:=code) (it:=.ref I) OK hcell hq (fun b o n e=>k35 _ b o (kp₃ b o n e)) (ht₃.at (fun o e=>k35 _ _ o e) (fun o e=>k35 _ _ o e)) (nn _ (Nat.le_refl _)) (nn _ hsz) haC (hn.push _) ⟨_,Heap.get?_push_size _ rfl⟩
 refine hQ xs σ₁ Z₁ s₁ I h₃.objs.size h₄.objs.size s₁.gens.size code fp Stt _ hk S₁ R₁ {
  step:=?_
  rel:=G.1
  st:=(W _ hA).frame _ _ _ hst (keep₂ _)
  it:=fun A₂ hA₂=>?_
  fp:=hfp
  notP:=fun p=>?_
  notZ:=fun z=>?_
  notC:=Nat.ne_of_lt hI3'
  gen:=⟨_,_,_,Heap.get?_push_size _ rfl,rfl,rfl,rfl⟩
  gens:=Array.getElem?_push_size ..
  notT:=R₁.inv.nT0 (nn _ hsz) }
 ·have S:=G.2 (s₁.gens,s₁.os)
  exact ⟨S.grow,S.keepZ,S.keepP,S.keepT,rfl,by rw [Array.size_push]; exact Nat.le_succ _,fun h=>h.push rfl⟩
 ·have w:=W A₂ hA₂
  exact ⟨w.frame,w.ex,fun i X s' Z' Q E hX st hZ hk' hQ=>w.item i X s' Z' Q E hX st hZ (fun b o z e=>hk' b o z (hZ₅ _ b o z e)) hQ,w.done,w.self⟩
 ·rcases p with n | e
  ·obtain ⟨o,e⟩:=R₁.heldEx n; rw [hI] at e; cases e
  ·exact absurd (e▸hI3') (Nat.not_lt.mpr hsz)
 ·obtain ⟨o,e⟩:=R₁.inv.exZ _ z; rw [hI] at e; cases e
end
end Mine
end
noncomputable section
namespace Mine
open PySem PySem.SeqAt
section
variable {c:Cx} {A:Around} {env cenv:Env} {σ:St} {Z P:Addr→Prop}
noncomputable def Near (A:Around):Prop:=∀ A':Around,A'.handled=A.handled→A'.depth≤A.depth + 2→A'.units≤A.units + 10→AOk A'
noncomputable def GTurn (c:Cx) (e target:Expr) (inner:Addr→Sem PySem.Fin) (cenv:Env) (σc:St) (X:V) (bs:List Bool):Prop :=
 ∀ (g:GX) (A:Around) (I:Addr) (P:Addr→Prop),g.c=c→Near A→(∀ x,g.P x→P x)→(∀ q∈tabs,g.P q.2) →
  WA g.c (A.over (.compLoop e 0 (.ref I) .none cenv) []) cenv σc target X fun τ=>∀ rest Zb sb,Step g.Z g.P (cr g.s) Zb (cr sb)→(∃ pre,g.all=pre++(bs++rest)) →
   Goes g A cenv P σc (.compLoop e 0 (.ref I) .none cenv) (g.c.M.den (.compLoop e 0 (.ref I) .none cenv)) [] rest Zb sb→Goes g A cenv P τ (.compLoop e 0 (.ref I) .none cenv) (Sem.onRaise (inner I) (leaving cenv)) [] (bs++rest) Zb sb
theorem near0 {elt:Expr} {gs:List Comprehension} {scope:Scope} {pos:Pos} {it:Value} (h:Near A):AOk (A.over (.compLoop (.GeneratorExp elt gs scope pos) 0 it .none cenv) []) :=
 let o:=over0 A elt gs scope pos it .none cenv
 h _ o.1 (by rw [o.2.1]; exact Nat.le_succ _) (by rw [o.2.2]; exact Nat.add_le_add_left (by decide) _)
theorem nearS {elt:Expr} {gs:List Comprehension} {scope:Scope} {pos:Pos} {it:Value} (h:Near A):AOk (A.over (.compStart (.GeneratorExp elt gs scope pos) 0 it .none cenv) []) :=
 h _ rfl (Nat.le_succ (A.depth + 1)) (show A.units + 3≤A.units + 10 from Nat.add_le_add_left (by decide) _)
@[reducible] noncomputable def inner1 (e elt:Expr) (cenv:Env) (I:Addr):Sem PySem.Fin:=do (do let v ← eval elt cenv; standAt elt.pos; let _ ← yieldOut cenv v); again (.compLoop e 0 (.ref I) .none cenv)
theorem gturn_one {elt target iter:Expr} {scope:Scope} {pos:Pos} {σc:St} {X:V} {b:Bool} (hco:cenv.scope.isCoroutine=false) (h:∀ A',WA c A' cenv σc target X fun τ=>WE c A' cenv τ elt fun Y σ'=>Y=.bool b∧σ'.le σc) :
  GTurn c (.GeneratorExp elt [⟨target,iter,[],0⟩] scope pos) target (inner1 (.GeneratorExp elt [⟨target,iter,[],0⟩] scope pos) elt cenv) cenv σc X [b]:=by
 intro g A I P hgc hA hP hT
 subst hgc
 exact WA.imp (h _) fun τ h₁ rest Zb sb Sb hall hn=>goes_elt (near0 hA) hP hT hco rfl rfl hall rfl h₁ Sb hn
theorem made_ga {elt target iter:Expr} {gs:List Comprehension} {scope:Scope} {pos:Pos} {xs:List V} {σ₁:St} {Z₁:Addr→Prop} {s₁ s₅:Shared} {I C a:Addr} {gn:Nat} {code:Value} {fp:List Addr} {Stt:Nat→Heap→Prop} {inner:Addr→Sem PySem.Fin} (f:V→List Bool)
  (M:Made c P env (.GeneratorExp elt (⟨target,iter,[],0⟩::gs) scope pos) target scope xs σ₁ Z₁ s₁ I C a gn code fp Stt s₅) (hA:Near A.in1) (hco:scope.isCoroutine=false) (hcell:∀ y∈scope.names,y.2≠.cell)
  (hden:c.M.den (.compLoop (.GeneratorExp elt (⟨target,iter,[],0⟩::gs) scope pos) 0 (.ref I) .none (genEnv scope (closL env scope.names []) C code builtinsNs env))=Sem.onRaise (turnTree (.ref I) iter.pos target [] (genEnv scope (closL env scope.names []) C code builtinsNs env) (inner I) (.compLoop (.GeneratorExp elt (⟨target,iter,[],0⟩::gs) scope pos) 0 (.ref I) .none (genEnv scope (closL env scope.names []) C code builtinsNs env))) (leaving (genEnv scope (closL env scope.names []) C code builtinsNs env)))
  (turn:∀ X∈xs,GTurn c (.GeneratorExp elt (⟨target,iter,[],0⟩::gs) scope pos) target inner (genEnv scope (closL env scope.names []) C code builtinsNs env) ⟨capsOf scope σ₁.loc,[]⟩ X (f X)) :
  GnA ⟨c,fun b=>HeldP env σ₁ P b∨b=a,Z₁,s₅,xs.flatMap f⟩ A gn (xs.flatMap f) s₅:=by
 have hT:∀ q∈tabs,HeldP env σ₁ P q.2∨q.2=a:=M.rel.inv.tp
 refine ⟨⟨Z₁,Step.refl ..,M.rel.inv⟩,⟨[],rfl⟩,_,M.gens,fun s'' hs=>⟨rfl,?_⟩⟩
 have hOwn:¬ OwnA (genEnv scope (closL env scope.names []) C code builtinsNs env) I:=by
  rintro (e | ⟨x,hx,_⟩)
  ·exact M.notC e
  ·exact absurd rfl (hcell _ (PySem.mem_of_lookup (show scope.names.lookup x=some .cell from hx)))
 have loop:=seg_loop (g:=⟨c,fun b=>HeldP env σ₁ P b∨b=a,Z₁,s₅,xs.flatMap f⟩) (A:=A.in1) (cenv:=genEnv scope (closL env scope.names []) C code builtinsNs env) (P:=fun b=>HeldP env σ₁ P b∨b=a) (Z:=Z₁) (σ:=⟨capsOf scope σ₁.loc,[]⟩) (s:=s'') (I:=I) (xs:=xs) (fs:=[]) (tail:=[]) f
  hden (near0 hA) (hs.heap▸M.it _ (near0 hA)) M.fp (hs.heap▸M.st) (hs.heap▸M.rel) M.notP M.notZ hOwn (fun o ho=>(List.not_mem_nil ho).elim) (fun qa x=>x) hs.step ⟨[],by simp⟩
  (fun X hX=>turn X hX _ A.in1 I _ rfl hA (fun qa x=>.inl x) hT)
  (fun Z' s' s₀ S R=>seg_end (.ok .next) ⟨rfl,rfl,⟨Z',hs.step.trans S,R.inv⟩⟩) s''
 rw [List.append_nil] at loop
 show Seg _ A.in1 _ _ _ s'' _ ((compStart (.GeneratorExp elt (⟨target,iter,[],0⟩::gs) scope pos) 0 (.ref I) .none _).onRaise _) _ s''
 unfold compStart
 rw [Sem.onRaise_eq_wrap]
 show Seg _ A.in1 _ _ _ s'' _ ((ask >>= _).wrap _ _ _ _) _ s''
 refine seg_bind_wrap (wpAny_askSetting ?_)
 split
 ·exact seg_again rfl loop
 ·refine seg_bind_wrap (wpAny_rule ?_)
  show Seg _ A.in1 _ _ _ s'' _ ((standAt iter.pos >>= _).wrap _ _ _ _) _ s''
  exact seg_bind_wrap (wpAny_standAt (seg_bind_wrap ((M.it _ (nearS (elt:=elt) (gs:=⟨target,iter,[],0⟩::gs) (scope:=scope) (pos:=pos) (it:=.ref I) hA)).self 0 s'' _ _ (hs.heap▸M.st) (seg_again rfl loop))))
theorem call_any {g:GX} {a:Addr} {gn:Nat} {rest:List Bool} {s:Shared} {Q:Value→Shared→Prop} {E:Value→Shared→Prop} (hh:A.handled=none) (hroom:A.in1.depth < recursionLimit) (gen0:g.s.heap.IsGen a gn) (hPa:g.P a) (hTa:¬ isT a) (hsz:gn < g.s.gens.size) (hgen:s.heap.IsGen a gn) (G:GnA g A.in1 gn rest s)
  (hQ:∀ s',g.At s'→Q (.bool (rest.any id)) s'):wpAny g.c.M A (call (.builtin "any") [.ref a]) Q E s:=by
 refine call_function_tree F.kind_any F.plain_any F.entry_any (F.args_any1 _) ?_
 unfold Builtin.«any»
 refine wpAny_bind (m:=oneArg "any" _) (wpAny_pure ?_)
 exact wpAny_bind (wpAny_pyIter_gen hgen (wpAny_pure ⟨plainId_quiet F.plain_any_loop _,any_loop hh hroom gen0 hPa hTa hsz rest s G hQ⟩))
theorem call_all {g:GX} {a:Addr} {gn:Nat} {rest:List Bool} {s:Shared} {Q:Value→Shared→Prop} {E:Value→Shared→Prop} (hh:A.handled=none) (hroom:A.in1.depth < recursionLimit) (gen0:g.s.heap.IsGen a gn) (hPa:g.P a) (hTa:¬ isT a) (hsz:gn < g.s.gens.size) (hgen:s.heap.IsGen a gn) (G:GnA g A.in1 gn rest s)
  (hQ:∀ s',g.At s'→Q (.bool (rest.all id)) s'):wpAny g.c.M A (call (.builtin "all") [.ref a]) Q E s:=by
 refine call_function_tree F.kind_all F.plain_all F.entry_all (F.args_all1 _) ?_
 unfold Builtin.«all»
 refine wpAny_bind (m:=oneArg "all" _) (wpAny_pure ?_)
 exact wpAny_bind (wpAny_pyIter_gen hgen (wpAny_pure ⟨plainId_quiet F.plain_all_loop _,all_loop hh hroom gen0 hPa hTa hsz rest s G hQ⟩))
end
end Mine
end
noncomputable section
namespace Mine
open PySem PySem.SeqAt
section
variable {c:Cx} {A:Around} {env cenv:Env} {σ:St} {Z P:Addr→Prop}
theorem near2 (h:Rm 1 A):Near A.in1.in1:=fun A' h1 h2 h3=>⟨h1.trans h.handled,Nat.lt_of_le_of_lt (Nat.add_le_add_right (Nat.le_trans h3 (Nat.le_refl (A.units + 12))) 300) (Nat.lt_of_le_of_lt (by rw [Nat.add_right_comm]; exact Nat.add_le_add_left (by decide) _) h.units),
 Nat.lt_of_le_of_lt (Nat.add_le_add_right (Nat.le_trans h2 (Nat.le_refl (A.depth + 2))) 5) (Nat.lt_of_le_of_lt (by rw [Nat.add_right_comm]; exact Nat.add_le_add_left (by decide) _) h.depth)⟩
theorem wE_user {f:Str} {id:String} {red:List Bool→Bool} {elt target iter:Expr} {gs:List Comprehension} {scope:Scope} {pos fpos pos':Pos} {q:Addr×Addr} {inner:Env→Addr→Sem PySem.Fin} {k:V→St→Prop}
  (hu:∀ (A:Around) (g:GX) (a:Addr) (gn:Nat) (rest:List Bool) (s:Shared) (Q:Value→Shared→Prop) (E:Value→Shared→Prop),A.handled=none→A.in1.depth < recursionLimit→g.s.heap.IsGen a gn→g.P a→¬ isT a→gn < g.s.gens.size→s.heap.IsGen a gn→GnA g A.in1 gn rest s→(∀ s',g.At s'→Q (.bool (red rest)) s')→wpAny g.c.M A (call (.builtin id) [.ref a]) Q E s)
  (hm:c.mg f=none) (hv:bootBuiltins f=some (.builtin id)) (hk:env.kindOf f=some .globalImplicit) (hn:f ≠ "__name__") (hd:(f == ("__debug__" : Str))=false)
  (hq:q∈tabs) (hc:env.code=.ref q.1) (hB:BltOk c) (OK:CompOk scope env) (hco:scope.isCoroutine=false) (hcell:∀ y∈scope.names,y.2≠.cell) (h0:scope.names.lookup (".0" : Str)=some NameKind.local) (hR:Rm 1 A) (ht:plainTarget target=true)
  (hs:∀ x,genexprIterable false (⟨target,iter,[],0⟩::gs) env x=pure x)
  (hden:∀ cenv I,c.M.den (.compLoop (.GeneratorExp elt (⟨target,iter,[],0⟩::gs) scope pos) 0 (.ref I) .none cenv)=Sem.onRaise (turnTree (.ref I) iter.pos target [] cenv (inner cenv I) (.compLoop (.GeneratorExp elt (⟨target,iter,[],0⟩::gs) scope pos) 0 (.ref I) .none cenv)) (leaving cenv))
  (h:WE c A env σ iter fun X σ₁=>∃ xs,X=.lst xs∧∃ f':V→List Bool,(∀ C code,∀ X∈xs,GTurn c (.GeneratorExp elt (⟨target,iter,[],0⟩::gs) scope pos) target (inner (genEnv scope (closL env scope.names []) C code builtinsNs env)) (genEnv scope (closL env scope.names []) C code builtinsNs env) ⟨capsOf scope σ₁.loc,[]⟩ X (f' X))∧k (.bool (red (xs.flatMap f'))) σ₁)
  (he:starEach [.GeneratorExp elt (⟨target,iter,[],0⟩::gs) scope pos] env=(false,eval (.GeneratorExp elt (⟨target,iter,[],0⟩::gs) scope pos) env)::starEach [] env) :
  WE c A env σ (.Call (.Name f fpos) [.GeneratorExp elt (⟨target,iter,[],0⟩::gs) scope pos] [] pos') k:=by
 refine WP.mk fun hA Z P s R=>?_
 show wpAny _ _ (do callWith pos' (← eval (.Name f fpos) env) [] (backTo pos' (starEach [.GeneratorExp elt (⟨target,iter,[],0⟩::gs) scope pos] env)) (backToKw pos' (keywordEach [] env))) _ _ s
 refine wpAny_bind (load_builtin R hm hv hn hk ?_ hd)
 refine callWith_plain (.blt id) ?_ he rfl
 rw [he]
 refine Calls.spliced_cons (gen_new hq hc hB OK hco hcell h0 hA R ht rfl hs _ h fun xs σ₁ Z₁ s₁ I C a gn code fp Stt s₅ kk S₁ R₁ Md=>?_)
 refine Calls.spliced_nil ?_
 obtain ⟨f',hturn,hk⟩:=kk
 have hsz:gn < s₅.gens.size:=by
  rcases Nat.lt_or_ge gn s₅.gens.size with h' | h'
  ·exact h'
  ·have:=Md.gens; rw [Array.getElem?_eq_none h'] at this; cases this
 refine hu A ⟨c,fun b=>HeldP env σ₁ P b∨b=a,Z₁,s₅,xs.flatMap f'⟩ a gn (xs.flatMap f') s₅ _ _ hA.handled (by have:=hA.depth; show A.depth < _; omega) Md.gen (.inr rfl) Md.notT hsz Md.gen (made_ga f' Md (near2 hR) hco hcell (hden _ I) (hturn C code)) fun s' hat=>?_
 obtain ⟨Z',S,I'⟩:=hat
 exact fin_mk (S₁.trans ((Md.step.trans S).down fun b p=>.inl (.inl p))) (R₁.back (Md.step.trans S) I' fun b p=>.inl p) (.bool _) hk
end
end Mine
end
noncomputable section
namespace Mine
open PySem PySem.SeqAt PyProof.Rows
section
variable {c:Cx} {A:Around} {env:Env} {ς:List (Str×V)} {η:List (Addr×O)} {pos:Pos} {X Y:V} {l r:Expr} {σ:St}
theorem wE_Bool2 {op:BoolOp} {k:V→St→Prop} (h:WE c A env σ l fun X σ₁=>∃ b,X=.bool b∧(if b=(op == .And) then WE c A env σ₁ r k else k (.bool b) σ₁)):WE c A env σ (.BoolOp op [l,r] pos) k:=by
 refine WP.mk fun hA Z P s R=>?_
 rw [arm_eval_BoolOp]
 show wpAny _ A (do
  let v ← eval l env
  standAt pos
  let t ← holding [v] (truthy v)
  match op,t with
  | .And,false | .Or,true=>pure v
  | _,_=>eval r env) _ _ s
 refine wpAny_bind (wp_then h hA R fun Z₁ s₁ X σ₁ v₁ S₁ R₁ r₁ k₁=>?_)
 obtain ⟨b,rfl,k₁⟩:=k₁
 refine Rd.bool_elim r₁ ?_
 refine wpAny_bind (wpAny_standAt (wpAny_bind (wpAny_holding (wpAny_truthy_bool ?_))))
 cases op <;> cases b
 ·exact wpAny_pure (fin_mk S₁ R₁ (.bool _) k₁)
 ·exact wp_then k₁ hA R₁ fun Z₂ s₂ Y σ₂ v₂ S₂ R₂ r₂ kk=>fin_mk (S₁.trans S₂) R₂ r₂ kk
 ·exact wp_then k₁ hA R₁ fun Z₂ s₂ Y σ₂ v₂ S₂ R₂ r₂ kk=>fin_mk (S₁.trans S₂) R₂ r₂ kk
 ·exact wpAny_pure (fin_mk S₁ R₁ (.bool _) k₁)
theorem eb_And {a b:Bool} (h1:EV c A env ⟨ς,η⟩ l (.bool a)) (h2:EV c A env ⟨ς,η⟩ r (.bool b)):EV c A env ⟨ς,η⟩ (.BoolOp .And [l,r] pos) (.bool (a&&b)) :=
 ⟨fun k hk=>wE_Bool2 (h1.run _ ⟨a,rfl,by cases a; exact hk; exact h2.run _ hk⟩)⟩
theorem eb_Or {a b:Bool} (h1:EV c A env ⟨ς,η⟩ l (.bool a)) (h2:EV c A env ⟨ς,η⟩ r (.bool b)):EV c A env ⟨ς,η⟩ (.BoolOp .Or [l,r] pos) (.bool (a||b)) :=
 ⟨fun k hk=>wE_Bool2 (h1.run _ ⟨a,rfl,by cases a; exact h2.run _ hk; exact hk⟩)⟩
end
end Mine
end
noncomputable section
namespace Mine
open PySem PySem.SeqAt PyProof.Rows
structure GenK (c:Cx) (A:Around) (env:Env) (scope:Scope):Prop where
 q:∃ q∈tabs,env.code=.ref q.1
 blt:BltOk c
 ok:CompOk scope env
 co:scope.isCoroutine=false
 cell:∀ y∈scope.names,y.2≠.cell
 it:scope.names.lookup (".0" : Str)=some NameKind.local
 rm:Rm 1 A
theorem fn_ofB {α:Type} {f:α→V} (hf:Inj f) (G:α→List Bool):∃ g:V→List Bool,∀ a,g (f a)=G a:=by
 classical
 refine ⟨fun X=>if h:∃ a,f a=X then G (Classical.choose h) else [],fun a=>?_⟩
 have h:∃ b,f b=f a:=⟨a,rfl⟩
 simp only [dif_pos h]
 rw [hf _ _ (Classical.choose_spec h)]
theorem flat_fnB {α:Type} {f:α→V} {g:V→List Bool} {G:α→List Bool} (h:∀ a,g (f a)=G a) (l:List α):(l.map f).flatMap g=l.flatMap G:=by
 induction l with
 | nil=>rfl
 | cons a l ih=>simp only [List.map_cons,List.flatMap_cons,h,ih]
theorem map_fmB {α:Type} (b:α→Bool):∀ xs:List α,(xs.flatMap fun a=>[b a])=xs.map b
 | []=>rfl
 | a::l=>by rw [List.map_cons,List.flatMap_cons,map_fmB b l]; rfl
section
variable {c:Cx} {A:Around} {env cenv:Env} {ς:List (Str×V)} {η:List (Addr×O)} {pos fpos pos':Pos} {elt target iter target' iter':Expr} {scope:Scope} {α β:Type} {f:α→V} {ls:List α}
noncomputable def TurnG (c:Cx) (A:Around) (cenv:Env) (ςc:List (Str×V)) (target elt:Expr) (X:V) (b:Bool):Prop :=
 ∃ ς',AV c A cenv ⟨ςc,[]⟩ target X ⟨ς',[]⟩∧EV c A cenv ⟨ς',[]⟩ elt (.bool b)∧LeL ςc ς'
theorem wE_user1 {name:Str} {id:String} {red:List Bool→Bool} (hu:∀ (A:Around) (g:GX) (a:Addr) (gn:Nat) (rest:List Bool) (s:Shared) (Q:Value→Shared→Prop) (E:Value→Shared→Prop),A.handled=none→A.in1.depth < recursionLimit→g.s.heap.IsGen a gn→g.P a→¬ isT a→gn < g.s.gens.size→s.heap.IsGen a gn→GnA g A.in1 gn rest s→(∀ s',g.At s'→Q (.bool (red rest)) s')→wpAny g.c.M A (call (.builtin id) [.ref a]) Q E s)
  (hv:bootBuiltins name=some (.builtin id)) (hn:name ≠ "__name__") (hd:(name == ("__debug__" : Str))=false) (b:α→Bool) (hf:Inj f) (G:GenK c A env scope) (hm:c.mg name=none) (hk:env.kindOf name=some .globalImplicit) (hi:EV c A env ⟨ς,η⟩ iter (.lst (ls.map f)))
  (ht:∀ A' C code,∀ a∈ls,TurnG c A' (genEnv scope (closL env scope.names []) C code builtinsNs env) (capsOf scope ς) target elt (f a) (b a)) (hp:plainTarget target=true) (hs:∀ x,genexprIterable false [⟨target,iter,[],0⟩] env x=pure x)
  (he:starEach [.GeneratorExp elt [⟨target,iter,[],0⟩] scope pos] env=(false,eval (.GeneratorExp elt [⟨target,iter,[],0⟩] scope pos) env)::starEach [] env) :
  EV c A env ⟨ς,η⟩ (.Call (.Name name fpos) [.GeneratorExp elt [⟨target,iter,[],0⟩] scope pos] [] pos') (.bool (red (ls.map b))):=⟨fun k kk=>by
 obtain ⟨q,hq,hc⟩:=G.q
 obtain ⟨g,hg⟩:=fn_ofB hf fun a=>[b a]
 refine wE_user hu hm hv hk hn hd hq hc G.blt G.ok G.co G.cell G.it G.rm hp hs (inner:=fun cenv=>inner1 _ elt cenv) (fun cenv I=>denG_one) (hi.run _ ⟨_,rfl,g,fun C code X hX=>?_,?_⟩) he
 ·obtain ⟨a,ha,rfl⟩:=List.mem_map.mp hX
  rw [hg]
  refine gturn_one G.co fun A'=>?_
  obtain ⟨ς',h1,h2,h3⟩:=ht A' C code a ha
  exact h1.run _ (h2.run _ ⟨rfl,h3.le⟩)
 ·rw [flat_fnB hg,map_fmB]
  exact kk⟩
theorem eb_any (b:α→Bool) (hf:Inj f) (G:GenK c A env scope) (hm:c.mg "any" = none) (hk:env.kindOf "any" = some .globalImplicit) (hi:EV c A env ⟨ς,η⟩ iter (.lst (ls.map f)))
  (ht:∀ A' C code,∀ a∈ls,TurnG c A' (genEnv scope (closL env scope.names []) C code builtinsNs env) (capsOf scope ς) target elt (f a) (b a)) (hp:plainTarget target=true:=by rfl) (hs:∀ x,genexprIterable false [⟨target,iter,[],0⟩] env x=pure x:=by intro _; rfl)
  (he:starEach [.GeneratorExp elt [⟨target,iter,[],0⟩] scope pos] env=(false,eval (.GeneratorExp elt [⟨target,iter,[],0⟩] scope pos) env)::starEach [] env:=by rfl) :
  EV c A env ⟨ς,η⟩ (.Call (.Name "any" fpos) [.GeneratorExp elt [⟨target,iter,[],0⟩] scope pos] [] pos') (.bool ((ls.map b).any id)) :=
 wE_user1 (red:=fun l=>l.any id) (fun A g a gn rest s Q E h1 h2 h3 h4 h5 h6 h7 h8 h9=>call_any h1 h2 h3 h4 h5 h6 h7 h8 h9) rfl (by decide) (by decide) b hf G hm hk hi ht hp hs he
theorem eb_all (b:α→Bool) (hf:Inj f) (G:GenK c A env scope) (hm:c.mg "all" = none) (hk:env.kindOf "all" = some .globalImplicit) (hi:EV c A env ⟨ς,η⟩ iter (.lst (ls.map f)))
  (ht:∀ A' C code,∀ a∈ls,TurnG c A' (genEnv scope (closL env scope.names []) C code builtinsNs env) (capsOf scope ς) target elt (f a) (b a)) (hp:plainTarget target=true:=by rfl) (hs:∀ x,genexprIterable false [⟨target,iter,[],0⟩] env x=pure x:=by intro _; rfl)
  (he:starEach [.GeneratorExp elt [⟨target,iter,[],0⟩] scope pos] env=(false,eval (.GeneratorExp elt [⟨target,iter,[],0⟩] scope pos) env)::starEach [] env:=by rfl) :
  EV c A env ⟨ς,η⟩ (.Call (.Name "all" fpos) [.GeneratorExp elt [⟨target,iter,[],0⟩] scope pos] [] pos') (.bool ((ls.map b).all id)) :=
 wE_user1 (red:=fun l=>l.all id) (fun A g a gn rest s Q E h1 h2 h3 h4 h5 h6 h7 h8 h9=>call_all h1 h2 h3 h4 h5 h6 h7 h8 h9) rfl (by decide) (by decide) b hf G hm hk hi ht hp hs he
end
end Mine
end
noncomputable section
namespace Mine
open PySem PySem.SeqAt PyProof.Rows
section
variable {c:Cx} {A:Around} {env cenv:Env} {ς:List (Str×V)} {η:List (Addr×O)} {pos fpos pos':Pos} {elt target iter target' iter':Expr} {scope:Scope} {α β:Type} {f:α→V} {ls:List α}
@[reducible] noncomputable def inner2 (e iter':Expr) (cenv:Env) (I:Addr):Sem PySem.Fin:=do
 let x ← eval iter' cenv
 standAt iter'.pos
 let x ← foldedSetIterable iter' cenv x
 let _ ← runOwn (.compStart e 1 (← holding [x] (pyIter x)) .none cenv) cenv
 again (.compLoop e 0 (.ref I) .none cenv)
theorem denG_fst {it:Addr}:c.M.den (.compLoop (gE elt target iter target' iter' scope pos) 0 (.ref it) .none cenv)=Sem.onRaise (turnTree (.ref it) iter.pos target [] cenv (inner2 (gE elt target iter target' iter' scope pos) iter' cenv it) (.compLoop (gE elt target iter target' iter' scope pos) 0 (.ref it) .none cenv)) (leaving cenv):=by
 show _=Sem.onRaise (turnTree _ _ _ _ _ (do
  let x ← eval iter' cenv
  standAt iter'.pos
  let x ← foldedSetIterable iter' cenv x
  let _ ← runOwn (.compStart (gE elt target iter target' iter' scope pos) 1 (← holding [x] (pyIter x)) .none cenv) cenv
  again (.compLoop (gE elt target iter target' iter' scope pos) 0 (.ref it) .none cenv)) _) _
 rw [← turnG_fst]; rfl
theorem gturn_two {σc:St} {X:V} {bs:List Bool} (hco:cenv.scope.isCoroutine=false) (hp:plainTarget target'=true) (hs:∀ x,foldedSetIterable iter' cenv x=pure x)
  (h:∀ A',WA c A' cenv σc target X fun τ=>WE c A' cenv τ iter' fun X τ₁=>∃ xs' b' τ₂,X=.lst xs'∧bs=xs'.map b'∧τ₁.le τ₂∧τ₂.le σc∧∀ A',∀ Y∈xs',WA c A' cenv τ₂ target' Y fun τ₃=>WE c A' cenv τ₃ elt fun V σ'=>V=.bool (b' Y)∧σ'.le τ₂) :
  GTurn c (gE elt target iter target' iter' scope pos) target (inner2 (gE elt target iter target' iter' scope pos) iter' cenv) cenv σc X bs:=by
 intro g A I P hgc hA hP hT
 subst hgc
 exact WA.imp (h _) fun τ h₁ rest Zb sb Sb hall hn=>goes_fst hA hP hT hco hall hp hs h₁ Sb hn
theorem fn_of1 {β:Type} {f:β→V} (hf:Inj f) (G:β→Bool):∃ g:V→Bool,∀ a,g (f a)=G a:=by
 classical
 refine ⟨fun X=>if h:∃ a,f a=X then G (Classical.choose h) else false,fun a=>?_⟩
 have h:∃ b,f b=f a:=⟨a,rfl⟩
 simp only [dif_pos h]
 rw [hf _ _ (Classical.choose_spec h)]
theorem eb_any2 {f':β→V} (m:α→List β) (b:α→β→Bool) (hf:Inj f) (hf':Inj f') (G:GenK c A env scope) (hm:c.mg "any" = none) (hk:env.kindOf "any" = some .globalImplicit) (hi:EV c A env ⟨ς,η⟩ iter (.lst (ls.map f)))
  (ht:∀ C code,∀ a∈ls,∀ A',∃ ς',AV c A' (genEnv scope (closL env scope.names []) C code builtinsNs env) ⟨capsOf scope ς,[]⟩ target (f a) ⟨ς',[]⟩∧LeL (capsOf scope ς) ς'∧EV c A' (genEnv scope (closL env scope.names []) C code builtinsNs env) ⟨ς',[]⟩ iter' (.lst ((m a).map f')) ∧
   ∀ A'',∀ x∈m a,TurnG c A'' (genEnv scope (closL env scope.names []) C code builtinsNs env) ς' target' elt (f' x) (b a x))
  (hp:plainTarget target=true:=by rfl) (hp':plainTarget target'=true:=by rfl) (hs:∀ x,genexprIterable false [⟨target,iter,[],0⟩,⟨target',iter',[],0⟩] env x=pure x:=by intro _; rfl) (hs':∀ cenv x,foldedSetIterable iter' cenv x=pure x:=by intro _ _; rfl)
  (he:starEach [gE elt target iter target' iter' scope pos] env=(false,eval (gE elt target iter target' iter' scope pos) env)::starEach [] env:=by rfl) :
  EV c A env ⟨ς,η⟩ (.Call (.Name "any" fpos) [gE elt target iter target' iter' scope pos] [] pos') (.bool ((ls.flatMap fun a=>(m a).map (b a)).any id)):=⟨fun k kk=>by
 obtain ⟨q,hq,hc⟩:=G.q
 obtain ⟨g,hg⟩:=fn_ofB hf fun a=>(m a).map (b a)
 refine wE_user (red:=fun l=>l.any id) (fun A g a gn rest s Q E h1 h2 h3 h4 h5 h6 h7 h8 h9=>call_any h1 h2 h3 h4 h5 h6 h7 h8 h9) hm rfl hk (by decide) (by decide) hq hc G.blt G.ok G.co G.cell G.it G.rm hp hs (inner:=fun cenv=>inner2 (gE elt target iter target' iter' scope pos) iter' cenv) (fun cenv I=>denG_fst) (hi.run _ ⟨_,rfl,g,fun C code X hX=>?_,?_⟩) he
 ·obtain ⟨a,ha,rfl⟩:=List.mem_map.mp hX
  rw [hg]
  refine gturn_two G.co hp' (hs' _) fun A'=>?_
  obtain ⟨ς',h1,h2,h3,h4⟩:=ht C code a ha A'
  obtain ⟨g',hg'⟩:=fn_of1 hf' (b a)
  refine h1.run _ (h3.run _ ⟨_,g',⟨ς',[]⟩,rfl,?_,St.le.refl _,h2.le,fun A'' Y hY=>?_⟩)
  ·rw [List.map_map]; exact List.map_congr_left fun x qa=>(hg' x).symm
  ·obtain ⟨x,hx,rfl⟩:=List.mem_map.mp hY
   obtain ⟨ς'',k1,k2,k3⟩:=h4 A'' x hx
   exact k1.run _ (k2.run _ ⟨by rw [hg'],k3.le⟩)
 ·rw [flat_fnB hg]
  exact kk⟩
end
end Mine
end
noncomputable section
namespace Mine
open PySem PySem.SeqAt PyProof.Rows
section
variable {c:Cx}
noncomputable def IsFnC (c:Cx) (a:Addr) (D:DefD) (code:Value):Prop:=∃ nm qual pm doc,MethAt c a (fdOf D nm qual pm code doc)
theorem IsFnC.fn {a:Addr} {D:DefD} {code:Value} (F:IsFnC c a D code):IsFn c a D:=let ⟨nm,qual,pm,doc,M⟩:=F; ⟨nm,qual,pm,code,doc,M⟩
theorem call_defC {a:Addr} {D:DefD} {n:Nat} {ps:List Str} {Xs:List V} {H:List (Addr×O)} {post:V→List (Addr×O)→Prop} {body:List Stmt} {code:Value} (F:IsFnC c a D code) (K:DefK D ps body) (hlen:Xs.length=ps.length)
  (h:∀ A qual L,Rm n A→WSs c A (envD D qual code L a) ⟨ps.zip Xs,H⟩ body fun f σ=>∃ τ,σ.le τ∧post (retV f) τ.hp):CallSpec c (n + 1) a H Xs post:=by
 obtain ⟨nm,qual,pm,doc,M⟩:=F
 refine call_intro (ps:=ps) (body:=body) M.fn ⟨?_,rfl,rfl,rfl,K.fn,K.co,K.gen,K.bind nm qual pm code doc,K.nodup,K.kinds,K.noFree⟩ hlen fun A L hR=>?_
 ·show FuncBody.stmts D.body=_
  rw [K.body]
 ·exact WP.fin (h A qual L hR)
end
end Mine
end
noncomputable section
set_option maxRecDepth 100000
set_option maxHeartbeats 2000000
namespace Mine
open PySem PySem.SeqAt PyProof.Rows
noncomputable def D_layout:DefD:=defD PP.main.body[12]?
noncomputable def D_event:DefD:=defD PP.main.body[13]?
noncomputable def D_pairs:DefD:=defD PP.main.body[14]?
noncomputable def D_route:DefD:=defD PP.main.body[15]?
noncomputable def D_llocked:DefD:=defD PP.main.body[16]?
noncomputable def D_lset:DefD:=defD PP.main.body[17]?
noncomputable def D_lcancel:DefD:=defD PP.main.body[18]?
noncomputable def D_lenter:DefD:=defD PP.main.body[19]?
noncomputable def D_lleave:DefD:=defD PP.main.body[20]?
noncomputable def D_after:DefD:=defD PP.main.body[21]?
noncomputable def D_state:DefD:=defD PP.main.body[22]?
noncomputable def D_shows:DefD:=defD PP.main.body[23]?
noncomputable def D_law:DefD:=defD PP.main.body[24]?
theorem k_layout:DefK D_layout ["x","y","z"] D_layout.body:=mkK rfl (by
 intro nm qual pm code doc vs h
 refine E31 (list3 h) fun x y z z3=>?_; subst z3; rfl)
theorem k_event:DefK D_event ["x","y"] D_event.body:=mkK rfl (by
 intro nm qual pm code doc vs h
 refine E21 (list2 h) fun x y z2=>?_; subst z2; rfl)
noncomputable def pm (x:Int):Str:=pick ["+","-"] "" x
noncomputable def lay3 (x y z:Int):Lay :=
 ⟨["d","b","f","e","a","c"],[("q","e"),("p","b")],[("T","c"),("S","a"),("V","b"),("U","d")],
  [⟨"A","S", ["b","c"],[("p", pm x)],"T"⟩,⟨"B","T", ["d"],[("q","-")],pick ["","S","U"] "" z⟩,⟨"C","U", ["e"],[("q","+"),("p", pm y)],"S"⟩,⟨"D","S", ["f"],[],"U"⟩,⟨"E","U", ["c","f"],[("q","+")],""⟩]⟩
theorem n6 {a b c d e f:V}:[a,b,c,d,e,f].length≤10:=Nat.le_of_ble_eq_true rfl
theorem spec_layout {c:Cx} {a:Addr} {n:Nat} {x y z:Int} (F:IsFn c a D_layout):Pure c (n + 1) a [.int x,.int y,.int z] (lay3 x y z).v:=by
 refine pure_def F k_layout rfl fun A qual code L hR=>?_
 conv in D_layout.body=>whnf
 refine sSet (.inl rfl) (ev_Lst (evs ev_s (evs ev_s (evs ev_s (evs ev_s (evs ev_s (evs ev_s evs0)))))) n6) ?_
 refine sSet (.inl rfl) (ev_Lst (evs (ev_Tup (evs ev_s (evs ev_s evs0)) n2) (evs (ev_Tup (evs ev_s (evs ev_s evs0)) n2) evs0)) n2) ?_
 refine sSet (.inl rfl) (ev_Lst (evs (ev_Tup (evs ev_s (evs ev_s evs0)) n2) (evs (ev_Tup (evs ev_s (evs ev_s evs0)) n2) (evs (ev_Tup (evs ev_s (evs ev_s evs0)) n2) (evs (ev_Tup (evs ev_s (evs ev_s evs0)) n2) evs0)))) n4) ?_
 refine sSet (.inl rfl) (X:=Rt.v ⟨"A","S", ["b","c"],[("p", pm x)],"T"⟩) (ev_Tup (evs ev_s (evs ev_s (evs (ev_Lst (evs ev_s (evs ev_s evs0)) n2) (evs (ev_Lst (evs (ev_Tup (evs ev_s (evs (ev_Sub ev_s (ev_Bin (ev_N rfl) ev_i (bin_mod_int (by decide))) item_pm) evs0)) n2) evs0) n1) (evs ev_s evs0))))) n5) ?_
 refine sSet (.inl rfl) (X:=Rt.v ⟨"B","T", ["d"],[("q","-")],pick ["","S","U"] "" z⟩) (ev_Tup (evs ev_s (evs ev_s (evs (ev_Lst (evs ev_s evs0) n1) (evs (ev_Lst (evs (ev_Tup (evs ev_s (evs ev_s evs0)) n2) evs0) n1) (evs (ev_pick (ls:=(["","S","U"]:List Str)) (f:=V.str) "" (ev_Tup (evs ev_s (evs ev_s (evs ev_s evs0))) n3) (ev_N rfl) rfl (by decide) (by decide)) evs0))))) n5) ?_
 refine sSet (.inl rfl) (X:=Rt.v ⟨"C","U", ["e"],[("q","+"),("p", pm y)],"S"⟩) (ev_Tup (evs ev_s (evs ev_s (evs (ev_Lst (evs ev_s evs0) n1) (evs (ev_Lst (evs (ev_Tup (evs ev_s (evs ev_s evs0)) n2) (evs (ev_Tup (evs ev_s (evs (ev_Sub ev_s (ev_Bin (ev_N rfl) ev_i (bin_mod_int (by decide))) item_pm) evs0)) n2) evs0)) n2) (evs ev_s evs0))))) n5) ?_
 refine sSet (.inl rfl) (X:=Rt.v ⟨"D","S", ["f"],[],"U"⟩) (ev_Tup (evs ev_s (evs ev_s (evs (ev_Lst (evs ev_s evs0) n1) (evs (ev_Lst evs0 n0) (evs ev_s evs0))))) n5) ?_
 refine sSet (.inl rfl) (X:=Rt.v ⟨"E","U", ["c","f"],[("q","+")],""⟩) (ev_Tup (evs ev_s (evs ev_s (evs (ev_Lst (evs ev_s (evs ev_s evs0)) n2) (evs (ev_Lst (evs (ev_Tup (evs ev_s (evs ev_s evs0)) n2) evs0) n1) (evs ev_s evs0))))) n5) ?_
 exact sRet (ev_Tup (evs (ev_N rfl) (evs (ev_N rfl) (evs (ev_N rfl) (evs (ev_Lst (evs (ev_N rfl) (evs (ev_N rfl) (evs (ev_N rfl) (evs (ev_N rfl) (evs (ev_N rfl) evs0))))) n5) evs0)))) n4)
noncomputable def namesL:List Str:=["A","B","C","D","E","S"]
noncomputable def placesL:List Str:=["b","c","f","e","a","d","S"]
noncomputable def turnsL:List (Str×Str):=[("p","+"),("p","-"),("q","+"),("q","-"),("S","+")]
noncomputable def namesV:V:=.tup (namesL.map .str)
noncomputable def placesV:V:=.tup (placesL.map .str)
noncomputable def turnsV:V:=.tup (turnsL.map fun q=>.tup [.str q.1,.str q.2])
noncomputable def event3 (x y:Int):Ev :=
 if x.fmod 12 < 3 then .set (pick namesL "" y) else if x.fmod 12 < 6 then .enter (pick placesL "" y) else if x.fmod 12 < 8 then .leave (pick placesL "" y) else if x.fmod 12 < 9 then .cancel (pick namesL "" y)
 else if x.fmod 12 < 11 then .move (pick turnsL ("","") y).1 (pick turnsL ("","") y).2 else .tick
theorem spec_event {c:Cx} {a:Addr} {n:Nat} {x y:Int} (F:IsFn c a D_event) (g1:GV c "_law_names" namesV) (g2:GV c "_law_places" placesV) (g3:GV c "_law_turns" turnsV):Pure c (n + 1) a [.int x,.int y] (event3 x y).v:=by
 refine pure_def F k_event rfl fun A qual code L hR=>?_
 conv in D_event.body=>whnf
 unfold event3
 refine sSet (.inl rfl) (ev_Bin (ev_N rfl) ev_i (bin_mod_int (by decide))) ?_
 refine sIfI (res:=Ev.v) (tp_lt (ev_N rfl) ev_i) (fun qa=>ev_Tup (evs ev_s (evs (ev_pick (ls:=namesL) (f:=V.str) "" (ev_GV g1 rfl) (ev_N rfl) rfl (by decide) (by decide)) evs0)) n2) fun qa=>?_
 refine sIfI (res:=Ev.v) (tp_lt (ev_N rfl) ev_i) (fun qa=>ev_Tup (evs ev_s (evs (ev_pick (ls:=placesL) (f:=V.str) "" (ev_GV g2 rfl) (ev_N rfl) rfl (by decide) (by decide)) evs0)) n2) fun qa=>?_
 refine sIfI (res:=Ev.v) (tp_lt (ev_N rfl) ev_i) (fun qa=>ev_Tup (evs ev_s (evs (ev_pick (ls:=placesL) (f:=V.str) "" (ev_GV g2 rfl) (ev_N rfl) rfl (by decide) (by decide)) evs0)) n2) fun qa=>?_
 refine sIfI (res:=Ev.v) (tp_lt (ev_N rfl) ev_i) (fun qa=>ev_Tup (evs ev_s (evs (ev_pick (ls:=namesL) (f:=V.str) "" (ev_GV g1 rfl) (ev_N rfl) rfl (by decide) (by decide)) evs0)) n2) fun qa=>?_
 refine sIfI (res:=Ev.v) (tp_lt (ev_N rfl) ev_i) (fun qa=>ev_Tup (evs ev_s (evs (ev_T (ev_pick (ls:=turnsL) (f:=fun q=>.tup [.str q.1,.str q.2]) ("","") (ev_GV g3 rfl) (ev_N rfl) rfl (by decide) (by decide)) rfl) (evs (ev_T (ev_pick (ls:=turnsL) (f:=fun q=>.tup [.str q.1,.str q.2]) ("","") (ev_GV g3 rfl) (ev_N rfl) rfl (by decide) (by decide)) rfl) evs0))) n3) fun qa=>?_
 exact sRet (ev_Tup (evs ev_s evs0) n1)
end Mine
end
noncomputable section
namespace Mine
open PySem PySem.SeqAt PyProof.Rows
section
variable {c:Cx} {A:Around} {env:Env} {σ:St}
theorem wS_ForR {target e:Expr} {body:List Stmt} {pos fpos cpos:Pos} {k:FV→St→Prop} (J:List V→St→Prop) (hm:c.mg "range" = none) (hk:env.kindOf "range" = some .globalImplicit)
  (h:WE c A env σ e fun X σ₁=>∃ n:Nat,X=.int n∧n≤1000∧∃ τ,σ₁.le τ∧J ((List.range n).map fun i:Nat=>V.int (i:Int)) τ)
  (turn:∀ X rest τ,J (X::rest) τ→WA c A env τ target X fun τ₁=>WSs c A env τ₁ body (TurnK (J rest) k))
  (done:∀ τ,J [] τ→k .next τ) (ht:plainTarget target=true:=by rfl) (hs:∀ x,foldedSetIterable (.Call (.Name "range" fpos) [e] [] cpos) env x=pure x:=by intro _; rfl)
  (he:starEach [e] env=(false,eval e env)::starEach [] env:=by rfl):WS c A env σ (.For target (.Call (.Name "range" fpos) [e] [] cpos) body [] pos) k:=by
 refine WP.mk fun hA Z P s R=>?_
 refine exec_For_any hs ?_
 show wpAny _ _ (do callWith cpos (← eval (.Name "range" fpos) env) [] (backTo cpos (starEach [e] env)) (backToKw cpos (keywordEach [] env))) _ _ s
 refine wpAny_bind (load_builtin R hm (v:=.type "range") rfl (by decide) hk ?_ (by decide))
 refine callWith_plain (.type "range") ?_ he rfl
 rw [he]
 refine Calls.spliced_cons (wp_then h hA R fun Z₁ s₁ X σ₁ v S₁ R₁ r₁ kk=>?_)
 refine Calls.spliced_nil ?_
 obtain ⟨n,rfl,hn,τ,hle,hj⟩:=kk
 refine Rd.int_elim r₁ fun t=>?_
 refine call_range_1 ?_
 have hsmall:Builtin.Range.small 0 (n:Int) 1=true:=small_one (by decide) (by decide) (by omega) (by omega)
 have hsize:Builtin.Range.rangeSize 0 (n:Int) 1=n:=by rw [rangeSize_one]; split <;> omega
 refine wpAny_pyIter_range (IsRange.new s₁.heap 0 n 1 s₁.toks t (s₁.toks + 1)) hsmall ?_
 rw [hsize]
 generalize hH:s₁.heap.push { cls:=.type "range", data:=.fields #[.int 0 s₁.toks,.int n t,.int 1 (s₁.toks + 1)] }=H
 have hkp:Kp s₁.heap (H.push { cls:=.type "range_iterator", data:=.fields #[rawInt 0,rawInt n,rawInt 1] }):=hH▸(Kp.push _ _).trans (Kp.push _ _)
 have hI:s₁.heap.get? H.objs.size=none:=fresh_none _ _ (by rw [← hH,Heap.size_push]; exact Nat.le_succ _)
 have R₃:=(R₁.kp hkp).le hle
 have W:Iter c A target H.objs.size [H.objs.size] ((List.range n).map fun i:Nat=>V.int (i:Int)) (fun i h=>IsRangeIter h H.objs.size (0 + (i:Nat) * 1) ((n:Int) - (i:Nat)) 1) Z₁ (H.push { cls:=.type "range_iterator", data:=.fields #[rawInt 0,rawInt n,rawInt 1] }):=by
  have w:=Walks.range (prog:=c.prog) (w:=c.w) hA.handled H.objs.size 0 1 n
  refine Iter.ofWalks (T:="range_iterator") (Pv:=fun i v=>i < n∧∃ t,v=.int (0 + (i:Nat) * 1) t) ⟨w.sub,w.frame,fun i s Q E hi st hQ=>w.item i s Q E hi st fun v h' tk hv=>hQ v h' tk ⟨hi,hv⟩,w.done,w.self⟩ (by simp) (fun i h st=>⟨_,st,rfl⟩) ht (by decide) ?_ ?_
  ·rintro i v ⟨hi,t,rfl⟩
   refine ⟨.int i,by simp [hi],?_⟩
   rw [Int.mul_one,Int.zero_add]
   exact .int _ _
  ·intro z; obtain ⟨o,ho⟩:=R₁.inv.exZ _ z; rw [hI] at ho; cases ho
 have nI:¬ Z₁ H.objs.size∧¬ P H.objs.size∧¬ OwnA env H.objs.size∧∀ o,(H.objs.size,o)∉τ.hp:=by
  refine (I04 (fun z=>?_) (fun p=>?_) (fun o=>?_) (fun o ho=>?_))
  ·obtain ⟨o,e⟩:=R₁.inv.exZ _ z; rw [hI] at e; cases e
  ·obtain ⟨o,e⟩:=R₁.inv.exP _ p; rw [hI] at e; cases e
  ·obtain ⟨o,e⟩:=R₁.exOwn o; rw [hI] at e; cases e
  ·obtain ⟨ob,e⟩:=(R₁.hp.obj _ o (hle.2.1 _ o ho)).1.some; rw [hI] at e; cases e
 refine codeAny_mono (loop_core (P:=P) (H:=fun qa=>False) (σ₀:=τ) (s:={ s₁ with heap:=H.push { cls:=.type "range_iterator", data:=.fields #[rawInt 0,rawInt n,rawInt 1] },toks:=s₁.toks + 1 + 1 }) (k:=k) J hA W (fun b hb=>.inl (List.mem_singleton.mp hb)) (fun f=>f) ?_ R₃ nI.2.1 nI.1 nI.2.2.1 nI.2.2.2 (fun b f=>f.elim) (fun b f=>f.elim) hj turn done) ?_
 ·show IsRangeIter (H.push _) H.objs.size (0 + ((0:Nat):Int) * 1) ((n:Int) - ((0:Nat):Int)) 1
  rw [show (0 + ((0:Nat):Int) * 1)=0 from rfl,show (n:Int) - ((0:Nat):Int)=n from Int.sub_zero _]
  exact Heap.get?_push_size _ rfl
 ·intro r s' hr
  cases r with
  | error e=>exact hr
  | ok f =>
   refine E34 hr fun Z' fv τ' S' R' rf hk''=>?_; clear hr
   refine (fin_mk ?_ (R'.unprotect R.inv.tp (fun b p=>.inl p) R.freeP) rf hk'')
   exact S₁.trans ((Step.kp hkp).trans (S'.down fun b p=>.inl p))
end
end Mine
end
noncomputable section
set_option maxRecDepth 100000
set_option maxHeartbeats 2000000
namespace Mine
open PySem PySem.SeqAt PyProof.Rows
theorem Rm.one {n:Nat} {A:Around} (h:Rm (n + 1) A):Rm 1 A:=⟨h.handled,Nat.lt_of_le_of_lt (Nat.add_le_add_left (Nat.mul_le_mul_left 100 (Nat.le_add_left 1 n)) _) h.units,Nat.lt_of_le_of_lt (Nat.add_le_add_left (Nat.mul_le_mul_left 10 (Nat.le_add_left 1 n)) _) h.depth⟩
theorem k_pairs:DefK D_pairs ["routes"] D_pairs.body:=mkK rfl (by
 intro nm qual pm code doc vs h
 obtain ⟨x,rfl⟩:=list1 h; rfl)
section
variable {c:Cx} {A:Around} {env:Env} {ς:List (Str×V)} {η:List (Addr×O)} {pos:Pos} {e:Expr} {P Q:Prop} {n:Nat} {Xs:List V} {R:V}
theorem tp_O3 {e2 e3:Expr} {Q':Prop} (h:TP c A env ⟨ς,η⟩ e P) (h2:TP c A env ⟨ς,η⟩ e2 Q) (h3:TP c A env ⟨ς,η⟩ e3 Q'):TP c A env ⟨ς,η⟩ (.BoolOp .Or [e,e2,e3] pos) (P∨Q∨Q') :=
 ⟨fun k hk=>wT_BoolOp ((ta_O h (fun qa=>ta_O h2 fun qa=>ta_O h3 fun qa=>ta_O0)).run k fun b hb=>hk b (hb.trans (or_congr Iff.rfl (or_congr Iff.rfl (or_iff_left id)))))⟩
theorem pure_defC {a:Addr} {D:DefD} {ps:List Str} {body:List Stmt} {code:Value} (F:IsFnC c a D code) (K:DefK D ps body) (hlen:Xs.length=ps.length)
  (h:∀ A qual L,Rm n A→WSs c A (envD D qual code L a) ⟨ps.zip Xs,[]⟩ body (RetK R)):Pure c (n + 1) a Xs R :=
 call_defC F K hlen fun A qual L hR=>WP.imp (h A qual L hR) fun f ω hf=>by
  cases hf; exact ⟨⟨[],[]⟩,⟨fun qa qb e=>(by simp at e),fun qa qb x=>(by cases x),fun qa=>.nil⟩,rfl,rfl⟩
theorem genK {D:DefD} {qual:Str} {L a:Addr} {scope:Scope} {q:Addr×Addr} (hq:q∈tabs) (B:BltOk c) (hR:Rm (n + 1) A) (h1:scope.kind=.function) (h2:(scope.names.map (·.1)).Nodup) (h3:∀ p∈scope.names,p.2=.free→D.scope.names.lookup p.1=some .cell)
  (h4:scope.isCoroutine=false) (h5:∀ y∈scope.names,y.2≠.cell) (h6:scope.names.lookup (".0" : Str)=some NameKind.local):GenK c A (envD D qual (.ref q.1) L a) scope:=⟨⟨q,hq,rfl⟩,B,cok h1 h2 h3,h4,h5,h6,hR.one⟩
end
noncomputable def shareB (a b:Rt):Bool:=(a.ov.map fun s=>decide (s∈b.ov)).any id
noncomputable def differB (a b:Rt):Bool:=(a.nd.flatMap fun p=>b.nd.map fun q=>decide (p.1=q.1)&&!decide (p.2=q.2)).any id
noncomputable def pairB (a b:Rt):Bool:=shareB a b||(differB a b||decide (a.st=b.st))
noncomputable def pairsL:List Rt→List (Str×Str)
 | []=>[]
 | r::rs=>(rs.filter (pairB r)).map (fun q=>(r.nm,q.nm))++pairsL rs
theorem pairsL_len:∀ rs:List Rt,(pairsL rs).length≤rs.length * rs.length
 | []=>Nat.le_refl _
 | r::rs=>by
  have h1:=List.length_filter_le (pairB r) rs
  have h2:=pairsL_len rs
  show ((rs.filter (pairB r)).map (fun q=>(r.nm,q.nm))++pairsL rs).length≤(rs.length + 1) * (rs.length + 1)
  rw [List.length_append,List.length_map,Nat.add_mul,Nat.one_mul,Nat.mul_add,Nat.mul_one,Nat.add_comm]
  exact Nat.add_le_add (Nat.le_trans h2 (Nat.le_add_right _ _)) (Nat.le_succ_of_le h1)
theorem le_locE {l l':List (Str×V)} {hp hp':List (Addr×O)} (h:Sub l' l) (e:hp=hp'):St.le ⟨l,hp⟩ ⟨l',hp'⟩:=e▸le_loc h
noncomputable def locR (rs:List Rt) (d:Addr):List (Str×V):=[("routes", .lst (rs.map Rt.v)),("out", .ref d)]
theorem spec_pairs {c:Cx} {a:Addr} {n:Nat} (F:IsFnC c a D_pairs (.ref 187)) (B:BltOk c) (b1:c.mg "range" = none) (b2:c.mg "len" = none) (b3:c.mg "any" = none) {rs:List Rt} (h1:rs.length≤20):Pure c (n + 2) a [.lst (rs.map Rt.v)] (.lst (prs (pairsL rs))):=by
 refine call_defC F k_pairs rfl fun A qual L hR=>?_
 conv in D_pairs.body=>whnf
 have hsz:(rs.map Rt.v).length≤sizeLine:=by rw [List.length_map]; exact sz100 (Nat.le_trans h1 (by decide))
 have ho:∀ {o t:List (Str×Str)},o++t=pairsL rs→(prs o).length≤sizeLine:=fun {o t} e=>by
  rw [prs_len]
  have h:=pairsL_len rs
  rw [← e,List.length_append] at h
  exact sz900 (Nat.le_trans (Nat.le_trans (Nat.le_add_right _ _) h) (Nat.le_trans (Nat.mul_le_mul h1 h1) (by decide)))
 refine sLst0 (.inl rfl) fun d=>?_
 refine wSs_cons (wS_ForR (fun r τ=>∃ (i:Nat) (o:List (Str×Str)),i≤rs.length∧r=((List.range rs.length).drop i).map (fun i:Nat=>V.int (i:Int))∧τ=⟨locR rs d,[(d,.lst (prs o))]⟩∧o++pairsL (rs.drop i)=pairsL rs) b1 rfl ((ev_CallB b2 rfl (.blt _) rfl (evs (ev_N rfl) evs0) (b_len_lst hsz)).run _ ⟨rs.length,by rw [List.length_map],Nat.le_trans h1 (by decide),⟨locR rs d,[(d,.lst (prs []))]⟩,le_loc (I03 rfl rfl trivial),0,[],Nat.zero_le _,rfl,rfl,rfl⟩) (fun X rest τ hJ=>?_) (fun τ hJ=>?_))
 ·refine E24 hJ fun i o hi z2 z3 he=>?_
  clear hJ
  have hlt:i < rs.length:=by
   rcases Nat.lt_or_ge i rs.length with h | h
   ·exact h
   ·rw [List.drop_eq_nil_of_le (by rw [List.length_range]; exact h)] at z2; cases z2
  rw [List.drop_eq_getElem_cons (by rw [List.length_range]; exact hlt),List.getElem_range,List.map_cons] at z2
  have e1:=(List.cons.inj z2).1
  have e2:=(List.cons.inj z2).2
  subst e1; subst e2; subst z3
  clear z2
  have hdr:rs.drop i=rs[i]::rs.drop (i + 1):=List.drop_eq_getElem_cons hlt
  have hg:(rs.map Rt.v)[((i:Nat):Int).toNat]?=some rs[i].v:=by rw [Int.toNat_natCast,List.getElem?_map,List.getElem?_eq_getElem hlt]; rfl
  rw [hdr] at he
  generalize rs[i]=r at *
  replace he:o++(((rs.drop (i + 1)).filter (pairB r)).map (fun q=>(r.nm,q.nm))++pairsL (rs.drop (i + 1)))=pairsL rs:=he
  have hb:((i:Nat):Int) < 2 ^ 62:=Int.lt_of_lt_of_le (Int.ofNat_lt.mpr (Nat.lt_of_lt_of_le hlt h1)) (by decide)
  refine (av_N (.inl rfl)).run _ ?_
  refine sSet (X:=r.v) (.inl rfl) (ev_Sub (ev_N rfl) (ev_N rfl) (item_lst (Int.natCast_nonneg i) hb hg)) ?_
  refine sFold (ls:=rs.drop (i + 1)) (f:=Rt.v) (ς:=[("routes", .lst (rs.map Rt.v)),("out", .ref d),("i", .int i),("one", r.v)]) (S:=fun dn qa=>[(d,.lst (prs (o++(dn.filter (pairB r)).map (fun q=>(r.nm,q.nm)))))]) (ev_eq (ev_slFrom (ys:=rs) (ev_N rfl) (sz100 (Nat.le_trans h1 (by decide))) (ev_Bin (ev_N rfl) ev_i bin_add_int) (Int.add_nonneg (Int.natCast_nonneg i) (by decide))) (by rw [show ((i:Int) + 1).toNat=i + 1 from rfl])) seq_lst rfl (le_locE (I05 rfl rfl rfl rfl trivial) (by rw [List.filter_nil,List.map_nil,List.append_nil])) (fun dn q td hdn k' hk=>?_) ?_
  ·have e0:(o++(dn.filter (pairB r)).map (fun q=>(r.nm,q.nm)))++(((q::td).filter (pairB r)).map (fun q=>(r.nm,q.nm))++pairsL (rs.drop (i + 1)))=pairsL rs:=by
    rw [← he,← hdn,List.filter_append,List.map_append]; simp only [List.append_assoc]
   have hl:=ho e0
   have es:o++((dn++[q]).filter (pairB r)).map (fun q=>(r.nm,q.nm))=(o++(dn.filter (pairB r)).map (fun q=>(r.nm,q.nm)))++if pairB r q=true then [(r.nm,q.nm)] else []:=by
    rw [List.filter_append,List.map_append,List.append_assoc]
    cases h:pairB r q <;> simp [h]
   rw [es] at hk
   clear es e0
   generalize o++(dn.filter (pairB r)).map (fun q=>(r.nm,q.nm))=o' at *
   refine (av_N (.inr rfl)).run _ ?_
   refine sSet (X:=.bool (shareB r q)) (.inl rfl) (eb_any (ls:=r.ov) (f:=V.str) (fun s=>decide (s∈q.ov)) inj_str (genK (q:=(187,183)) (by decide) B hR rfl (by decide) (by decide) rfl (by decide) rfl) b3 rfl (ev_at rfl rfl) fun A' C code s qa=>⟨_,av_N (.inl rfl),ev_Cmp (ev_N rfl) (ev_at rfl rfl) cmp_in_strs,ll1 rfl⟩) ?_
   refine sSet (X:=.bool (differB r q)) (.inl rfl) (eb_any2 (ls:=r.nd) (f:=fun p:Str×Str=>V.tup [.str p.1,.str p.2]) (f':=fun p:Str×Str=>V.tup [.str p.1,.str p.2]) (fun qa=>q.nd) (fun p q=>decide (p.1=q.1)&&!decide (p.2=q.2)) inj_pair inj_pair (genK (q:=(187,183)) (by decide) B hR rfl (by decide) (by decide) rfl (by decide) rfl) b3 rfl (ev_eq (ev_at rfl rfl) (congrArg V.lst (prs_map _))) fun C code p qa A' =>
    ⟨_,av2 (.inl rfl) (.inl rfl),ll2 rfl rfl,ev_eq (ev_at rfl rfl) (congrArg V.lst (prs_map _)),fun A'' x qa=>⟨_,av2 (.inl rfl) (.inl rfl),eb_And (ev_Cmp (ev_N rfl) (ev_N rfl) cmp_eq_str) (ev_Cmp (ev_N rfl) (ev_N rfl) cmp_ne_str),ll2 rfl rfl⟩⟩) ?_
   have hpb:(shareB r q=true∨differB r q=true∨r.st=q.st)↔pairB r q=true:=by unfold pairB; rw [Bool.or_eq_true,Bool.or_eq_true,decide_eq_true_eq]
   refine sIf (tp_iff (tp_O3 (tp_bool (ev_N rfl)) (tp_bool (ev_N rfl)) (tp_eq (ev_at rfl rfl) (ev_at rfl rfl))) hpb) (fun z=>?_) fun z=>?_
   ·rw [if_pos z] at hk
    refine sApp (X:=.tup [.str r.nm,.str q.nm]) rfl (ev_Tup (evs (ev_at rfl rfl) (evs (ev_at rfl rfl) evs0)) n2) hl ?_
    rw [prs_snoc o' (r.nm,q.nm)]
    exact wSs_nil (wSs_nil (hk _ (le_loc (I05 rfl rfl rfl rfl trivial))).1)
   ·rw [if_neg z,List.append_nil] at hk
    exact wSs_nil (wSs_nil (hk _ (le_loc (I05 rfl rfl rfl rfl trivial))).1)
  ·exact wSs_nil ⟨⟨locR rs d,[(d,.lst (prs (o++((rs.drop (i + 1)).filter (pairB r)).map (fun q=>(r.nm,q.nm)))))]⟩,le_loc (I03 rfl rfl trivial),i + 1,_,hlt,rfl,rfl,by rw [List.append_assoc]; exact he⟩
 ·refine E24 hJ fun i o hi z2 z3 he=>?_
  clear hJ
  have hge:rs.length≤i:=by
   rcases Nat.lt_or_ge i rs.length with h | h
   ·rw [List.drop_eq_getElem_cons (by rw [List.length_range]; exact h)] at z2; cases z2
   ·exact h
  rw [List.drop_eq_nil_of_le hge] at he
  have he':o=pairsL rs:=(List.append_nil o).symm.trans he
  subst z3; subst he'
  exact wSs_cons (wS_ReturnF ((ev_N rfl).run _ (I34 d _ _ rfl (.head _) rfl (I13 ⟨[],[]⟩ le_nil rfl rfl))))
end Mine
end
noncomputable section
set_option maxRecDepth 100000
set_option maxHeartbeats 2000000
namespace Mine
open PySem PySem.SeqAt PyProof.Rows
theorem k_route:DefK D_route ["lay","n"] D_route.body:=mkK rfl (by
 intro nm qual pm code doc vs h
 refine E21 (list2 h) fun x y z2=>?_; subst z2; rfl)
theorem k_llocked:DefK D_llocked ["lay","occ","held"] D_llocked.body:=mkK rfl (by
 intro nm qual pm code doc vs h
 refine E31 (list3 h) fun x y z z3=>?_; subst z3; rfl)
noncomputable def findR (lay:Lay) (nm:Str):Rt:=(lay.rts.find? fun r=>decide (r.nm=nm)).getD ⟨"","", [],[],""⟩
theorem findR_mem {lay:Lay} {nm:Str} (h:nm∈lay.rts.map Rt.nm):findR lay nm∈lay.rts∧(findR lay nm).nm=nm:=by
 refine E12 (List.mem_map.mp h) fun r hr z2=>?_; subst z2
 have h1:(lay.rts.find? fun q=>decide (q.nm=r.nm)).isSome:=List.find?_isSome.mpr (I12 r hr (decide_eq_true rfl))
 obtain ⟨q,hq⟩:=Option.isSome_iff_exists.mp h1
 have e:findR lay r.nm=q:=by unfold findR; rw [hq]; rfl
 rw [e]
 exact ⟨List.mem_of_find?_eq_some hq,by have:=List.find?_some hq; simpa using this⟩
theorem filter_find {lay:Lay} {nm:Str} {r:Rt} {tl:List Rt} (h:(lay.rts.filter fun r=>decide (r.nm=nm))=r::tl):findR lay nm=r∧nm∈lay.rts.map Rt.nm:=by
 have e:=List.head?_filter (l:=lay.rts) (p:=fun r=>decide (r.nm=nm))
 rw [h] at e
 refine ⟨by unfold findR; rw [← e]; rfl,?_⟩
 have hm:r∈lay.rts.filter fun r=>decide (r.nm=nm):=by rw [h]; exact .head _
 rw [List.mem_filter] at hm
 exact (of_decide_eq_true hm.2)▸List.mem_map_of_mem hm.1
theorem find_filter {lay:Lay} {nm:Str} (h:nm∈lay.rts.map Rt.nm):∃ tl,(lay.rts.filter fun r=>decide (r.nm=nm))=findR lay nm::tl:=by
 cases hc:lay.rts.filter fun r=>decide (r.nm=nm) with
 | nil=>exact absurd (decide_eq_true (findR_mem h).2) (List.filter_eq_nil_iff.mp hc _ (findR_mem h).1)
 | cons r tl=>exact ⟨tl,by rw [(filter_find hc).1]⟩
theorem le100 {n:Nat} (h:n≤20):n≤100:=Nat.le_trans h (by decide)
theorem spec_route {c:Cx} {a:Addr} {n:Nat} {lay:Lay} {nm:Str} (F:IsFn c a D_route) (h1:lay.rts.length≤20) (hk:nm∈lay.rts.map Rt.nm):Pure c (n + 1) a [lay.v,.str nm] (findR lay nm).v:=by
 refine pure_def F k_route rfl fun A qual code L hR=>?_
 conv in D_route.body=>whnf
 refine sRet (ev_L (ev_CompF (ls:=lay.rts) (fun r=>r.nm=nm) inj_rt (cok rfl (by decide) (by decide)) (ev_at rfl rfl) rfl (sz100 (le100 h1)) ?_) ?_)
 ·exact fun C r hr H hH=>tI (av_N (.inl rfl)) (tp_eq (ev_at rfl rfl) (ev_N rfl)) (fun qa=>ev_N rfl) (ll1 rfl)
 ·obtain ⟨tl,h⟩:=find_filter hk
  rw [h]; rfl
structure HG where
 nm:Str
 g:Nat
 e:Int
 w:Int
noncomputable def HG.v (h:HG):V:=.tup [.str h.nm,.int (h.g:Int),.int h.e,.int h.w]
theorem inj_hg:Inj HG.v:=fun a b h=>by
 obtain ⟨a1,a2,a3,a4⟩:=a
 obtain ⟨b1,b2,b3,b4⟩:=b
 simp only [HG.v,V.tup.injEq,List.cons.injEq,V.str.injEq,V.int.injEq,Int.natCast_inj,and_true] at h
 obtain ⟨h1,h2,h3,h4⟩:=h
 subst h1 h2 h3 h4; rfl
noncomputable def lockL (lay:Lay) (occ:List Str) (held:List HG):List Str :=
 (sel lay.pts (fun q=>q.2∈occ) fun q=>q.1)++lay.rts.flatMap fun r=>sel (if r.nm∈held.map HG.nm then r.nd else []) (fun qa=>True) fun q=>q.1
section
variable {c:Cx} {A:Around} {cenv:Env} {ςc:List (Str×V)} {ηc:List (Addr×O)} {α β:Type} {h:β→V} {target elt cond:Expr} {X:V}
theorem t2i {γ:Type} {f':γ→V} {m:List γ} {P:γ→Prop} [DecidablePred P] {Q:Prop} [Decidable Q] {y:γ→β} {l':List (Str×V)} {target' iter':Expr} {ifs':List Expr} {xs':List V} (hf':Inj f') (h1:∀ H,(∀ q∈ηc,q∈H)→AV c A cenv ⟨ςc,H⟩ target X ⟨l',H⟩) (hq:∀ H,(∀ q∈ηc,q∈H)→TP c A cenv ⟨l',H⟩ cond Q)
  (h2:∀ H,(∀ q∈ηc,q∈H)→EV c A cenv ⟨l',H⟩ iter' (.lst xs')) (hx:xs'=m.map f') (h3:LeL ςc l') (h4:∀ b∈m,TurnD c A cenv l' ηc target' ifs' elt (f' b) (P b) (h (y b))) (hp:plainTarget target'=true:=by rfl) :
  Turn2 c A cenv ⟨ςc,ηc⟩ target [cond] target' iter' ifs' elt X ((sel (if Q then m else []) P y).map h):=Turn2.of hf' fun D zs=>by
 have hH:∀ q∈ηc,q∈((D,O.lst zs)::ηc):=fun q hq=>.tail _ hq
 refine (h1 _ hH).run _ (wTs_cons ((hq _ hH).run _ fun b hb=>?_))
 cases b with
 | true =>
  have e:sel (if Q then m else []) P y=sel m P y:=by rw [if_pos (hb.mp rfl)]
  rw [e]
  exact wTs_nil ((h2 _ hH).run _ ⟨xs',seq_lst hp,⟨l',ηc⟩,m,fun b=>if P b then [h (y b)] else [],hx,St.le.refl _,(sel_map m).symm,h3,rfl,fun b hb=>(h4 b hb).turn⟩)
 | false =>
  have e:sel (if Q then m else []) P y=[]:=by rw [if_neg fun q=>Bool.noConfusion (hb.mpr q)]; rfl
  rw [e]
  exact ⟨h3.le,rfl⟩
end
theorem lockL_len {lay:Lay} {occ:List Str} {held:List HG} (h1:lay.rts.length≤20) (h2:lay.pts.length≤20) (h4:∀ r∈lay.rts,r.nd.length≤20):(sel lay.pts (fun q=>q.2∈occ) fun q=>q.1).length≤20∧(lay.rts.flatMap fun r=>sel (if r.nm∈held.map HG.nm then r.nd else []) (fun qa=>True) fun q=>q.1).length≤400:=by
 refine ⟨Nat.le_trans (sel_len _) h2,Nat.le_trans (sel2_len (m:=fun r:Rt=>if r.nm∈held.map HG.nm then r.nd else []) (P:=fun qa qb=>True) (y:=fun qa q=>q.1) (k:=20) lay.rts fun r hr=>?_) (Nat.mul_le_mul_right 20 h1)⟩
 split
 ·exact h4 r hr
 ·exact Nat.zero_le _
theorem spec_llocked {c:Cx} {a:Addr} {n:Nat} {lay:Lay} {occ:List Str} {held:List HG} (F:IsFn c a D_llocked) (h1:lay.rts.length≤20) (h2:lay.pts.length≤20) (h3:held.length≤20) (h4:∀ r∈lay.rts,r.nd.length≤20) :
  Pure c (n + 1) a [lay.v,.lst (occ.map .str),.lst (held.map HG.v)] (.lst ((lockL lay occ held).map .str)):=by
 refine pure_def F k_llocked rfl fun A qual code L hR=>?_
 conv in D_llocked.body=>whnf
 have hl:=lockL_len (occ:=occ) (held:=held) h1 h2 h4
 refine sSet (X:=.lst ((held.map HG.nm).map .str)) (.inr rfl) (ev_CompY (ls:=held) V.str HG.nm inj_hg (cok rfl (by decide) (by decide)) (ev_N rfl) rfl (sz100 (le100 h3)) ?_) ?_
 ·exact fun C h hh H hH=>tM (av_N (.inl rfl)) (ev_at rfl rfl) (ll1 rfl)
 refine sComp (ls:=lay.pts) (fun q=>q.2∈occ) V.str (fun q=>q.1) inj_pair (cok rfl (by decide) (by decide)) (.inl rfl) (ev_at rfl rfl) (prs_map lay.pts) (sz100 (le100 h2)) ?_ ?_
 ·exact fun C q hq H hH=>tI (av2 (.inl rfl) (.inl rfl)) (tp_in (ev_N rfl) (ev_N rfl)) (fun qa=>ev_N rfl) (ll2 rfl rfl)
 refine sRet (ev_addM (ev_N rfl) (ev_Comp2 (ls:=lay.rts) (fun r=>if r.nm∈held.map HG.nm then r.nd else []) (fun qa qb=>True) V.str (fun qa q=>q.1) inj_rt (cok rfl (by decide) (by decide)) rfl (ev_at rfl rfl) rfl (sz900 (Nat.le_trans hl.2 (by decide))) ?_) (Nat.le_trans (Nat.add_le_add hl.1 hl.2) (by decide)))
 exact fun C r hr=>t2i (P:=fun qa=>True) (y:=fun q:Str×Str=>q.1) inj_pair (fun H hH=>av_N (.inl rfl)) (fun H hH=>tp_in (ev_at rfl rfl) (ev_N rfl)) (fun H hH=>ev_at rfl rfl) (prs_map r.nd) (ll1 rfl) fun q hq H hH=>tM (av2 (.inl rfl) (.inl rfl)) (ev_N rfl) (ll2 rfl rfl)
end Mine
end
noncomputable section
namespace Mine
open PySem PySem.Spec PyProof.Rows
noncomputable def knOf (lay:Lay):Kn:=⟨findR lay,fun nm=>decide (nm∈lay.rts.map Rt.nm),fun p=>(tget lay.pts p).getD "", fun g=>(tget lay.sigs g).getD ""⟩
structure LH (lay:Lay):Prop where
 rnd:(lay.rts.map Rt.nm).Nodup
 pnd:(lay.pts.map (·.1)).Nodup
 snd:(lay.sigs.map (·.1)).Nodup
 ov:∀ r∈lay.rts,r.ov.Nodup∧r.ov.length≤20∧r.ov≠[]
 ndn:∀ r∈lay.rts,(r.nd.map (·.1)).Nodup∧r.nd.length≤20
 ndp:∀ r∈lay.rts,∀ q∈r.nd,q.1∈lay.pts.map (·.1)
 st:∀ r∈lay.rts,r.st∈lay.sigs.map (·.1)
 rl:lay.rts.length≤20
 pl:lay.pts.length≤20
 sl:lay.sigs.length≤20
 scl:lay.secs.length≤20
 nS:("S" : Str)∉lay.pts.map (·.1)
structure HInv (lay:Lay) (held:List Held):Prop where
 heldl:held.length≤20
 names:(held.map Held.nm).Nodup
 known:∀ h∈held,h.nm∈lay.rts.map Rt.nm
 sub:∀ h∈held,h.left.length≤20∧∀ s∈h.left,s∈(findR lay h.nm).ov
 e0:∀ h∈held,0≤h.e∧0≤h.w
 sts:(held.map fun h=>(findR lay h.nm).st).Nodup
structure SInv (lay:Lay) (st:Sta):Prop where
 pos:st.pos.map (·.1)=lay.pts.map (·.1)
 srt:sortedS st.occ=true
 ond:st.occ.Nodup
 occl:st.occ.length≤20
 held:HInv lay st.held
theorem nodup_inj {α β:Type} {f:α→β} {l:List α} (h:(l.map f).Nodup) {a b:α} (ha:a∈l) (hb:b∈l) (e:f a=f b):a=b:=by
 induction l with
 | nil=>cases ha
 | cons x l ih =>
  rw [List.map_cons,List.nodup_cons] at h
  rcases List.mem_cons.mp ha with h1 | h1 <;> rcases List.mem_cons.mp hb with h2 | h2
  ·rw [h1,h2]
  ·exact absurd (by rw [← h1,e]; exact List.mem_map_of_mem (f:=f) h2) h.1
  ·exact absurd (by rw [← h2,← e]; exact List.mem_map_of_mem (f:=f) h1) h.1
  ·exact ih h.2 h1 h2
theorem LH.find {lay:Lay} (L:LH lay) {r:Rt} (hr:r∈lay.rts):findR lay r.nm=r:=by
 have h:=findR_mem (List.mem_map_of_mem (f:=Rt.nm) hr)
 exact nodup_inj L.rnd h.1 hr h.2
theorem rsOf_new:∀ (rts:List Rt) (es:List (Str×V)),(es.map (·.1)++rts.map Rt.nm).Nodup→rsOf rts es=es++rts.map fun r=>(r.nm,r.v)
 | [],es,_=>by simp [rsOf]
 | r::rts,es,h=>by
  show rsOf rts (dset es r.nm r.v)=_
  have h1:r.nm∉es.map (·.1):=by
   rw [List.nodup_append] at h
   intro h2
   exact h.2.2 _ h2 r.nm (by simp) rfl
  have hn:dget es r.nm=none:=by
   unfold dget
   rw [Option.map_eq_none_iff,List.find?_eq_none]
   intro e he h2
   exact h1 ((of_decide_eq_true h2)▸List.mem_map_of_mem (f:=(·.1)) he)
  rw [dset_new hn,rsOf_new rts]
  ·simp
  ·simpa using h
theorem dget_rts (rts:List Rt) (nm:Str):dget (rts.map fun r=>(r.nm,r.v)) nm=(rts.find? fun r=>decide (r.nm=nm)).map Rt.v:=by
 unfold dget
 rw [List.find?_map,Option.map_map]
 rfl
section
variable {lay:Lay} {st:Sta}
theorem findR_cases (lay:Lay) (nm:Str):(nm∈lay.rts.map Rt.nm∧findR lay nm∈lay.rts)∨(nm∉lay.rts.map Rt.nm∧findR lay nm=⟨"","", [],[],""⟩):=by
 by_cases h:nm∈lay.rts.map Rt.nm
 ·exact .inl ⟨h,(findR_mem h).1⟩
 ·refine .inr ⟨h,?_⟩
  unfold findR
  have:lay.rts.find? (fun r=>decide (r.nm=nm))=none:=by
   rw [List.find?_eq_none]
   intro r hr e
   exact h ((of_decide_eq_true e)▸List.mem_map_of_mem hr)
  rw [this]; rfl
theorem layOk_of (L:LH lay):LayOk lay (knOf lay) where
 rts:=Nat.le_trans L.rl (by decide)
 pts:=Nat.le_trans L.pl (by decide)
 sigs:=Nat.le_trans L.sl (by decide)
 get:=fun nm=>by
  rw [rsOf_new lay.rts [] (by simpa using L.rnd),List.nil_append,dget_rts]
  show _=if decide (nm∈lay.rts.map Rt.nm)=true then some (findR lay nm).v else none
  by_cases h:nm∈lay.rts.map Rt.nm
  ·rw [if_pos (decide_eq_true h)]
   have hR:=findR_mem h
   have hs:(lay.rts.find? fun r=>decide (r.nm=nm)).isSome:=List.find?_isSome.mpr (I12 _ (hR.1) (decide_eq_true hR.2))
   obtain ⟨q,hq⟩:=Option.isSome_iff_exists.mp hs
   have e:findR lay nm=q:=by unfold findR; rw [hq]; rfl
   rw [hq,e]; rfl
  ·rw [if_neg (by simpa using h)]
   have:lay.rts.find? (fun r=>decide (r.nm=nm))=none:=by
    rw [List.find?_eq_none]
    intro r hr e
    exact h ((of_decide_eq_true e)▸List.mem_map_of_mem hr)
   rw [this]; rfl
 rt:=fun nm=>by
  show RtOk (findR lay nm)
  rcases findR_cases lay nm with ⟨_,h⟩ | ⟨_,h⟩
  ·exact ⟨Nat.le_trans (L.ov _ h).2.1 (by decide),Nat.le_trans (L.ndn _ h).2 (by decide)⟩
  ·rw [h]; exact ⟨Nat.zero_le _,Nat.zero_le _⟩
 hm:=fun p hp=>by
  rw [tfold_self L.pnd]
  obtain ⟨v,hv⟩:=tget_some hp
  show _=some ((tget lay.pts p).getD "")
  rw [hv]; rfl
 sg:=fun nm hk=>by
  rw [tfold_self L.snd]
  have hk:nm∈lay.rts.map Rt.nm:=of_decide_eq_true hk
  obtain ⟨v,hv⟩:=tget_some (L.st _ (findR_mem hk).1)
  show tget lay.sigs (findR lay nm).st=some ((tget lay.sigs (findR lay nm).st).getD "")
  rw [hv]; rfl
 nd:=fun nm q hq=>by
  have hq:q∈(findR lay nm).nd:=hq
  rcases findR_cases lay nm with ⟨_,h⟩ | ⟨_,h⟩
  ·exact L.ndp _ h q hq
  ·rw [h] at hq; cases hq
theorem SInv.posnd (L:LH lay) (I:SInv lay st):(st.pos.map (·.1)).Nodup:=I.pos▸L.pnd
theorem staOk_of (L:LH lay) (I:SInv lay st):StaOk lay (knOf lay) st where
 pos:=fun p=>by rw [tfold_self (I.posnd L),tget_isSome,I.pos]
 posl:=by have h:=congrArg List.length I.pos; rw [List.length_map,List.length_map] at h; rw [h]; exact Nat.le_trans L.pl (by decide)
 occl:=Nat.le_trans I.occl (by decide)
 heldl:=Nat.le_trans I.held.heldl (by decide)
 names:=I.held.names
 known:=fun h hh=>decide_eq_true (I.held.known h hh)
 left:=fun h hh=>Nat.le_trans (I.held.sub h hh).1 (by decide)
 e0:=fun h hh=>(I.held.e0 h hh).1
 sub:=fun h hh=>(I.held.sub h hh).2
noncomputable def lockH (lay:Lay) (occ:List Str) (held:List Held) (p:Str):Bool:=decide ((tget lay.pts p).getD "" ∈ occ)||held.any fun h=>!h.left.isEmpty&&decide (p∈(findR lay h.nm).nd.map (·.1))
noncomputable def setH (lay:Lay) (st:Sta) (nm:Str):Str :=
 if nm∉lay.rts.map Rt.nm then "unknown" else if (st.held.any fun h=>decide (h.nm=nm))=true then "held" else if ((findR lay nm).ov.any fun s=>decide (s∈st.occ))=true then "occupied"
 else if (st.held.any fun h=>clashB (findR lay nm) (findR lay h.nm))=true then "conflict" else if ((findR lay nm).nd.any fun q=>!decide (tget st.pos q.1=some q.2)&&lockH lay st.occ st.held q.1)=true then "locked" else "done"
noncomputable def entH (lay:Lay) (s:Str) (h:Held):Held:=if (findR lay h.nm).ov[h.e.toNat]?=some s then { h with e:=h.e + 1,w:=0 } else h
noncomputable def leaveH (lay:Lay) (s:Str) (h:Held):List Held :=
 match h.left with
 | []=>[h]
 | x::l=>if x=s∧s∈(findR lay h.nm).ov.take h.e.toNat then (if l=[] then [] else [{ h with left:=l }]) else [h]
noncomputable def tickH (h:Held):List Held:=if h.w=0 then [h] else if h.w - 1=0 then [] else [{ h with w:=h.w - 1 }]
noncomputable def cancelH (lay:Lay) (st:Sta) (nm:Str):Sta×Str :=
 match st.held.find? (fun h=>decide (h.nm=nm)) with
 | none=>(st,"unknown")
 | some h=>if h.e≠0 then (st,"entered") else if h.w≠0 then (st,"waiting") else if (tget lay.sigs (findR lay nm).st).getD "" ∈ st.occ then (⟨st.pos,st.occ,st.held.map fun h=>if h.nm=nm then { h with w:=3 } else h⟩,"waits") else (⟨st.pos,st.occ,st.held.filter fun h=>decide (h.nm≠nm)⟩,"done")
noncomputable def stepH (lay:Lay) (st:Sta):Ev→Sta×Str
 | .set nm=>if setH lay st nm = "done" then (⟨tfold (findR lay nm).nd st.pos,st.occ,st.held++[⟨nm,(findR lay nm).ov,0,0⟩]⟩,"done") else (st,setH lay st nm)
 | .cancel nm=>cancelH lay st nm
 | .tick=>(⟨st.pos,st.occ,st.held.flatMap tickH⟩,"done")
 | .enter s=>if s∈lay.secs then (if s∈st.occ then (st,"occupied") else (⟨st.pos,sortL (st.occ++[s]),st.held.map (entH lay s)⟩,"done")) else (st,"unknown")
 | .leave s=>if s∈lay.secs then (if s∈st.occ then (⟨st.pos,st.occ.filter fun x=>decide (x≠s),st.held.flatMap (leaveH lay s)⟩,"done") else (st,"free")) else (st,"unknown")
 | .move p x=>if p∈lay.pts.map (·.1) then (if lockH lay st.occ st.held p=true then (st,"locked") else (⟨tset st.pos p x,st.occ,st.held⟩,"done")) else (st,"unknown")
noncomputable def Does (lay:Lay) (st:Sta) (ev:Ev) (st':Sta) (ans:Str):Prop:=∀ X,ActPost (knOf lay) lay st ev X→X=.tup [st'.v,.str ans]
theorem lock_eq {rows:List Row} {occ:List Str} {p:Str}:lockB (findR lay) occ ((tget lay.pts p).getD "") p rows=lockH lay occ (rows.map Row.held) p:=by
 unfold lockB lockH
 rw [List.any_map]; rfl
theorem setF_eq {rows:List Row} {pos:List (Str×Str)} {occ:List Str} {nm:Str}:setF (findR lay) (decide (nm∈lay.rts.map Rt.nm)) (fun p=>(tget lay.pts p).getD "") pos occ rows nm=(setH lay ⟨pos,occ,rows.map Row.held⟩ nm,if setH lay ⟨pos,occ,rows.map Row.held⟩ nm = "done" then tfold (findR lay nm).nd pos else pos):=by
 unfold setF setH
 simp only [lock_eq,List.any_map]
 by_cases h1:nm∈lay.rts.map Rt.nm
 ·rw [if_neg (by rw [decide_eq_true h1]; exact Bool.noConfusion),if_neg (not_not_intro h1)]
  by_cases h2:(rows.any fun r=>decide (r.nm=nm))=true
  ·rw [if_pos h2,if_pos (show (rows.any ((fun h:Held=>decide (h.nm=nm))∘Row.held))=true from h2)]; rfl
  rw [if_neg h2,if_neg (show ¬ (rows.any ((fun h:Held=>decide (h.nm=nm))∘Row.held))=true from h2)]
  by_cases h3:((findR lay nm).ov.any fun s=>decide (s∈occ))=true
  ·rw [if_pos h3,if_pos h3]; rfl
  rw [if_neg h3,if_neg h3]
  by_cases h4:(rows.any fun r=>clashB (findR lay nm) (findR lay r.nm))=true
  ·rw [if_pos h4,if_pos (show (rows.any ((fun h:Held=>clashB (findR lay nm) (findR lay h.nm))∘Row.held))=true from h4)]; rfl
  rw [if_neg h4,if_neg (show ¬ (rows.any ((fun h:Held=>clashB (findR lay nm) (findR lay h.nm))∘Row.held))=true from h4)]
  by_cases h5:((findR lay nm).nd.any fun q=>!decide (tget pos q.1=some q.2)&&lockH lay occ (rows.map Row.held) q.1)=true
  ·rw [if_pos h5,if_pos h5]; rfl
  ·rw [if_neg h5,if_neg h5]; rfl
 ·rw [if_pos (decide_eq_false h1),if_pos h1]; rfl
theorem sta_mk {P p:List (Str×Str)} {S o:List Str} {H h:List Held} {t t':Str} {R:Sta×Str} (e1:P=p) (e2:S=o) (e3:H=h) (e4:t=t') (e:R=(⟨p,o,h⟩,t')):(Sta.mk P S H,t)=R:=by
 subst e1; subst e2; subst e3; subst e4; exact e.symm
theorem ent_held {rows:List Row} {s:Str}:(rows.map (entR (findR lay) s)).map Row.held=(rows.map Row.held).map (entH lay s):=by
 rw [List.map_map,List.map_map]
 refine List.map_congr_left fun r qa=>?_
 show Row.held (if (findR lay r.nm).ov[r.e.toNat]?=some s then _ else _)=if (findR lay r.nm).ov[r.e.toNat]?=some s then _ else _
 split <;> rfl
theorem leave_held {rows:List Row} {s:Str}:(rows.flatMap (leaveR (findR lay) s)).map Row.held=(rows.map Row.held).flatMap (leaveH lay s):=by
 rw [List.map_flatMap,List.flatMap_map]
 congr 1
 funext r
 obtain ⟨nm,a,b,left,e,w⟩:=r
 cases left with
 | nil=>rfl
 | cons x l =>
  show (if x=s∧s∈(findR lay nm).ov.take e.toNat then (if l=[] then [] else [_]) else [_]:List Row).map Row.held=if x=s∧s∈(findR lay nm).ov.take e.toNat then (if l=[] then [] else [_]) else [_]
  split
  ·split <;> rfl
  ·rfl
theorem tick_held {rows:List Row}:(rows.flatMap tickR).map Row.held=(rows.map Row.held).flatMap tickH:=by
 rw [List.map_flatMap,List.flatMap_map]
 congr 1
 funext r
 show (if r.w=0 then [r] else if r.w - 1=0 then [] else [_]:List Row).map Row.held=if r.w=0 then _ else if r.w - 1=0 then _ else _
 split
 ·rfl
 ·split <;> rfl
theorem cancel_held {pos:List (Str×Str)} {occ:List Str} {rows:List Row} {nm:Str}:(Sta.mk pos occ ((cancelF occ rows nm ((tget lay.sigs (findR lay nm).st).getD "")).2.map Row.held),(cancelF occ rows nm ((tget lay.sigs (findR lay nm).st).getD "")).1)=cancelH lay ⟨pos,occ,rows.map Row.held⟩ nm:=by
 unfold cancelH cancelF
 have hf:(rows.map Row.held).find? (fun h=>decide (h.nm=nm))=(rows.find? fun r=>decide (r.nm=nm)).map Row.held:=by rw [List.find?_map]; rfl
 dsimp only
 rw [hf]
 cases rows.find? (fun r=>decide (r.nm=nm)) with
 | none=>rfl
 | some r =>
  dsimp only [Option.map_some]
  show _=if r.e≠0 then _ else if r.w≠0 then _ else _
  by_cases h1:r.e≠0
  ·rw [if_pos h1,if_pos h1]
  rw [if_neg h1,if_neg h1]
  by_cases h2:r.w≠0
  ·rw [if_pos h2,if_pos h2]
  rw [if_neg h2,if_neg h2]
  generalize (tget lay.sigs (findR lay nm).st).getD "" = g
  by_cases h3:g∈occ
  ·rw [if_pos h3,if_pos h3]
   refine sta_mk rfl rfl ?_ rfl rfl
   rw [List.map_map,List.map_map]
   refine List.map_congr_left fun q qa=>?_
   show Row.held (if q.nm=nm then _ else _)=if q.nm=nm then _ else _
   split <;> rfl
  ·rw [if_neg h3,if_neg h3]
   refine sta_mk rfl rfl ?_ rfl rfl
   rw [List.filter_map]; rfl
theorem does_step (L:LH lay) (I:SInv lay st) (ev:Ev):Does lay st ev (stepH lay st ev).1 (stepH lay st ev).2:=by
 intro X hX
 refine E65 hX fun rows told pos' occ' rows' ss hrows T hp hs z=>?_
 clear hX
 refine z.trans (congrArg (fun q:Sta×Str=>V.tup [q.1.v,.str q.2]) (?_:(Sta.mk (lay.pts.map fun q=>(q.1,(tget pos' q.1).getD "")) ss (rows'.map Row.held),told)=stepH lay st ev))
 clear z
 rw [tfold_self (I.posnd L),sof_self I.ond] at T
 obtain ⟨pos,occ,held⟩:=st
 have hrows:rows.map Row.held=held:=hrows
 subst hrows
 have hpos:pos.map (·.1)=lay.pts.map (·.1):=I.pos
 have hsrt:sortedS occ=true:=I.srt
 have po:=pos_out hpos L.pnd
 clear I
 have pe:∀ {p:List (Str×Str)},pos'=p→p.map (·.1)=lay.pts.map (·.1)→(lay.pts.map fun q=>(q.1,(tget pos' q.1).getD ""))=p:=fun e h=>by subst e; exact pos_out h L.pnd
 have oe:∀ {o:List Str},occ'=o→sortedS o=true→ss=o:=fun e h=>srt_unique (e▸hp) hs h
 cases ev with
 | set nm =>
  refine E04 T fun z0 z1 z2 hr=>?_; clear T
  have e:=setF_eq (lay:=lay) (rows:=rows) (pos:=pos) (occ:=occ) (nm:=nm)
  have z0:=Eq.trans z0 (congrArg Prod.fst e)
  have z1:=Eq.trans z1 (congrArg Prod.snd e)
  have hr:rows'.map Row.held=rows.map Row.held++(if (setF (findR lay) (decide (nm∈lay.rts.map Rt.nm)) (fun p=>(tget lay.pts p).getD "") pos occ rows nm).1 = "done" then [⟨nm,(findR lay nm).ov,0,0⟩] else []):=hr
  rw [congrArg Prod.fst e] at hr
  clear e
  dsimp only at z0 z1 hr
  generalize hd:setH lay ⟨pos,occ,rows.map Row.held⟩ nm=d at *
  have hst:stepH lay ⟨pos,occ,rows.map Row.held⟩ (.set nm)=(if d = "done" then (⟨tfold (findR lay nm).nd pos,occ,rows.map Row.held++[⟨nm,(findR lay nm).ov,0,0⟩]⟩,"done") else (⟨pos,occ,rows.map Row.held⟩,d):Sta×Str):=by rw [← hd]; rfl
  by_cases h:d = "done"
  ·rw [if_pos h] at z1 hr hst
   exact sta_mk (pe z1 (by rw [tfold_names _ (fun q hq=>by rw [hpos]; exact (layOk_of L).nd nm q hq),hpos])) (oe z2 hsrt) hr (z0.trans h) hst
  ·rw [if_neg h] at z1 hr hst
   exact sta_mk (pe z1 hpos) (oe z2 hsrt) (hr.trans (List.append_nil _)) z0 hst
 | cancel nm =>
  refine E04 T fun z0 z1 z2 z3=>?_; clear T
  exact sta_mk (pe z1 hpos) (oe z2 hsrt) (congrArg (List.map Row.held) z3) z0 cancel_held.symm
 | tick =>
  refine E04 T fun z0 z1 z2 z3=>?_; clear T
  exact sta_mk (pe z1 hpos) (oe z2 hsrt) ((congrArg (List.map Row.held) z3).trans tick_held) z0 rfl
 | enter s =>
  refine E04 T fun z0 z1 z2 z3=>?_; clear T
  have fin:∀ {t:Str} {o:List Str} {r:List Row} {R:Sta×Str},enterF (findR lay) lay.secs occ rows s=(t,o,r)→ss=o→R=(⟨pos,o,r.map Row.held⟩,t)→(Sta.mk (lay.pts.map fun q=>(q.1,(tget pos' q.1).getD "")) ss (rows'.map Row.held),told)=R:=fun e h1 h2 =>
   sta_mk (pe z1 hpos) h1 (congrArg (List.map Row.held) (Eq.trans z3 (congrArg (fun q=>q.2.2) e))) (Eq.trans z0 (congrArg (fun q=>q.1) e)) h2
  have z2:occ'=(enterF (findR lay) lay.secs occ rows s).2.1:=z2
  by_cases h1:s∈lay.secs
  ·by_cases h2:s∈occ
   ·have eF:=(if_pos h1:enterF (findR lay) lay.secs occ rows s=_).trans (if_pos h2)
    exact fin eF (oe (z2.trans (congrArg (fun q=>q.2.1) eF)) hsrt) ((if_pos h1).trans (if_pos h2))
   ·have eF:=(if_pos h1:enterF (findR lay) lay.secs occ rows s=_).trans (if_neg h2)
    have ho:sadd occ s=occ++[s]:=if_neg h2
    refine sta_mk (pe z1 hpos) (sortL_eq ((z2.trans ((congrArg (fun q=>q.2.1) eF).trans ho))▸hp) hs) ((congrArg (List.map Row.held) (Eq.trans z3 (congrArg (fun q=>q.2.2) eF))).trans ent_held) (Eq.trans z0 (congrArg (fun q=>q.1) eF)) ((if_pos h1).trans (if_neg h2))
  ·have eF:=(if_neg h1:enterF (findR lay) lay.secs occ rows s=_)
   exact fin eF (oe (z2.trans (congrArg (fun q=>q.2.1) eF)) hsrt) (if_neg h1)
 | leave s =>
  refine E04 T fun z0 z1 z2 z3=>?_; clear T
  have fin:∀ {t:Str} {o:List Str} {r:List Row} {R:Sta×Str},leaveF (findR lay) lay.secs occ rows s=(t,o,r)→sortedS o=true→R=(⟨pos,o,r.map Row.held⟩,t)→(Sta.mk (lay.pts.map fun q=>(q.1,(tget pos' q.1).getD "")) ss (rows'.map Row.held),told)=R:=fun e h1 h2 =>
   sta_mk (pe z1 hpos) (oe (Eq.trans z2 (congrArg (fun q=>q.2.1) e)) h1) (congrArg (List.map Row.held) (Eq.trans z3 (congrArg (fun q=>q.2.2) e))) (Eq.trans z0 (congrArg (fun q=>q.1) e)) h2
  by_cases h1:s∈lay.secs
  ·by_cases h2:s∈occ
   ·exact fin ((if_pos h1).trans (if_pos h2)) (srt_filter _ hsrt) (((if_pos h1).trans (if_pos h2)).trans (by rw [leave_held]))
   ·exact fin ((if_pos h1).trans (if_neg h2)) hsrt ((if_pos h1).trans (if_neg h2))
  ·exact fin (if_neg h1) hsrt (if_neg h1)
 | move p x =>
  refine E04 T fun z0 z1 z2 z3=>?_; clear T
  have fin:∀ {t:Str} {q:List (Str×Str)} {R:Sta×Str},moveF (findR lay) pos occ rows ((tget lay.pts p).getD "") p x=(t,q)→q.map (·.1)=lay.pts.map (·.1)→R=(⟨q,occ,rows.map Row.held⟩,t)→(Sta.mk (lay.pts.map fun q=>(q.1,(tget pos' q.1).getD "")) ss (rows'.map Row.held),told)=R:=fun e h1 h2 =>
   sta_mk (pe (Eq.trans z1 (congrArg Prod.snd e)) h1) (oe z2 hsrt) (congrArg (List.map Row.held) z3) (Eq.trans z0 (congrArg Prod.fst e)) h2
  have hsm:(tget pos p).isSome=decide (p∈lay.pts.map (·.1)):=by rw [tget_isSome,hpos]
  have hlk:=lock_eq (lay:=lay) (rows:=rows) (occ:=occ) (p:=p)
  by_cases h1:p∈lay.pts.map (·.1)
  ·have h1':(tget pos p).isSome=true:=hsm.trans (decide_eq_true h1)
   by_cases h2:lockH lay occ (rows.map Row.held) p=true
   ·exact fin ((if_pos h1').trans (if_pos (hlk.trans h2))) hpos ((if_pos h1).trans (if_pos h2))
   ·exact fin ((if_pos h1').trans (if_neg fun z=>h2 (hlk.symm.trans z))) (by rw [tset_names (by rw [hpos]; exact h1),hpos]) ((if_pos h1).trans (if_neg h2))
  ·exact fin (if_neg fun z=>h1 (of_decide_eq_true (hsm.symm.trans z))) hpos (if_neg h1)
end
end Mine
end
noncomputable section
set_option maxRecDepth 100000
set_option maxHeartbeats 2000000
namespace Mine
open PySem PySem.SeqAt PyProof.Rows
theorem list6 {α:Type} {vs:List α} (h:vs.length=6):∃ x y z w v u,vs=[x,y,z,w,v,u]:=E22 (list_s h) fun x qa e h1=>E51 (list5 h1) fun y z w v u e1=>⟨x,y,z,w,v,u,e.trans (congrArg (x::·) e1)⟩
theorem k_lset:DefK D_lset ["lay","pairs","pos","occ","held","n"] D_lset.body:=mkK rfl (by
 intro nm qual pm code doc vs h
 obtain ⟨x,y,z,w,v,u,rfl⟩:=list6 h; rfl)
theorem ht_pair (p x:Str):HT (.tup [.str,.str]) (.tup [.str p,.str x]):=.tup (.cons (.str _) (.cons (.str _) .nil))
theorem ht_prs (l:List (Str×Str)):∀ y∈prs l,HT (.tup [.str,.str]) y:=by
 intro y hy
 rw [prs_map] at hy
 refine E12 (List.mem_map.mp hy) fun q qa z2=>?_; subst z2
 exact ht_pair _ _
theorem mem_prs {p x:Str} {l:List (Str×Str)}:V.tup [.str p,.str x]∈prs l↔(p,x)∈l:=by
 rw [prs_map,List.mem_map]
 constructor
 ·refine R12 fun q hq e=>?_
  have:=inj_pair (a:=q) (b:=(p,x)) e
  exact this▸hq
 ·intro h; exact (I12 _ h rfl)
noncomputable def tyPrs:Ty:=.lst (.tup [.str,.str])
noncomputable def tyRt:Ty:=.tup [.str,.str,.lst .str,tyPrs,.str]
noncomputable def tyHG:Ty:=.tup [.str,.int,.int,.int]
theorem ht_prsL (l:List (Str×Str)):HT tyPrs (.lst (prs l)):=.lst (ht_prs l)
theorem ht_strsL (l:List Str):HT (.lst .str) (.lst (l.map .str)):=.lst (ht_strs l)
theorem ht_rt (r:Rt):HT tyRt r.v:=.tup (.cons (.str _) (.cons (.str _) (.cons (ht_strsL _) (.cons (ht_prsL _) (.cons (.str _) .nil)))))
theorem ht_hg (h:HG):HT tyHG h.v:=.tup (.cons (.str _) (.cons (.int _) (.cons (.int _) (.cons (.int _) .nil))))
section
variable {c:Cx} {A:Around} {hp:List (Addr×O)} {env:Env} {ς:List (Str×V)} {η:List (Addr×O)} {p p₁ p₂ p₃ p₄ pos:Pos} {n m:Nat} {X Y Z:V} {x y z t:Str} {e:Expr}
theorem cmp_in_prs {p x:Str} {l:List (Str×Str)}:CmpV c A hp .In (.tup [.str p,.str x]) (.lst (prs l)) (decide ((p,x)∈l)):=cmp_in_lst (T:=.tup [.str,.str]) (ht_pair _ _) (ht_prs l) (by rw [decide_eq_true_eq,mem_prs])
theorem cmp_notin_prs {p x:Str} {l:List (Str×Str)}:CmpV c A hp .NotIn (.tup [.str p,.str x]) (.lst (prs l)) (!decide ((p,x)∈l)):=cmp_notin_lst (T:=.tup [.str,.str]) (ht_pair _ _) (ht_prs l) (by rw [decide_eq_true_eq,mem_prs])
theorem tp_nil {α:Type} {f:α→V} {xs:List α} {T:Ty} (h:EV c A env ⟨ς,η⟩ e (.lst (xs.map f))) (hT:∀ a,HT T (f a)) (hd:(Ty.lst T).dep≤250:=by decide) (hm:behindInMarks .Eq (.List [] p)=false:=by rfl):TP c A env ⟨ς,η⟩ (.Compare e [.Eq] [.List [] p] pos) (xs=[]) :=
 tp_Cmp (b:=xs.isEmpty) h (ev_Lst evs0 n0) (cmp_eq (T:=.lst T) (.lst fun y hy=>by refine E12 (List.mem_map.mp hy) fun a qa z2=>?_; subst z2; exact hT a) (.lst fun y hy=>by cases hy) (by rw [List.isEmpty_iff,V.lst.injEq,List.map_eq_nil_iff]) hd) List.isEmpty_iff hm
theorem ev_R4 (hx:ς.lookup x=some X) (hy:ς.lookup y=some Y) (hz:ς.lookup z=some Z) (d1:(x == ("__debug__" : Str))=false:=by decide) (d2:(x == ("__classdict__" : Str))=false:=by decide) (d3:(y == ("__debug__" : Str))=false:=by decide) (d4:(y == ("__classdict__" : Str))=false:=by decide) (d5:(z == ("__debug__" : Str))=false:=by decide) (d6:(z == ("__classdict__" : Str))=false:=by decide) :
  EV c A env ⟨ς,η⟩ (.Tuple [.Name x p₁,.Name y p₂,.Name z p₃,.Constant (.str t) n p₄] m pos) (.tup [X,Y,Z,.str t]):=ev_Tup (evs (ev_N hx d1 d2) (evs (ev_N hy d3 d4) (evs (ev_N hz d5 d6) (evs ev_s evs0)))) (Nat.le_of_ble_eq_true rfl)
end
structure S3 where
 pos:List (Str×Str)
 occ:List Str
 held:List HG
noncomputable def res4 (q:S3×Str):V:=.tup [.lst (prs q.1.pos),.lst (q.1.occ.map .str),.lst (q.1.held.map HG.v),.str q.2]
noncomputable def occB (occ:List Str) (r:Rt):Bool:=(r.ov.map fun s=>decide (s∈occ)).any id
noncomputable def prB (pairs:List (Str×Str)) (nm:Str) (names:List Str):Bool:=(names.map fun m=>decide ((nm,m)∈pairs)||decide ((m,nm)∈pairs)).any id
noncomputable def fastB (fast:List Str) (pos:List (Str×Str)) (nd:List (Str×Str)):Bool:=(nd.map fun x=>decide (x.1∈fast)&&!decide (x∈pos)).any id
noncomputable def set3 (lay:Lay) (pairs:List (Str×Str)) (s:S3) (nm:Str):S3×Str :=
 match lay.rts.filter (fun r=>decide (r.nm=nm)) with
 | []=>(s,"unknown")
 | r::_=>if nm∈s.held.map HG.nm then (s,"held") else if occB s.occ r=true then (s,"occupied") else if prB pairs nm (s.held.map HG.nm)=true then (s,"conflict")
  else if fastB (lockL lay s.occ s.held) s.pos r.nd=true then (s,"locked") else (⟨s.pos.map fun q=>(q.1,(tget (tfold r.nd []) q.1).getD q.2),s.occ,s.held++[⟨nm,0,0,0⟩]⟩,"done")
theorem spec_lset {c:Cx} {a al:Addr} {n:Nat} {lay:Lay} {pairs:List (Str×Str)} {s:S3} {nm:Str} (F:IsFnC c a D_lset (.ref 202)) (Fl:IsFn c al D_llocked) (gl:c.mg "_law_locked" = some (.ref al)) (B:BltOk c) (ba:c.mg "any" = none) (bd:c.mg "dict" = none)
  (h1:lay.rts.length≤20) (h2:lay.pts.length≤20) (h3:s.held.length≤20) (h4:∀ r∈lay.rts,r.nd.length≤20) (h5:s.pos.length≤20) :
  Pure c (n + 2) a [lay.v,.lst (prs pairs),.lst (prs s.pos),.lst (s.occ.map .str),.lst (s.held.map HG.v),.str nm] (res4 (set3 lay pairs s nm)):=by
 refine pure_defC F k_lset rfl fun A qual L hR=>?_
 conv in D_lset.body=>whnf
 refine sCompF (ls:=lay.rts) (fun r=>r.nm=nm) inj_rt (cok rfl (by decide) (by decide)) (.inl rfl) (ev_at rfl rfl) rfl (sz100 (le100 h1)) ?_ ?_
 ·exact fun C h hh H hH=>tI (av_N (.inl rfl)) (tp_eq (ev_at rfl rfl) (ev_N rfl)) (fun qa=>ev_N rfl) (ll1 rfl)
 unfold set3
 have hrm:∀ r tl,lay.rts.filter (fun r=>decide (r.nm=nm))=r::tl→r∈lay.rts:=fun r tl e=>(List.mem_filter.mp (e▸List.mem_cons_self:r∈lay.rts.filter fun r=>decide (r.nm=nm))).1
 cases hm:lay.rts.filter (fun r=>decide (r.nm=nm)) with
 | nil=>exact sIfRT (tp_nil (T:=tyRt) (ev_N rfl) ht_rt) rfl (ev_R4 rfl rfl rfl)
 | cons r tl =>
 replace hrm:=hrm r tl hm
 have hnd:=h4 r hrm
 refine sIfF (tp_nil (T:=tyRt) (ev_N rfl) ht_rt) (List.cons_ne_nil _ _) ?_
 refine sSet (X:=.lst (prs r.nd)) (.inl rfl) (ev_T (ev_L (ev_N rfl) rfl) rfl) ?_
 refine sCompY (ls:=s.held) V.str HG.nm inj_hg (cok rfl (by decide) (by decide)) (.inl rfl) (ev_N rfl) rfl (sz100 (le100 h3)) ?_ ?_
 ·exact fun C h hh H hH=>tM (av_N (.inl rfl)) (ev_at rfl rfl) (ll1 rfl)
 refine sIfI (res:=res4) (tp_in (ev_N rfl) (ev_N rfl)) (fun qa=>ev_R4 rfl rfl rfl) fun qa=>?_
 refine sIfI (res:=res4) (tp_bool (eb_any (ls:=r.ov) (f:=V.str) (fun x=>decide (x∈s.occ)) inj_str (genK (q:=(202,200)) (by decide) B hR rfl (by decide) (by decide) rfl (by decide) rfl) ba rfl (ev_T (ev_L (ev_N rfl) rfl) rfl) fun A' C code x qa=>⟨_,av_N (.inl rfl),ev_Cmp (ev_N rfl) (ev_N rfl) cmp_in_strs,ll1 rfl⟩)) (fun qa=>ev_R4 rfl rfl rfl) fun qa=>?_
 refine sIfI (res:=res4) (tp_bool (eb_any (ls:=s.held.map HG.nm) (f:=V.str) (fun m=>decide ((nm,m)∈pairs)||decide ((m,nm)∈pairs)) inj_str (genK (q:=(202,200)) (by decide) B hR rfl (by decide) (by decide) rfl (by decide) rfl) ba rfl (ev_N rfl) fun A' C code x qa=>⟨_,av_N (.inl rfl),eb_Or (ev_Cmp (ev_NN rfl rfl) (ev_N rfl) cmp_in_prs) (ev_Cmp (ev_NN rfl rfl) (ev_N rfl) cmp_in_prs),ll1 rfl⟩)) (fun qa=>ev_R4 rfl rfl rfl) fun qa=>?_
 refine sSet (X:=.lst ((lockL lay s.occ s.held).map .str)) (.inr rfl) (ev_Pure gl Fl rfl (evs (ev_N rfl) (evs (ev_N rfl) (evs (ev_N rfl) evs0))) hR (spec_llocked Fl h1 h2 h3 h4)) ?_
 refine sIfI (res:=res4) (tp_bool (eb_any (ls:=r.nd) (f:=fun p:Str×Str=>V.tup [.str p.1,.str p.2]) (fun x=>decide (x.1∈lockL lay s.occ s.held)&&!decide (x∈s.pos)) inj_pair (genK (q:=(202,200)) (by decide) B hR rfl (by decide) (by decide) rfl (by decide) rfl) ba rfl (ev_eq (ev_N rfl) (congrArg V.lst (prs_map _))) fun A' C code x qa=>⟨_,av_N (.inl rfl),eb_And (ev_Cmp (ev_at rfl rfl) (ev_N rfl) cmp_in_strs) (ev_Cmp (ev_N rfl) (ev_N rfl) (cmp_notin_prs (p:=x.1) (x:=x.2))),ll1 rfl⟩)) (fun qa=>ev_R4 rfl rfl rfl) fun qa=>?_
 refine sSet (X:=.dct (tv (tfold r.nd []))) (.inr rfl) (ev_eq (ev_CallB bd rfl (.type _) rfl (evs (ev_N rfl) evs0) ((f_dict_pairs (ps:=tv r.nd) (by rw [tv,List.length_map]; exact sz100 (le100 hnd))).frz rfl)) (congrArg V.dct (tv_fold r.nd []))) ?_
 refine sRet (ev_Tup (evs (ev_CompP (ls:=s.pos) (fun q=>(q.1,(tget (tfold r.nd []) q.1).getD q.2)) inj_pair (cok rfl (by decide) (by decide)) (ev_N rfl) (prs_map s.pos) (sz100 (le100 h5)) ?_) (evs (ev_N rfl) (evs (ev_addM (ys:=[(⟨nm,0,0,0⟩:HG)]) (ev_N rfl) (ev_one (ev_Tup (evs (ev_N rfl) (evs ev_i (evs ev_i (evs ev_i evs0)))) n4)) (sz900 (Nat.le_trans (Nat.add_le_add_right h3 1) (by decide)))) (evs ev_s evs0)))) n4)
 exact fun C q hq H hH=>tM (av2 (.inl rfl) (.inl rfl)) (ev_Tup (evs (ev_N rfl) (evs (ev_eq (ev_get rfl (ev_N rfl) (evs (ev_N rfl) (evs (ev_N rfl) evs0))) (by rw [tv_get]; cases tget (tfold r.nd []) q.1 <;> rfl)) evs0)) n2) (ll2 rfl rfl)
end Mine
end
noncomputable section
set_option maxRecDepth 100000
set_option maxHeartbeats 2000000
namespace Mine
open PySem PySem.SeqAt PyProof.Rows
theorem k_lcancel:DefK D_lcancel ["lay","pos","occ","held","n"] D_lcancel.body:=mkK rfl (by
 intro nm qual pm code doc vs h
 refine E51 (list5 h) fun qa qb qc qd qe z5=>?_; subst z5; rfl)
noncomputable def atB (sigs:List (Str×Str)) (occ:List Str) (st:Str):Bool:=(sigs.map fun q=>decide (q.1=st)&&decide (q.2∈occ)).any id
noncomputable def cancel3 (lay:Lay) (s:S3) (nm:Str):S3×Str :=
 match s.held.filter (fun h=>decide (h.nm=nm)) with
 | []=>(s,"unknown")
 | h::_=>if h.e > 0 then (s,"entered") else if h.w > 0 then (s,"waiting")
  else if atB lay.sigs s.occ (findR lay nm).st=true then (⟨s.pos,s.occ,s.held.map fun h=>if h.nm=nm then ⟨nm,0,0,3⟩ else h⟩,"waits")
  else (⟨s.pos,s.occ,s.held.filter fun h=>decide (h.nm≠nm)⟩,"done")
theorem spec_lcancel {c:Cx} {a ar:Addr} {n:Nat} {lay:Lay} {s:S3} {nm:Str} (F:IsFnC c a D_lcancel (.ref 207)) (Fr:IsFn c ar D_route) (gr:c.mg "_law_route" = some (.ref ar)) (B:BltOk c) (ba:c.mg "any" = none)
  (h1:lay.rts.length≤20) (h3:s.held.length≤20) (hk:∀ h∈s.held,h.nm∈lay.rts.map Rt.nm) :
  Pure c (n + 2) a [lay.v,.lst (prs s.pos),.lst (s.occ.map .str),.lst (s.held.map HG.v),.str nm] (res4 (cancel3 lay s nm)):=by
 refine pure_defC F k_lcancel rfl fun A qual L hR=>?_
 conv in D_lcancel.body=>whnf
 refine sCompF (ls:=s.held) (fun h=>h.nm=nm) inj_hg (cok rfl (by decide) (by decide)) (.inl rfl) (ev_N rfl) rfl (sz100 (le100 h3)) ?_ ?_
 ·exact fun C h hh H hH=>tI (av_N (.inl rfl)) (tp_eq (ev_at rfl rfl) (ev_N rfl)) (fun qa=>ev_N rfl) (ll1 rfl)
 unfold cancel3
 have hrm:∀ h tl,s.held.filter (fun h=>decide (h.nm=nm))=h::tl→nm∈lay.rts.map Rt.nm:=fun h tl e=>by
  have hm:=List.mem_filter.mp (e▸List.mem_cons_self:h∈s.held.filter fun h=>decide (h.nm=nm))
  exact (of_decide_eq_true hm.2)▸hk h hm.1
 cases hm:s.held.filter (fun h=>decide (h.nm=nm)) with
 | nil=>exact sIfRT (tp_nil (T:=tyHG) (ev_N rfl) ht_hg) rfl (ev_R4 rfl rfl rfl)
 | cons h tl =>
 replace hrm:=hrm h tl hm
 refine sIfF (tp_nil (T:=tyHG) (ev_N rfl) ht_hg) (List.cons_ne_nil _ _) ?_
 refine sIfI (res:=res4) (tp_gt (ev_T (ev_L (X:=h.v) (ev_N rfl) rfl) rfl) ev_i) (fun qa=>ev_R4 rfl rfl rfl) fun qa=>?_
 refine sIfI (res:=res4) (tp_gt (ev_T (ev_L (X:=h.v) (ev_N rfl) rfl) rfl) ev_i) (fun qa=>ev_R4 rfl rfl rfl) fun qa=>?_
 refine sSet (X:=.str (findR lay nm).st) (.inr rfl) (ev_T (ev_Pure gr Fr rfl (evs (ev_N rfl) (evs (ev_N rfl) evs0)) hR (spec_route Fr h1 hrm)) rfl) ?_
 refine sIfI (res:=res4) (tp_bool (eb_any (ls:=lay.sigs) (f:=fun p:Str×Str=>V.tup [.str p.1,.str p.2]) (fun q=>decide (q.1=(findR lay nm).st)&&decide (q.2∈s.occ)) inj_pair (genK (q:=(207,205)) (by decide) B hR rfl (by decide) (by decide) rfl (by decide) rfl) ba rfl (ev_eq (ev_at rfl rfl) (congrArg V.lst (prs_map _))) fun A' C code x qa=>⟨_,av2 (.inl rfl) (.inl rfl),eb_And (ev_Cmp (ev_N rfl) (ev_N rfl) cmp_eq_str) (ev_Cmp (ev_N rfl) (ev_N rfl) cmp_in_strs),ll2 rfl rfl⟩)) (fun qa=>?_) fun qa=>?_
 ·refine ev_Tup (evs (ev_N rfl) (evs (ev_N rfl) (evs (ev_CompY (ls:=s.held) HG.v (fun h=>if h.nm=nm then ⟨nm,0,0,3⟩ else h) inj_hg (cok rfl (by decide) (by decide)) (ev_N rfl) rfl (sz100 (le100 h3)) ?_) (evs ev_s evs0)))) n4
  exact fun C h hh H hH=>tM (av_N (.inl rfl)) (ev_If (tp_eq (ev_at rfl rfl) (ev_N rfl)) (fun q=>by rw [if_pos q]; exact ev_Tup (evs (ev_N rfl) (evs ev_i (evs ev_i (evs ev_i evs0)))) n4) (fun q=>by rw [if_neg q]; exact ev_N rfl)) (ll1 rfl)
 ·refine sRet (ev_Tup (evs (ev_N rfl) (evs (ev_N rfl) (evs (ev_CompF (ls:=s.held) (fun h=>h.nm≠nm) inj_hg (cok rfl (by decide) (by decide)) (ev_N rfl) rfl (sz100 (le100 h3)) ?_) (evs ev_s evs0)))) n4)
  exact fun C h hh H hH=>tI (av_N (.inl rfl)) (tp_ne (ev_at rfl rfl) (ev_N rfl)) (fun qa=>ev_N rfl) (ll1 rfl)
end Mine
end
noncomputable section
set_option maxRecDepth 100000
set_option maxHeartbeats 2000000
namespace Mine
open PySem PySem.SeqAt PyProof.Rows
theorem k_lenter:DefK D_lenter ["lay","pos","occ","held","s"] D_lenter.body:=mkK rfl (by
 intro nm qual pm code doc vs h
 refine E51 (list5 h) fun qa qb qc qd qe z5=>?_; subst z5; rfl)
theorem k_lleave:DefK D_lleave ["lay","pos","occ","held","s"] D_lleave.body:=mkK rfl (by
 intro nm qual pm code doc vs h
 refine E51 (list5 h) fun qa qb qc qd qe z5=>?_; subst z5; rfl)
theorem map_str_eq {l:List Str} {s:Str}:l.map V.str=[V.str s]↔l=[s]:=by
 constructor
 ·intro h
  match l,h with
  | [x],h=>simp at h; rw [h]
 ·rintro rfl; rfl
theorem ev_sorted {c:Cx} {A:Around} {env:Env} {ς:List (Str×V)} {η:List (Addr×O)} {fpos pos:Pos} {e:Expr} {xs:List Str} (hm:c.mg "sorted" = none) (hk:env.kindOf "sorted" = some .globalImplicit) (h:EV c A env ⟨ς,η⟩ e (.lst (xs.map .str))) (hl:xs.length < 64)
  (he:starEach [e] env=[(false,eval e env)]:=by rfl):EV c A env ⟨ς,η⟩ (.Call (.Name "sorted" fpos) [e] [] pos) (.lst ((sortL xs).map .str)) :=
 ⟨fun qa hk'=>wE_SortedLst hm hk (h.run _ ⟨xs,rfl,hl,fun ss h1 h2=>by rw [sortL_eq h1 h2]; exact hk'⟩) he⟩
@[reducible] noncomputable def entT (lay:Lay) (s:Str) (h:HG):Prop:=((findR lay h.nm).ov.drop h.e.toNat).take 1=[s]
noncomputable def ent3 (lay:Lay) (s:Str) (h:HG):HG:=if entT lay s h then ⟨h.nm,h.g,h.e + 1,0⟩ else h
noncomputable def enter3 (lay:Lay) (st:S3) (s:Str):S3×Str :=
 if s∉lay.secs then (st,"unknown") else if s∈st.occ then (st,"occupied") else (⟨st.pos,sortL (st.occ++[s]),st.held.map (ent3 lay s)⟩,"done")
noncomputable def locE (lay:Lay) (st:S3) (s:Str) (d:Addr):List (Str×V):=[("lay", lay.v),("pos", .lst (prs st.pos)),("occ", .lst (st.occ.map .str)),("s", .str s),("out", .ref d)]
theorem dn_le {α:Type} {dn td ls:List α} {a:α} {k:Nat} (h:dn++a::td=ls) (hl:ls.length≤k):dn.length≤k:=Nat.le_trans (by rw [← h,List.length_append]; exact Nat.le_add_right _ _) hl
theorem dn_mem {α:Type} {dn td ls:List α} {a:α} (h:dn++a::td=ls):a∈ls:=h▸List.mem_append_right _ (.head _)
theorem spec_lenter {c:Cx} {a ar:Addr} {n:Nat} {lay:Lay} {st:S3} {s:Str} (F:IsFn c a D_lenter) (Fr:IsFn c ar D_route) (gr:c.mg "_law_route" = some (.ref ar)) (bs:c.mg "sorted" = none)
  (h1:lay.rts.length≤20) (h3:st.held.length≤20) (h4:st.occ.length≤20) (h5:∀ r∈lay.rts,r.ov.length≤20) (hk:∀ h∈st.held,h.nm∈lay.rts.map Rt.nm∧0≤h.e) :
  Pure c (n + 2) a [lay.v,.lst (prs st.pos),.lst (st.occ.map .str),.lst (st.held.map HG.v),.str s] (res4 (enter3 lay st s)):=by
 refine pure_def F k_lenter rfl fun A qual code L hR=>?_
 conv in D_lenter.body=>whnf
 unfold enter3
 refine sIfI (res:=res4) (tp_ni (ev_N rfl) (ev_at rfl rfl)) (fun qa=>ev_R4 rfl rfl rfl) fun qa=>?_
 refine sIfI (res:=res4) (tp_in (ev_N rfl) (ev_N rfl)) (fun qa=>ev_R4 rfl rfl rfl) fun qa=>?_
 refine sLst0 (.inl rfl) fun d=>?_
 refine sFold (ls:=st.held) (f:=HG.v) (ς:=locE lay st s d) (S:=fun dn qa=>[(d,.lst ((dn.map (ent3 lay s)).map HG.v))]) (ev_N rfl) seq_lst rfl (le_loc (I06 rfl rfl rfl rfl rfl trivial)) (fun dn h td hdn k' hk'=>?_) ?_
 ·have hh:=dn_mem hdn
  have he:=hk h hh
  have hdl:((dn.map (ent3 lay s)).map HG.v).length≤sizeLine:=by rw [List.length_map,List.length_map]; exact sz100 (le100 (dn_le hdn h3))
  have hR2:=findR_mem he.1
  rw [List.map_append,List.map_append] at hk'
  generalize (dn.map (ent3 lay s)).map HG.v=o at *
  refine (av4 (.inl rfl) (.inl rfl) (.inl rfl) (.inl rfl)).run _ ?_
  refine sIf (P:=entT lay s h) (tp_Cmp (ev_eq (Y:=.lst ((((findR lay h.nm).ov.drop h.e.toNat).take 1).map V.str)) (ev_sl (ys:=(findR lay h.nm).ov) (ev_T (ev_Pure gr Fr rfl (evs (ev_N rfl) (evs (ev_N rfl) evs0)) hR (spec_route Fr h1 he.1)) rfl) (sz100 (le100 (h5 _ hR2.1))) (ev_N rfl) (ev_Bin (ev_N rfl) ev_i bin_add_int) he.2 (Int.le_add_one he.2)) (by rw [Int.toNat_add he.2 (by decide)]; exact congrArg (fun k=>V.lst ((((findR lay h.nm).ov.drop h.e.toNat).take k).map V.str)) (Nat.add_sub_cancel_left _ _))) (ev_one (ev_N rfl))
    (cmp_eq (T:=.lst .str) (b:=decide (entT lay s h)) (.lst (ht_strs _)) (.lst (ht_strs [s])) (by rw [decide_eq_true_eq,V.lst.injEq]; exact map_str_eq.symm)) dec_iff) (fun z=>?_) fun z=>?_
  ·have e:([h].map (ent3 lay s)).map HG.v=[HG.v ⟨h.nm,h.g,h.e + 1,0⟩]:=by simp only [List.map_cons,List.map_nil,ent3,if_pos z]
   rw [e] at hk'
   exact sApp rfl (ev_Tup (evs (ev_N rfl) (evs (ev_N rfl) (evs (ev_Bin (ev_N rfl) ev_i bin_add_int) (evs ev_i evs0)))) n4) hdl (wSs_nil (wSs_nil (hk' _ (le_loc (I06 rfl rfl rfl rfl rfl trivial))).1))
  ·have e:([h].map (ent3 lay s)).map HG.v=[HG.v h]:=by simp only [List.map_cons,List.map_nil,ent3,if_neg z]
   rw [e] at hk'
   exact sApp rfl (ev_Tup (evs (ev_N rfl) (evs (ev_N rfl) (evs (ev_N rfl) (evs (ev_N rfl) evs0)))) n4) hdl (wSs_nil (wSs_nil (hk' _ (le_loc (I06 rfl rfl rfl rfl rfl trivial))).1))
 refine sFrz (pre:=[]) (x:="out") (d:=d) rfl rfl ?_
 exact sRet (ev_Tup (evs (ev_N rfl) (evs (ev_sorted bs rfl (ev_addM (ev_N rfl) (ev_one (ev_N rfl)) (sz100 (Nat.le_trans (Nat.add_le_add_right h4 1) (by decide)))) (by rw [List.length_append]; exact Nat.lt_of_le_of_lt (Nat.add_le_add_right h4 1) (by decide))) (evs (ev_N rfl) (evs ev_s evs0)))) n4)
@[reducible] noncomputable def lvT (lay:Lay) (s:Str) (h:HG):Prop:=(h.g:Int) < h.e∧(findR lay h.nm).ov[h.g]?=some s
noncomputable def gone3 (lay:Lay) (s:Str) (h:HG):Nat:=if lvT lay s h then h.g + 1 else h.g
noncomputable def leave1 (lay:Lay) (s:Str) (h:HG):List HG:=if gone3 lay s h < (findR lay h.nm).ov.length then [⟨h.nm,gone3 lay s h,h.e,h.w⟩] else []
noncomputable def leave3 (lay:Lay) (st:S3) (s:Str):S3×Str :=
 if s∉lay.secs then (st,"unknown") else if s∉st.occ then (st,"free") else (⟨st.pos,st.occ.filter fun x=>decide (x≠s),st.held.flatMap (leave1 lay s)⟩,"done")
theorem flat1_le {α β:Type} {g:α→List β}:∀ (l:List α),(∀ a∈l,(g a).length≤1)→(l.flatMap g).length≤l.length
 | [],_=>Nat.le_refl _
 | a::l,h=>by
  rw [List.flatMap_cons,List.length_append,List.length_cons,Nat.add_comm]
  exact Nat.add_le_add (flat1_le l fun b hb=>h b (.tail _ hb)) (h a (.head _))
theorem leave1_len {lay:Lay} {s:Str} (h:HG):(leave1 lay s h).length≤1:=by unfold leave1; split; exact Nat.le_refl _; exact Nat.zero_le _
theorem spec_lleave {c:Cx} {a ar:Addr} {n:Nat} {lay:Lay} {st:S3} {s:Str} (F:IsFn c a D_lleave) (Fr:IsFn c ar D_route) (gr:c.mg "_law_route" = some (.ref ar)) (bl:c.mg "len" = none)
  (h1:lay.rts.length≤20) (h3:st.held.length≤20) (h4:st.occ.length≤20) (h5:∀ r∈lay.rts,r.ov.length≤20) (hk:∀ h∈st.held,h.nm∈lay.rts.map Rt.nm∧h.g < (findR lay h.nm).ov.length) :
  Pure c (n + 2) a [lay.v,.lst (prs st.pos),.lst (st.occ.map .str),.lst (st.held.map HG.v),.str s] (res4 (leave3 lay st s)):=by
 refine pure_def F k_lleave rfl fun A qual code L hR=>?_
 conv in D_lleave.body=>whnf
 unfold leave3
 refine sIfI (res:=res4) (tp_ni (ev_N rfl) (ev_at rfl rfl)) (fun qa=>ev_R4 rfl rfl rfl) fun qa=>?_
 refine sIfI (res:=res4) (tp_ni (ev_N rfl) (ev_N rfl)) (fun qa=>ev_R4 rfl rfl rfl) fun qa=>?_
 refine sLst0 (.inl rfl) fun d=>?_
 refine sFold (ls:=st.held) (f:=HG.v) (ς:=locE lay st s d) (S:=fun dn qa=>[(d,.lst ((dn.flatMap (leave1 lay s)).map HG.v))]) (ev_N rfl) seq_lst rfl (le_loc (I06 rfl rfl rfl rfl rfl trivial)) (fun dn h td hdn k' hk'=>?_) ?_
 ·have hh:=dn_mem hdn
  have he:=hk h hh
  have hdl:((dn.flatMap (leave1 lay s)).map HG.v).length≤sizeLine:=by rw [List.length_map]; exact sz100 (le100 (Nat.le_trans (flat1_le dn fun a qa=>leave1_len a) (dn_le hdn h3)))
  have hR2:=findR_mem he.1
  have hov:=h5 _ hR2.1
  have e1:(dn++[h]).flatMap (leave1 lay s)=dn.flatMap (leave1 lay s)++leave1 lay s h:=by rw [List.flatMap_append,List.flatMap_cons,List.flatMap_nil,List.append_nil]
  rw [e1,List.map_append] at hk'
  clear e1
  generalize (dn.flatMap (leave1 lay s)).map HG.v=o at *
  have hg:((findR lay h.nm).ov.map V.str)[((h.g:Nat):Int).toNat]?=some (.str (findR lay h.nm).ov[h.g]):=by rw [Int.toNat_natCast,List.getElem?_map,List.getElem?_eq_getElem he.2]; rfl
  have hgs:(findR lay h.nm).ov[h.g]=s↔(findR lay h.nm).ov[h.g]?=some s:=by rw [List.getElem?_eq_getElem he.2,Option.some.injEq]
  have hb:((h.g:Nat):Int) < 2 ^ 62:=Int.lt_of_lt_of_le (Int.ofNat_lt.mpr (Nat.lt_of_lt_of_le he.2 hov)) (by decide)
  refine (av4 (.inl rfl) (.inl rfl) (.inl rfl) (.inl rfl)).run _ ?_
  refine sSet (X:=.lst ((findR lay h.nm).ov.map .str)) (.inl rfl) (ev_T (ev_Pure gr Fr rfl (evs (ev_N rfl) (evs (ev_N rfl) evs0)) hR (spec_route Fr h1 he.1)) rfl) ?_
  have hlz:((findR lay h.nm).ov.map V.str).length≤sizeLine:=by rw [List.length_map]; exact sz100 (le100 hov)
  have e1:(leave1 lay s h).map HG.v=if gone3 lay s h < (findR lay h.nm).ov.length then [HG.v ⟨h.nm,gone3 lay s h,h.e,h.w⟩] else []:=by unfold leave1; split <;> rfl
  rw [e1] at hk'
  clear e1
  refine sIf (P:=lvT lay s h) (tp_A2 (tp_lt (ev_N rfl) (ev_N rfl)) fun qa=>tp_iff (tp_eq (ev_Sub (ev_N rfl) (ev_N rfl) (item_lst (Int.natCast_nonneg _) hb hg)) (ev_N rfl)) hgs) (fun z=>?_) fun z=>?_
  ·have e:gone3 lay s h=h.g + 1:=if_pos z
   rw [e] at hk'
   refine sSet (X:=.int ((h.g + 1:Nat):Int)) (.inl rfl) (ev_eq (ev_Bin (ev_N rfl) ev_i bin_add_int) rfl) (wSs_nil ?_)
   refine sIf (P:=h.g + 1 < (findR lay h.nm).ov.length) (tp_iff (tp_lt (ev_N rfl) (ev_CallB bl rfl (.blt _) rfl (evs (ev_N rfl) evs0) (b_len_lst hlz))) (by rw [List.length_map]; exact Int.ofNat_lt)) (fun y=>?_) fun y=>?_
   ·rw [if_pos y] at hk'
    exact sApp rfl (ev_Tup (evs (ev_N rfl) (evs (ev_N rfl) (evs (ev_N rfl) (evs (ev_N rfl) evs0)))) n4) hdl (wSs_nil (wSs_nil (hk' _ (le_loc (I06 rfl rfl rfl rfl rfl trivial))).1))
   ·rw [if_neg y,List.append_nil] at hk'
    exact wSs_nil (wSs_nil (hk' _ (le_loc (I06 rfl rfl rfl rfl rfl trivial))).1)
  ·have e:gone3 lay s h=h.g:=if_neg z
   rw [e] at hk'
   refine wSs_nil (sIf (P:=h.g < (findR lay h.nm).ov.length) (tp_iff (tp_lt (ev_N rfl) (ev_CallB bl rfl (.blt _) rfl (evs (ev_N rfl) evs0) (b_len_lst hlz))) (by rw [List.length_map]; exact Int.ofNat_lt)) (fun y=>?_) fun y=>?_)
   ·rw [if_pos y] at hk'
    exact sApp rfl (ev_Tup (evs (ev_N rfl) (evs (ev_N rfl) (evs (ev_N rfl) (evs (ev_N rfl) evs0)))) n4) hdl (wSs_nil (wSs_nil (hk' _ (le_loc (I06 rfl rfl rfl rfl rfl trivial))).1))
   ·exact absurd he.2 y
 refine sFrz (pre:=[]) (x:="out") (d:=d) rfl rfl ?_
 refine sRet (ev_Tup (evs (ev_N rfl) (evs (ev_CompF (ls:=st.occ) (fun x=>x≠s) inj_str (cok rfl (by decide) (by decide)) (ev_N rfl) rfl (sz100 (le100 h4)) ?_) (evs (ev_N rfl) (evs ev_s evs0)))) n4)
 exact fun C x hx H hH=>tI (av_N (.inl rfl)) (tp_ne (ev_N rfl) (ev_N rfl)) (fun qa=>ev_N rfl) (ll1 rfl)
end Mine
end
noncomputable section
set_option maxRecDepth 100000
set_option maxHeartbeats 2000000
namespace Mine
open PySem PySem.SeqAt PyProof.Rows
theorem k_after:DefK D_after ["lay","pairs","pos","occ","held","event"] D_after.body:=mkK rfl (by
 intro nm qual pm code doc vs h
 obtain ⟨x,y,z,w,v,u,rfl⟩:=list6 h; rfl)
theorem k_state:DefK D_state ["lay","pos","occ","held"] D_state.body:=mkK rfl (by
 intro nm qual pm code doc vs h
 obtain ⟨x,y,z,w,rfl⟩:=list4 h; rfl)
noncomputable def opensL:List (List Ev):=[[],[.set "A", .enter "a", .cancel "A"],[.set "A", .enter "a", .cancel "A", .tick,.tick],[.set "A", .enter "c", .enter "b", .leave "b"],[.set "A", .enter "b", .enter "c", .leave "b"],[.set "A", .set "B"],[.set "D", .enter "f"],[.enter "e"]]
noncomputable def opensV:V:=.tup (opensL.map fun l=>.tup (l.map Ev.v))
noncomputable def openingsV:V:=opensV
set_option genInjectivity false in
set_option genSizeOf false in
structure LCore (c:Cx) where
 a_layout:Addr
 a_event:Addr
 a_pairs:Addr
 a_route:Addr
 a_locked:Addr
 a_set:Addr
 a_cancel:Addr
 a_enter:Addr
 a_leave:Addr
 a_after:Addr
 a_state:Addr
 a_shows:Addr
 a_conf:Addr
 a_begin:Addr
 a_act:Addr
 a_aspects:Addr
 F_layout:IsFn c a_layout D_layout
 F_event:IsFn c a_event D_event
 F_pairs:IsFnC c a_pairs D_pairs (.ref 187)
 F_route:IsFn c a_route D_route
 F_locked:IsFn c a_locked D_llocked
 F_set:IsFnC c a_set D_lset (.ref 202)
 F_cancel:IsFnC c a_cancel D_lcancel (.ref 207)
 F_enter:IsFn c a_enter D_lenter
 F_leave:IsFn c a_leave D_lleave
 F_after:IsFn c a_after D_after
 F_state:IsFn c a_state D_state
 F_shows:IsFnC c a_shows D_shows (.ref 236)
 F_conf:IsFn c a_conf D_conf
 F_begin:IsFn c a_begin D_begin
 F_act:IsFn c a_act D_act
 F_aspects:IsFn c a_aspects D_aspects
 g_layout:c.mg "_law_layout" = some (.ref a_layout)
 g_event:c.mg "_law_event" = some (.ref a_event)
 g_pairs:c.mg "_law_pairs" = some (.ref a_pairs)
 g_route:c.mg "_law_route" = some (.ref a_route)
 g_locked:c.mg "_law_locked" = some (.ref a_locked)
 g_set:c.mg "_law_set" = some (.ref a_set)
 g_cancel:c.mg "_law_cancel" = some (.ref a_cancel)
 g_enter:c.mg "_law_enter" = some (.ref a_enter)
 g_leave:c.mg "_law_leave" = some (.ref a_leave)
 g_after:c.mg "_law_after" = some (.ref a_after)
 g_state:c.mg "_law_state" = some (.ref a_state)
 g_shows:c.mg "_law_shows" = some (.ref a_shows)
 g_conf:c.mg "conflicts" = some (.ref a_conf)
 g_begin:c.mg "begin" = some (.ref a_begin)
 g_act:c.mg "act" = some (.ref a_act)
 g_aspects:c.mg "aspects" = some (.ref a_aspects)
 v_names:GV c "_law_names" namesV
 v_places:GV c "_law_places" placesV
 v_turns:GV c "_law_turns" turnsV
 v_openings:GV c "_law_openings" openingsV
 b_list:c.mg "list" = none
 b_len:c.mg "len" = none
 b_dict:c.mg "dict" = none
 b_sorted:c.mg "sorted" = none
 b_type:c.mg "type" = none
 b_int:c.mg "int" = none
 b_max:c.mg "max" = none
 b_any:c.mg "any" = none
 b_all:c.mg "all" = none
 b_range:c.mg "range" = none
 b_ve:c.mg "ValueError" = none
 blt:BltOk c
structure Pre3 (lay:Lay) (s:S3):Prop where
 rl:lay.rts.length≤20
 pl:lay.pts.length≤20
 nd:∀ r∈lay.rts,r.nd.length≤20
 ov:∀ r∈lay.rts,r.ov.length≤20
 sl:lay.sigs.length≤20
 hl:s.held.length≤20
 ol:s.occ.length≤20
 ql:s.pos.length≤20
 kn:∀ h∈s.held,h.nm∈lay.rts.map Rt.nm∧0≤h.e∧h.g < (findR lay h.nm).ov.length
noncomputable def tick1 (h:HG):HG:=⟨h.nm,h.g,h.e,max (h.w - 1) 0⟩
noncomputable def after3 (lay:Lay) (pairs:List (Str×Str)) (s:S3):Ev→S3×Str
 | .set n=>set3 lay pairs s n
 | .cancel n=>cancel3 lay s n
 | .enter x=>enter3 lay s x
 | .leave x=>leave3 lay s x
 | .tick=>(⟨s.pos,s.occ,sel s.held (fun h=>h.w≠1) tick1⟩,"done")
 | .move p x=>if p = "S" then (s,"unknown") else if p∈lockL lay s.occ s.held then (s,"locked") else (⟨s.pos.map fun q=>(q.1,if q.1=p then x else q.2),s.occ,s.held⟩,"done")
theorem spec_after {c:Cx} {n:Nat} {lay:Lay} {pairs:List (Str×Str)} {s:S3} {ev:Ev} (L:LCore c) (H:Pre3 lay s) :
  Pure c (n + 3) L.a_after [lay.v,.lst (prs pairs),.lst (prs s.pos),.lst (s.occ.map .str),.lst (s.held.map HG.v),ev.v] (res4 (after3 lay pairs s ev)):=by
 refine pure_def L.F_after k_after rfl fun A qual code L' hR=>?_
 conv in D_after.body=>whnf
 cases ev with
 | set nm=>exact sIfRT (tp_eq (ev_at rfl rfl) ev_s) rfl (ev_Pure L.g_set L.F_set.fn rfl (evs (ev_N rfl) (evs (ev_N rfl) (evs (ev_N rfl) (evs (ev_N rfl) (evs (ev_N rfl) (evs (ev_at rfl rfl) evs0)))))) hR (spec_lset L.F_set L.F_locked L.g_locked L.blt L.b_any L.b_dict H.rl H.pl H.hl H.nd H.ql))
 | cancel nm =>
  refine sIfF (tp_eq (ev_at rfl rfl) ev_s) (by decide) ?_
  exact sIfRT (tp_eq (ev_at rfl rfl) ev_s) rfl (ev_Pure L.g_cancel L.F_cancel.fn rfl (evs (ev_N rfl) (evs (ev_N rfl) (evs (ev_N rfl) (evs (ev_N rfl) (evs (ev_at rfl rfl) evs0))))) hR (spec_lcancel L.F_cancel L.F_route L.g_route L.blt L.b_any H.rl H.hl fun h hh=>(H.kn h hh).1))
 | enter x =>
  refine sIfF (tp_eq (ev_at rfl rfl) ev_s) (by decide) ?_
  refine sIfF (tp_eq (ev_at rfl rfl) ev_s) (by decide) ?_
  exact sIfRT (tp_eq (ev_at rfl rfl) ev_s) rfl (ev_Pure L.g_enter L.F_enter rfl (evs (ev_N rfl) (evs (ev_N rfl) (evs (ev_N rfl) (evs (ev_N rfl) (evs (ev_at rfl rfl) evs0))))) hR (spec_lenter L.F_enter L.F_route L.g_route L.b_sorted H.rl H.hl H.ol H.ov fun h hh=>⟨(H.kn h hh).1,(H.kn h hh).2.1⟩))
 | leave x =>
  refine sIfF (tp_eq (ev_at rfl rfl) ev_s) (by decide) ?_
  refine sIfF (tp_eq (ev_at rfl rfl) ev_s) (by decide) ?_
  refine sIfF (tp_eq (ev_at rfl rfl) ev_s) (by decide) ?_
  exact sIfRT (tp_eq (ev_at rfl rfl) ev_s) rfl (ev_Pure L.g_leave L.F_leave rfl (evs (ev_N rfl) (evs (ev_N rfl) (evs (ev_N rfl) (evs (ev_N rfl) (evs (ev_at rfl rfl) evs0))))) hR (spec_lleave L.F_leave L.F_route L.g_route L.b_len H.rl H.hl H.ol H.ov fun h hh=>⟨(H.kn h hh).1,(H.kn h hh).2.2⟩))
 | tick =>
  refine sIfF (tp_eq (ev_at rfl rfl) ev_s) (by decide) ?_
  refine sIfF (tp_eq (ev_at rfl rfl) ev_s) (by decide) ?_
  refine sIfF (tp_eq (ev_at rfl rfl) ev_s) (by decide) ?_
  refine sIfF (tp_eq (ev_at rfl rfl) ev_s) (by decide) ?_
  refine sIfRT (tp_eq (ev_at rfl rfl) ev_s) rfl (ev_Tup (evs (ev_N rfl) (evs (ev_N rfl) (evs (ev_Comp (ls:=s.held) (fun h=>h.w≠1) HG.v tick1 inj_hg (cok rfl (by decide) (by decide)) (ev_N rfl) rfl (sz100 (le100 H.hl)) ?_) (evs ev_s evs0)))) n4)
  exact fun C h hh H' hH'=>tI (av4 (.inl rfl) (.inl rfl) (.inl rfl) (.inl rfl)) (tp_nei (ev_N rfl) ev_i) (fun qa=>ev_Tup (evs (ev_N rfl) (evs (ev_N rfl) (evs (ev_N rfl) (evs (ev_CallB L.b_max rfl (.blt _) rfl (evs (ev_Bin (ev_N rfl) ev_i bin_sub_int) (evs ev_i evs0)) b_max) evs0)))) n4) (ll4 rfl rfl rfl rfl)
 | move p x =>
  refine sIfF (tp_eq (ev_at rfl rfl) ev_s) (by decide) ?_
  refine sIfF (tp_eq (ev_at rfl rfl) ev_s) (by decide) ?_
  refine sIfF (tp_eq (ev_at rfl rfl) ev_s) (by decide) ?_
  refine sIfF (tp_eq (ev_at rfl rfl) ev_s) (by decide) ?_
  refine sIfF (tp_eq (ev_at rfl rfl) ev_s) (by decide) ?_
  show WSs c A _ _ _ (RetK (res4 (if p = "S" then _ else if p∈lockL lay s.occ s.held then _ else _)))
  refine sIfI (res:=res4) (tp_eq (ev_at rfl rfl) ev_s) (fun qa=>ev_R4 rfl rfl rfl) fun qa=>?_
  refine sIfI (res:=res4) (tp_in (xs:=lockL lay s.occ s.held) (ev_at rfl rfl) (ev_Pure L.g_locked L.F_locked rfl (evs (ev_N rfl) (evs (ev_N rfl) (evs (ev_N rfl) evs0))) hR (spec_llocked (n:=n + 1) L.F_locked H.rl H.pl H.hl H.nd))) (fun qa=>ev_R4 rfl rfl rfl) fun qa=>?_
  refine sRet (ev_Tup (evs (ev_CompP (ls:=s.pos) (fun q=>(q.1,if q.1=p then x else q.2)) inj_pair (cok rfl (by decide) (by decide)) (ev_N rfl) (prs_map s.pos) (sz100 (le100 H.ql)) ?_) (evs (ev_N rfl) (evs (ev_N rfl) (evs ev_s evs0)))) n4)
  exact fun C q hq H' hH'=>tM (av2 (.inl rfl) (.inl rfl)) (ev_Tup (evs (ev_N rfl) (evs (ev_If (X:=.str (if q.1=p then x else q.2)) (tp_eq (ev_N rfl) (ev_at rfl rfl)) (fun z=>by rw [if_pos z]; exact ev_at rfl rfl) (fun z=>by rw [if_neg z]; exact ev_N rfl)) evs0)) n2) (ll2 rfl rfl)
noncomputable def toH (lay:Lay) (h:HG):Held:=⟨h.nm,(findR lay h.nm).ov.drop h.g,h.e,h.w⟩
noncomputable def toS (lay:Lay) (s:S3):Sta:=⟨s.pos,s.occ,s.held.map (toH lay)⟩
theorem spec_state {c:Cx} {n:Nat} {lay:Lay} {s:S3} (L:LCore c) (H:Pre3 lay s):Pure c (n + 2) L.a_state [lay.v,.lst (prs s.pos),.lst (s.occ.map .str),.lst (s.held.map HG.v)] (toS lay s).v:=by
 refine pure_def L.F_state k_state rfl fun A qual code L' hR=>?_
 conv in D_state.body=>whnf
 refine sLst0 (.inl rfl) fun d=>?_
 refine sFold (ls:=s.held) (f:=HG.v) (ς:=[("lay", lay.v),("pos", .lst (prs s.pos)),("occ", .lst (s.occ.map .str)),("out", .ref d)]) (S:=fun dn qa=>[(d,.lst ((dn.map (toH lay)).map Held.v))]) (ev_N rfl) seq_lst rfl (le_loc (I05 rfl rfl rfl rfl trivial)) (fun dn h td hdn k' hk'=>?_) ?_
 ·have he:=H.kn h (dn_mem hdn)
  have hdl:((dn.map (toH lay)).map Held.v).length≤sizeLine:=by rw [List.length_map,List.length_map]; exact sz100 (le100 (dn_le hdn H.hl))
  have hR2:=findR_mem he.1
  rw [List.map_append,List.map_append] at hk'
  generalize (dn.map (toH lay)).map Held.v=o at *
  refine (av4 (.inl rfl) (.inl rfl) (.inl rfl) (.inl rfl)).run _ ?_
  exact sApp (X:=(toH lay h).v) rfl (ev_Tup (evs (ev_N rfl) (evs (ev_eq (ev_slFrom (ys:=(findR lay h.nm).ov) (ev_T (ev_Pure L.g_route L.F_route rfl (evs (ev_N rfl) (evs (ev_N rfl) evs0)) hR (spec_route L.F_route H.rl he.1)) rfl) (sz100 (le100 (H.ov _ hR2.1))) (ev_N rfl) (Int.natCast_nonneg _)) (by rw [Int.toNat_natCast]; rfl)) (evs (ev_N rfl) (evs (ev_N rfl) evs0)))) n4) hdl (wSs_nil (hk' _ (le_loc (I05 rfl rfl rfl rfl trivial))).1)
 refine sFrz (pre:=[]) (x:="out") (d:=d) rfl rfl ?_
 exact sRet (ev_Tup (evs (ev_N rfl) (evs (ev_N rfl) (evs (ev_N rfl) evs0))) n3)
end Mine
end
noncomputable section
set_option maxRecDepth 100000
set_option maxHeartbeats 2000000
namespace Mine
open PySem PySem.SeqAt PyProof.Rows
theorem k_shows:DefK D_shows ["lay","pos","occ","held"] D_shows.body:=mkK rfl (by
 intro nm qual pm code doc vs h
 obtain ⟨x,y,z,w,rfl⟩:=list4 h; rfl)
noncomputable def freeB (occ:List Str) (r:Rt):Bool:=(r.ov.map fun s=>!decide (s∈occ)).all id
noncomputable def setB (pos:List (Str×Str)) (r:Rt):Bool:=(r.nd.map fun x=>decide (x∈pos)).all id
@[reducible] noncomputable def litT (lay:Lay) (s:S3) (h:HG):Prop:=h.e + h.w=0∧freeB s.occ (findR lay h.nm)=true∧setB s.pos (findR lay h.nm)=true
noncomputable def litP (lay:Lay) (h:HG):Str×Str:=((findR lay h.nm).st,(findR lay h.nm).via)
noncomputable def litL (lay:Lay) (s:S3):List (Str×Str):=sel s.held (litT lay s) (litP lay)
noncomputable def shownL (lit:List (Str×Str)):List Str:=lit.map fun q=>q.1
noncomputable def brightL (lit:List (Str×Str)):List Str:=sel lit (fun q=>q.2∈shownL lit) fun q=>q.1
noncomputable def shows3 (lay:Lay) (s:S3):List (Str×Str):=lay.sigs.map fun q=>(q.1,if q.1∈brightL (litL lay s) then "clear" else if q.1∈shownL (litL lay s) then "caution" else "stop")
theorem spec_shows {c:Cx} {n:Nat} {lay:Lay} {s:S3} (L:LCore c) (H:Pre3 lay s):Pure c (n + 2) L.a_shows [lay.v,.lst (prs s.pos),.lst (s.occ.map .str),.lst (s.held.map HG.v)] (.lst (prs (shows3 lay s))):=by
 refine pure_defC L.F_shows k_shows rfl fun A qual L' hR=>?_
 conv in D_shows.body=>whnf
 refine sLst0 (.inl rfl) fun d=>?_
 refine sFold (ls:=s.held) (f:=HG.v) (ς:=[("lay", lay.v),("pos", .lst (prs s.pos)),("occ", .lst (s.occ.map .str)),("lit", .ref d)]) (S:=fun dn qa=>[(d,.lst (prs (sel dn (litT lay s) (litP lay))))]) (ev_N rfl) seq_lst rfl (le_loc (I05 rfl rfl rfl rfl trivial)) (fun dn h td hdn k' hk'=>?_) ?_
 ·have he:=H.kn h (dn_mem hdn)
  have hdl:(prs (sel dn (litT lay s) (litP lay))).length≤sizeLine:=by rw [prs_len]; exact sz100 (le100 (Nat.le_trans (sel_len _) (dn_le hdn H.hl)))
  have e1:sel (dn++[h]) (litT lay s) (litP lay)=sel dn (litT lay s) (litP lay)++if litT lay s h then [litP lay h] else []:=by
   unfold sel; rw [List.flatMap_append,List.flatMap_cons,List.flatMap_nil,List.append_nil]
  rw [e1] at hk'
  clear e1
  generalize sel dn (litT lay s) (litP lay)=o at *
  refine (av4 (.inl rfl) (.inl rfl) (.inl rfl) (.inl rfl)).run _ ?_
  refine sSet (X:=(findR lay h.nm).v) (.inl rfl) (ev_Pure L.g_route L.F_route rfl (evs (ev_N rfl) (evs (ev_N rfl) evs0)) hR (spec_route L.F_route H.rl he.1)) ?_
  refine sIf (P:=litT lay s h) (tp_A3 (tp_eqi (ev_Bin (ev_N rfl) (ev_N rfl) bin_add_int) ev_i)
   (fun qa=>tp_bool (eb_all (ls:=(findR lay h.nm).ov) (f:=V.str) (fun x=>!decide (x∈s.occ)) inj_str (genK (q:=(236,234)) (by decide) L.blt hR rfl (by decide) (by decide) rfl (by decide) rfl) L.b_all rfl (ev_at rfl rfl) fun A' C code x qa=>⟨_,av_N (.inl rfl),ev_Cmp (ev_N rfl) (ev_N rfl) cmp_notin_strs,ll1 rfl⟩))
   (fun qa qb=>tp_bool (eb_all (ls:=(findR lay h.nm).nd) (f:=fun p:Str×Str=>V.tup [.str p.1,.str p.2]) (fun x=>decide (x∈s.pos)) inj_pair (genK (q:=(236,234)) (by decide) L.blt hR rfl (by decide) (by decide) rfl (by decide) rfl) L.b_all rfl (ev_eq (ev_at rfl rfl) (congrArg V.lst (prs_map _))) fun A' C code x qa=>⟨_,av_N (.inl rfl),ev_Cmp (ev_N rfl) (ev_N rfl) (cmp_in_prs (p:=x.1) (x:=x.2)),ll1 rfl⟩))) (fun z=>?_) fun z=>?_
  ·rw [if_pos z,← prs_snoc] at hk'
   refine sApp (X:=.tup [.str (findR lay h.nm).st,.str (findR lay h.nm).via]) rfl (ev_Tup (evs (ev_at rfl rfl) (evs (ev_at rfl rfl) evs0)) n2) hdl ?_
   exact wSs_nil (wSs_nil (hk' _ (le_loc (I05 rfl rfl rfl rfl trivial))).1)
  ·rw [if_neg z,List.append_nil] at hk'
   exact wSs_nil (wSs_nil (hk' _ (le_loc (I05 rfl rfl rfl rfl trivial))).1)
 unfold shows3
 show WSs c A _ ⟨_,[(d,.lst (prs (litL lay s)))]⟩ _ _
 have hl:(litL lay s).length≤20:=Nat.le_trans (sel_len _) H.hl
 generalize litL lay s=lit at *
 refine sFrz (pre:=[]) (x:="lit") (d:=d) rfl rfl ?_
 refine sSet (X:=.lst ((shownL lit).map .str)) (.inr rfl) (ev_CompY (ls:=lit) V.str (fun q=>q.1) inj_pair (cok rfl (by decide) (by decide)) (ev_N rfl) (prs_map lit) (sz100 (le100 hl)) ?_) ?_
 ·exact fun C q hq H' hH'=>tM (av2 (.inl rfl) (.inl rfl)) (ev_N rfl) (ll2 rfl rfl)
 refine sSet (X:=.lst ((brightL lit).map .str)) (.inr rfl) (ev_Comp (ls:=lit) (fun q=>q.2∈shownL lit) V.str (fun q=>q.1) inj_pair (cok rfl (by decide) (by decide)) (ev_N rfl) (prs_map lit) (sz100 (le100 hl)) ?_) ?_
 ·exact fun C q hq H' hH'=>tI (av2 (.inl rfl) (.inl rfl)) (tp_in (ev_N rfl) (ev_N rfl)) (fun qa=>ev_N rfl) (ll2 rfl rfl)
 refine sRet (ev_CompP (ls:=lay.sigs) (fun q=>(q.1,if q.1∈brightL lit then "clear" else if q.1∈shownL lit then "caution" else "stop")) inj_pair (cok rfl (by decide) (by decide)) (ev_at rfl rfl) (prs_map lay.sigs) (sz100 (le100 H.sl)) ?_)
 exact fun C q hq H' hH'=>tM (av2 (.inl rfl) (.inl rfl)) (ev_Tup (evs (ev_N rfl) (evs (ev_If (X:=.str (if q.1∈brightL lit then "clear" else if q.1∈shownL lit then "caution" else "stop")) (tp_in (xs:=brightL lit) (ev_N rfl) (ev_N rfl)) (fun e=>by rw [if_pos e]; exact ev_s) (fun e=>by rw [if_neg e]; exact ev_If (tp_in (xs:=shownL lit) (ev_N rfl) (ev_N rfl)) (fun e=>by rw [if_pos e]; exact ev_s) (fun e=>by rw [if_neg e]; exact ev_s))) evs0)) n2) (ll2 rfl rfl)
end Mine
end
noncomputable section
namespace Mine
open PySem PySem.Spec PyProof.Rows
theorem st_clash {a b:Rt} (h:a.st=b.st):clashB a b=true:=by
 unfold clashB
 rw [decide_eq_true h,Bool.or_true,Bool.true_or]
theorem flat_congr {α β:Type} {f g:α→List β}:∀ {l:List α},(∀ a∈l,f a=g a)→l.flatMap f=l.flatMap g
 | [],_=>rfl
 | a::l,h=>by rw [List.flatMap_cons,List.flatMap_cons,h a (.head _),flat_congr fun b hb=>h b (.tail _ hb)]
theorem nodup_len {α:Type} [DecidableEq α]:∀ (l m:List α),l.Nodup→(∀ x∈l,x∈m)→l.length≤m.length
 | [],_,_,_=>Nat.zero_le _
 | a::l,m,h,hs=>by
  rw [List.nodup_cons] at h
  have ha:a∈m:=hs a (.head _)
  have h1:=nodup_len l (m.erase a) h.2 fun x hx=>(List.mem_erase_of_ne (fun (e:x=a)=>h.1 (e▸hx))).mpr (hs x (.tail _ hx))
  rw [List.length_erase_of_mem ha] at h1
  have h2:=List.length_pos_of_mem ha
  rw [List.length_cons]
  exact Nat.le_trans (Nat.succ_le_succ h1) (Nat.le_of_eq (Nat.sub_add_cancel h2))
theorem map_flat1 {α β:Type} (f:α→β):∀ l:List α,l.map f=l.flatMap fun a=>[f a]
 | []=>rfl
 | a::l=>by rw [List.map_cons,List.flatMap_cons,← map_flat1 f l]; rfl
structure HGI (lay:Lay) (held:List HG):Prop where
 names:(held.map HG.nm).Nodup
 kn:∀ h∈held,h.nm∈lay.rts.map Rt.nm∧h.g < (findR lay h.nm).ov.length∧(h.g:Int)≤h.e∧0≤h.w
 sts:(held.map fun h=>(findR lay h.nm).st).Nodup
structure GInv (lay:Lay) (s:S3):Prop where
 pos:s.pos.map (·.1)=lay.pts.map (·.1)
 srt:sortedS s.occ=true
 ond:s.occ.Nodup
 osub:∀ x∈s.occ,x∈lay.secs
 held:HGI lay s.held
section
variable {lay:Lay} {s:S3}
theorem flat_sub {β:Type} {f:HG→List HG} {p:HG→β}:∀ {l:List HG},(∀ h∈l,f h=[]∨∃ g,f h=[g]∧p g=p h)→((l.flatMap f).map p).Sublist (l.map p)
 | [],_=>List.Sublist.refl _
 | h::l,hh=>by
  have ih:=flat_sub (f:=f) (p:=p) (l:=l) fun g hg=>hh g (.tail _ hg)
  rw [List.flatMap_cons,List.map_append,List.map_cons]
  rcases hh h (.head _) with e | ⟨g,e,e2⟩
  ·rw [e]; exact ih.cons _
  ·rw [e,List.map_cons,List.map_nil,e2]; exact ih.cons₂ _
theorem HGI.flat {held:List HG} (I:HGI lay held) {f:HG→List HG} (h:∀ h∈held,f h=[]∨∃ g,f h=[g]∧g.nm=h.nm∧g.g < (findR lay g.nm).ov.length∧(g.g:Int)≤g.e∧0≤g.w):HGI lay (held.flatMap f) where
 names:=I.names.sublist (flat_sub fun x hx=>(h x hx).imp id fun ⟨g,e,e2,_⟩=>⟨g,e,e2⟩)
 kn:=fun g hg=>by
  obtain ⟨x,hx,hg⟩:=List.mem_flatMap.mp hg
  rcases h x hx with e | ⟨g',e,e2,e3⟩
  ·rw [e] at hg; cases hg
  ·rw [e,List.mem_singleton] at hg
   subst hg
   exact ⟨e2▸(I.kn x hx).1,e3⟩
 sts:=I.sts.sublist (flat_sub fun x hx=>(h x hx).imp id fun ⟨g,e,e2,_⟩=>⟨g,e,by rw [e2]⟩)
theorem HGI.filter {held:List HG} (I:HGI lay held) (p:HG→Bool):HGI lay (held.filter p) where
 names:=I.names.sublist (List.filter_sublist.map _)
 kn:=fun g hg=>I.kn g (List.mem_filter.mp hg).1
 sts:=I.sts.sublist (List.filter_sublist.map _)
theorem GInv.occl (L:LH lay) (I:GInv lay s):s.occ.length≤20:=Nat.le_trans (nodup_len _ _ I.ond I.osub) L.scl
theorem GInv.heldl (L:LH lay) (I:GInv lay s):s.held.length≤20:=by
 have h:=nodup_len _ (lay.rts.map Rt.nm) I.held.names fun x hx=>by
  obtain ⟨h,hh,rfl⟩:=List.mem_map.mp hx
  exact (I.held.kn h hh).1
 rw [List.length_map,List.length_map] at h
 exact Nat.le_trans h L.rl
theorem GInv.posnd (L:LH lay) (I:GInv lay s):(s.pos.map (·.1)).Nodup:=I.pos▸L.pnd
theorem GInv.pre (L:LH lay) (I:GInv lay s):Pre3 lay s where
 rl:=L.rl
 pl:=L.pl
 nd:=fun r hr=>(L.ndn r hr).2
 ov:=fun r hr=>(L.ov r hr).2.1
 sl:=L.sl
 hl:=I.heldl L
 ol:=I.occl L
 ql:=by have h:=congrArg List.length I.pos; rw [List.length_map,List.length_map] at h; rw [h]; exact L.pl
 kn:=fun h hh=>⟨(I.held.kn h hh).1,Int.le_trans (Int.natCast_nonneg _) (I.held.kn h hh).2.2.1,(I.held.kn h hh).2.1⟩
theorem toS_map {β:Type} {f:Held→β}:((toS lay s).held.map f)=s.held.map fun h=>f (toH lay h):=List.map_map
theorem GInv.sinv (L:LH lay) (I:GInv lay s):SInv lay (toS lay s) where
 pos:=I.pos
 srt:=I.srt
 ond:=I.ond
 occl:=I.occl L
 held:={
  heldl:=by show (s.held.map _).length≤20; rw [List.length_map]; exact I.heldl L
  names:=by rw [toS_map]; exact I.held.names
  known:=fun h hh=>by obtain ⟨g,hg,rfl⟩:=List.mem_map.mp hh; exact (I.held.kn g hg).1
  sub:=fun h hh=>by
   obtain ⟨g,hg,rfl⟩:=List.mem_map.mp hh
   have hr:=findR_mem (I.held.kn g hg).1
   refine ⟨?_,fun x hx=>List.mem_of_mem_drop hx⟩
   show ((findR lay g.nm).ov.drop g.g).length≤20
   rw [List.length_drop]
   exact Nat.le_trans (Nat.sub_le _ _) (L.ov _ hr.1).2.1
  e0:=fun h hh=>by
   obtain ⟨g,hg,rfl⟩:=List.mem_map.mp hh
   exact ⟨Int.le_trans (Int.natCast_nonneg _) (I.held.kn g hg).2.2.1,(I.held.kn g hg).2.2.2⟩
  sts:=by rw [toS_map]; exact I.held.sts }
theorem GInv.set_pos (I:GInv lay s) {pos:List (Str×Str)} (h:pos.map (·.1)=lay.pts.map (·.1)):GInv lay ⟨pos,s.occ,s.held⟩:={ I with pos:=h }
noncomputable def StepOk (lay:Lay) (s:S3) (ev:Ev) (r:S3×Str):Prop:=(toS lay r.1,r.2)=stepH lay (toS lay s) ev∧GInv lay r.1
theorem so {ev:Ev} {r:S3×Str} {s':S3} {t:Str} (e1:r=(s',t)) (e2:stepH lay (toS lay s) ev=(toS lay s',t)) (h:GInv lay s'):StepOk lay s ev r:=by
 subst e1; exact ⟨e2.symm,h⟩
theorem tick_law (I:GInv lay s):StepOk lay s .tick (⟨s.pos,s.occ,sel s.held (fun h=>h.w≠1) tick1⟩,"done"):=by
 have hc:∀ h∈s.held,((if h.w≠1 then [tick1 h] else []:List HG)).map (toH lay)=tickH (toH lay h):=fun h hh=>by
  have h0:=(I.held.kn h hh).2.2.2
  obtain ⟨nm,g,e,w⟩:=h
  show ((if w≠1 then [⟨nm,g,e,max (w - 1) 0⟩] else []:List HG)).map (toH lay)=(if w=0 then [toH lay ⟨nm,g,e,w⟩] else if w - 1=0 then [] else [⟨nm,_,e,w - 1⟩])
  have h0:0≤w:=h0
  by_cases w0:w=0
  ·subst w0; rw [if_pos (by decide),if_pos rfl]; rfl
  ·by_cases w1:w=1
   ·subst w1; rw [if_neg (by decide),if_neg (by decide),if_pos (by decide)]; rfl
   ·rw [if_pos w1,if_neg w0,if_neg fun z=>w1 (Int.sub_eq_zero.mp z)]
    have e:max (w - 1) 0=w - 1:=Int.max_eq_left (Int.sub_nonneg_of_le (Int.lt_iff_add_one_le.mp (Int.lt_iff_le_and_ne.mpr ⟨h0,fun e=>w0 e.symm⟩)))
    rw [e]; rfl
 refine ⟨?_,⟨I.pos,I.srt,I.ond,I.osub,I.held.flat fun h hh=>?_⟩⟩
 ·show (Sta.mk s.pos s.occ ((s.held.flatMap _).map _),_)=(Sta.mk s.pos s.occ ((s.held.map _).flatMap _),_)
  rw [List.map_flatMap,List.flatMap_map,flat_congr hc]
 ·have hk:=I.held.kn h hh
  by_cases w1:h.w≠1
  ·rw [if_pos w1]
   exact .inr ⟨_,rfl,rfl,hk.2.1,hk.2.2.1,Int.le_max_right _ _⟩
  ·rw [if_neg w1]; exact .inl rfl
theorem find_at {sigs:List (Str×Str)} {occ:List Str} {st:Str} (hn:(sigs.map (·.1)).Nodup) (hs:st∈sigs.map (·.1)):atB sigs occ st=true↔(tget sigs st).getD "" ∈ occ:=by
 obtain ⟨v,hv⟩:=tget_some hs
 unfold atB
 rw [List.any_map,List.any_eq_true,hv]
 show (∃ q∈sigs,(decide (q.1=st)&&decide (q.2∈occ))=true)↔v∈occ
 constructor
 ·rintro ⟨q,hq,e⟩
  rw [Bool.and_eq_true,decide_eq_true_eq,decide_eq_true_eq] at e
  have:tget sigs st=some q.2:=(tget_mem hn).mpr (e.1▸hq)
  rw [hv] at this
  cases this; exact e.2
 ·intro h
  exact ⟨(st,v),(tget_mem hn).mp hv,by rw [Bool.and_eq_true,decide_eq_true_eq,decide_eq_true_eq]; exact ⟨rfl,h⟩⟩
theorem cancel_law (L:LH lay) (I:GInv lay s) {nm:Str}:StepOk lay s (.cancel nm) (cancel3 lay s nm):=by
 have e:((toS lay s).held.find? fun h=>decide (h.nm=nm))=((s.held.filter fun h=>decide (h.nm=nm)).head?).map (toH lay):=by
  show (s.held.map _).find? _=_
  rw [List.find?_map,List.head?_filter]; rfl
 unfold StepOk
 show (_,_)=cancelH lay (toS lay s) nm∧_
 unfold cancelH cancel3
 rw [e]
 cases hf:s.held.filter fun h=>decide (h.nm=nm) with
 | nil=>exact ⟨rfl,I⟩
 | cons h tl =>
  dsimp only [List.head?_cons,Option.map_some]
  have hm:=List.mem_filter.mp (hf▸List.mem_cons_self:h∈s.held.filter fun h=>decide (h.nm=nm))
  have hn:h.nm=nm:=of_decide_eq_true hm.2
  have hk:=I.held.kn h hm.1
  have hg:=Int.natCast_nonneg h.g
  show (_,_)=(if h.e≠0 then _ else if h.w≠0 then _ else _)∧_
  by_cases h1:h.e > 0
  ·rw [if_pos h1,if_pos (Int.ne_of_gt h1)]; exact ⟨rfl,I⟩
  have he0:h.e=0:=Int.le_antisymm (Int.not_lt.mp h1) (Int.le_trans hg hk.2.2.1)
  rw [if_neg h1,if_neg (not_not_intro he0)]
  by_cases h2:h.w > 0
  ·rw [if_pos h2,if_pos (Int.ne_of_gt h2)]; exact ⟨rfl,I⟩
  rw [if_neg h2,if_neg (not_not_intro (Int.le_antisymm (Int.not_lt.mp h2) hk.2.2.2))]
  have hat:=find_at (occ:=s.occ) L.snd (L.st _ (findR_mem (hn▸hk.1:nm∈lay.rts.map Rt.nm)).1)
  by_cases h3:atB lay.sigs s.occ (findR lay nm).st=true
  ·rw [if_pos h3,if_pos (show _∈(toS lay s).occ from hat.mp h3)]
   refine ⟨?_,⟨I.pos,I.srt,I.ond,I.osub,?_⟩⟩
   ·show (Sta.mk s.pos s.occ ((s.held.map _).map _),_)=(Sta.mk s.pos s.occ ((s.held.map _).map _),_)
    rw [List.map_map,List.map_map]
    congr 2
    refine List.map_congr_left fun x hx=>?_
    show toH lay (if x.nm=nm then ⟨nm,0,0,3⟩ else x)=if x.nm=nm then { toH lay x with w:=3 } else toH lay x
    by_cases hxn:x.nm=nm
    ·have:x=h:=nodup_inj I.held.names hx hm.1 (hxn.trans hn.symm)
     subst this
     rw [if_pos hxn,if_pos hxn]
     have e1:x.g=0:=Int.natCast_eq_zero.mp (Int.le_antisymm (he0▸hk.2.2.1) hg)
     show Held.mk nm ((findR lay nm).ov.drop 0) 0 3=⟨x.nm,(findR lay x.nm).ov.drop x.g,x.e,3⟩
     rw [e1,he0,hxn]
    ·rw [if_neg hxn,if_neg hxn]
   ·rw [map_flat1]
    refine I.held.flat fun x hx=>.inr ⟨_,rfl,?_⟩
    by_cases hxn:x.nm=nm
    ·rw [if_pos hxn]
     exact ⟨hxn.symm,List.length_pos_iff.mpr (L.ov _ (findR_mem (hn▸hk.1:nm∈lay.rts.map Rt.nm)).1).2.2,Int.le_refl _,by show (0:Int)≤3; decide⟩
    ·rw [if_neg hxn]; exact ⟨rfl,(I.held.kn x hx).2⟩
  ·rw [if_neg h3,if_neg (show ¬ _∈(toS lay s).occ from fun z=>h3 (hat.mpr z))]
   refine ⟨?_,⟨I.pos,I.srt,I.ond,I.osub,I.held.filter _⟩⟩
   show (Sta.mk s.pos s.occ ((s.held.filter _).map _),_)=(Sta.mk s.pos s.occ ((s.held.map _).filter _),_)
   rw [List.filter_map]; rfl
theorem ent_iff {l:List Str} {n:Nat} {x:Str}:(l.drop n).take 1=[x]↔l[n]?=some x:=by
 rw [← List.head?_drop]
 cases l.drop n with
 | nil=>simp
 | cons y ys=>simp
theorem enter_law (L:LH lay) (I:GInv lay s) {x:Str}:StepOk lay s (.enter x) (enter3 lay s x):=by
 by_cases h1:x∈lay.secs
 ·by_cases h2:x∈s.occ
  ·exact so ((if_neg (not_not_intro h1)).trans (if_pos h2)) ((if_pos h1).trans (if_pos h2)) I
  ·have hp:=sortL_perm (s.occ++[x])
   refine so ((if_neg (not_not_intro h1)).trans (if_neg h2)) (((if_pos h1).trans (if_neg h2)).trans ?_) ⟨I.pos,sortL_sorted _,?_,?_,?_⟩
   ·show (Sta.mk s.pos _ ((s.held.map _).map _),_)=(Sta.mk s.pos _ ((s.held.map _).map _),_)
    rw [List.map_map,List.map_map]
    congr 2
    refine List.map_congr_left fun h qa=>?_
    by_cases q:entT lay x h
    ·exact (if_pos (ent_iff.mp q)).trans (congrArg (toH lay) (if_pos q:ent3 lay x h=_).symm)
    ·exact (if_neg fun z=>q (ent_iff.mpr z)).trans (congrArg (toH lay) (if_neg q:ent3 lay x h=_).symm)
   ·exact hp.nodup_iff.mpr (List.nodup_append.mpr ⟨I.ond,List.pairwise_singleton _ _,fun a ha b hb e=>h2 (by rw [List.mem_singleton] at hb; rw [← hb,← e]; exact ha)⟩)
   ·intro y hy
    rcases List.mem_append.mp (hp.mem_iff.mp hy) with hy | hy
    ·exact I.osub y hy
    ·rw [List.mem_singleton] at hy; rw [hy]; exact h1
   ·show HGI lay (s.held.map _)
    rw [map_flat1]
    refine I.held.flat fun h hh=>.inr ⟨_,rfl,?_⟩
    have hk:=I.held.kn h hh
    unfold ent3
    by_cases q:entT lay x h
    ·rw [if_pos q]; exact ⟨rfl,hk.2.1,Int.le_trans hk.2.2.1 (Int.le_add_one (Int.le_refl _)),Int.le_refl _⟩
    ·rw [if_neg q]; exact ⟨rfl,hk.2⟩
 ·exact so (if_pos h1) (if_neg h1) I
theorem take_iff {l:List Str} (hn:l.Nodup) {g:Nat} {x:Str} (hg:l[g]?=some x) {n:Nat}:x∈l.take n↔g < n:=by
 constructor
 ·intro h
  obtain ⟨i,hi,e⟩:=List.mem_take_iff_getElem.mp h
  have hgl:g < l.length:=(List.getElem?_eq_some_iff.mp hg).1
  have e2:l[g]=x:=(List.getElem?_eq_some_iff.mp hg).2
  have:i=g:=(List.getElem_inj hn).mp (e.trans e2.symm)
  exact this▸Nat.lt_of_lt_of_le hi (Nat.min_le_left _ _)
 ·intro h
  have hgl:g < l.length:=(List.getElem?_eq_some_iff.mp hg).1
  have e2:l[g]=x:=(List.getElem?_eq_some_iff.mp hg).2
  exact List.mem_take_iff_getElem.mpr ⟨g,Nat.lt_min.mpr ⟨h,hgl⟩,e2⟩
theorem leave_one (L:LH lay) {h:HG} {x:Str} (hk:h.nm∈lay.rts.map Rt.nm) (hg:h.g < (findR lay h.nm).ov.length) (he:(h.g:Int)≤h.e):(leave1 lay x h).map (toH lay)=leaveH lay x (toH lay h):=by
 have hn:=(L.ov _ (findR_mem hk).1).1
 have hl:(toH lay h).left=(findR lay h.nm).ov[h.g]::(findR lay h.nm).ov.drop (h.g + 1):=List.drop_eq_getElem_cons hg
 have hgo:(findR lay h.nm).ov[h.g]?=some (findR lay h.nm).ov[h.g]:=List.getElem?_eq_getElem hg
 have hiff:lvT lay x h↔((findR lay h.nm).ov[h.g]=x∧x∈(findR lay h.nm).ov.take h.e.toNat):=by
  constructor
  ·rintro ⟨h1,h2⟩
   refine ⟨by rw [hgo] at h2; exact Option.some.inj h2,(take_iff hn h2).mpr (Int.lt_toNat.mpr h1)⟩
  ·rintro ⟨h1,h2⟩
   have h3:(findR lay h.nm).ov[h.g]?=some x:=by rw [hgo,h1]
   have:=(take_iff hn h3).mp h2
   exact ⟨Int.lt_toNat.mp this,h3⟩
 unfold leaveH
 rw [hl]
 show _=if (findR lay h.nm).ov[h.g]=x∧x∈(findR lay h.nm).ov.take h.e.toNat then (if (findR lay h.nm).ov.drop (h.g + 1)=[] then [] else [⟨h.nm,(findR lay h.nm).ov.drop (h.g + 1),h.e,h.w⟩]) else [toH lay h]
 unfold leave1 gone3
 by_cases q:lvT lay x h
 ·rw [if_pos (hiff.mp q),if_pos q]
  by_cases q2:h.g + 1 < (findR lay h.nm).ov.length
  ·rw [if_pos q2,if_neg fun z=>Nat.not_le.mpr q2 (List.drop_eq_nil_iff.mp z)]; rfl
  ·rw [if_neg q2,if_pos (List.drop_eq_nil_iff.mpr (Nat.le_of_not_lt q2))]; rfl
 ·rw [if_neg (fun z=>q (hiff.mpr z)),if_neg q,if_pos hg]; rfl
theorem leave_law (L:LH lay) (I:GInv lay s) {x:Str}:StepOk lay s (.leave x) (leave3 lay s x):=by
 by_cases h1:x∈lay.secs
 ·by_cases h2:x∈s.occ
  ·refine so ((if_neg (not_not_intro h1)).trans (if_neg (not_not_intro h2))) (((if_pos h1).trans (if_pos h2)).trans ?_) ⟨I.pos,srt_filter _ I.srt,I.ond.filter _,fun y hy=>I.osub y (List.mem_filter.mp hy).1,?_⟩
   ·show (Sta.mk s.pos _ ((s.held.map _).flatMap _),_)=(Sta.mk s.pos _ ((s.held.flatMap _).map _),_)
    rw [List.map_flatMap,List.flatMap_map,flat_congr fun h hh=>leave_one L (I.held.kn h hh).1 (I.held.kn h hh).2.1 (I.held.kn h hh).2.2.1]; rfl
   ·refine I.held.flat fun h hh=>?_
    have hk:=I.held.kn h hh
    unfold leave1
    by_cases q:gone3 lay x h < (findR lay h.nm).ov.length
    ·rw [if_pos q]
     refine .inr ⟨_,rfl,rfl,q,?_,hk.2.2.2⟩
     show ((gone3 lay x h:Nat):Int)≤h.e
     unfold gone3
     by_cases q2:lvT lay x h
     ·rw [if_pos q2]; exact q2.1
     ·rw [if_neg q2]; exact hk.2.2.1
    ·rw [if_neg q]; exact .inl rfl
  ·exact so ((if_neg (not_not_intro h1)).trans (if_pos h2)) ((if_pos h1).trans (if_neg h2)) I
 ·exact so (if_pos h1) (if_neg h1) I
theorem lock_iff (L:LH lay) (I:GInv lay s) {p:Str} (hp:p∈lay.pts.map (·.1)):lockH lay s.occ (toS lay s).held p=true↔p∈lockL lay s.occ s.held:=by
 unfold lockH lockL
 rw [Bool.or_eq_true,decide_eq_true_eq,List.any_eq_true,List.mem_append]
 obtain ⟨v,hv⟩:=tget_some hp
 rw [hv]
 refine or_congr ?_ ?_
 ·show v∈s.occ↔p∈List.flatMap _ _
  rw [List.mem_flatMap]
  constructor
  ·intro h
   exact ⟨(p,v),(tget_mem L.pnd).mp hv,by rw [if_pos h]; exact .head _⟩
  ·rintro ⟨q,hq,h⟩
   split at h
   ·rename_i ho
    rw [List.mem_singleton] at h
    have:tget lay.pts p=some q.2:=(tget_mem L.pnd).mpr (h▸hq)
    rw [hv] at this
    cases this; exact ho
   ·cases h
 ·rw [List.mem_flatMap]
  constructor
  ·rintro ⟨h,hh,e⟩
   obtain ⟨g,hg,rfl⟩:=List.mem_map.mp hh
   rw [Bool.and_eq_true,decide_eq_true_eq] at e
   have hr:=findR_mem (I.held.kn g hg).1
   refine ⟨findR lay g.nm,hr.1,?_⟩
   rw [if_pos (by rw [hr.2]; exact List.mem_map_of_mem hg),sel_true]
   exact e.2
  ·rintro ⟨r,hr,h⟩
   by_cases q:r.nm∈s.held.map HG.nm
   ·rw [if_pos q,sel_true] at h
    obtain ⟨g,hg,e⟩:=List.mem_map.mp q
    refine ⟨toH lay g,List.mem_map_of_mem hg,?_⟩
    rw [Bool.and_eq_true,decide_eq_true_eq]
    constructor
    ·have hl:=(I.held.kn g hg).2.1
     show (!((findR lay g.nm).ov.drop g.g).isEmpty)=true
     rw [List.drop_eq_getElem_cons hl]; rfl
    ·show p∈(findR lay g.nm).nd.map (·.1)
     rw [e,L.find hr]; exact h
   ·rw [if_neg q] at h; cases h
theorem move_law (L:LH lay) (I:GInv lay s) {p x:Str} (hp:p = "S" ∨ p∈lay.pts.map (·.1)):StepOk lay s (.move p x) (if p = "S" then (s,"unknown") else if p∈lockL lay s.occ s.held then (s,"locked") else (⟨s.pos.map fun q=>(q.1,if q.1=p then x else q.2),s.occ,s.held⟩,"done")):=by
 by_cases h1:p = "S"
 ·exact so (if_pos h1) (if_neg fun z=>L.nS (h1▸z)) I
 ·have hp:=hp.resolve_left h1
  by_cases h2:p∈lockL lay s.occ s.held
  ·exact so ((if_neg h1).trans (if_pos h2)) ((if_pos hp).trans (if_pos ((lock_iff L I hp).mpr h2))) I
  ·have e:tset s.pos p x=s.pos.map fun q=>(q.1,if q.1=p then x else q.2):=by
    unfold tset
    obtain ⟨q,hq,hq2⟩:=List.mem_map.mp (I.pos▸hp:p∈s.pos.map (·.1))
    rw [if_pos (List.any_eq_true.mpr ⟨q,hq,decide_eq_true hq2⟩)]
    refine List.map_congr_left fun y qa=>?_
    by_cases hy:y.1=p
    ·rw [if_pos hy,if_pos hy]
    ·rw [if_neg hy,if_neg hy]
   refine so ((if_neg h1).trans (if_neg h2)) (((if_pos hp).trans (if_neg fun z=>h2 ((lock_iff L I hp).mp z))).trans ?_) (I.set_pos ?_)
   ·show (Sta.mk (tset s.pos p x) _ _,_)=_
    rw [e]; rfl
   ·rw [List.map_map]; exact I.pos
noncomputable def PairsOk (lay:Lay) (pairs:List (Str×Str)):Prop:=∀ n∈lay.rts.map Rt.nm,∀ m∈lay.rts.map Rt.nm,n≠m→((n,m)∈pairs∨(m,n)∈pairs↔clashB (findR lay n) (findR lay m)=true)
theorem set_law (L:LH lay) (I:GInv lay s) {pairs:List (Str×Str)} (hP:PairsOk lay pairs) {nm:Str}:StepOk lay s (.set nm) (set3 lay pairs s nm):=by
 have fin:∀ {t:Str},setH lay (toS lay s) nm=t→t ≠ "done" → stepH lay (toS lay s) (.set nm)=(toS lay s,t):=fun h1 h2=>Eq.trans (if_neg (h1▸h2)) (congrArg (Prod.mk (toS lay s)) h1)
 cases hf:lay.rts.filter fun r=>decide (r.nm=nm) with
 | nil =>
  refine so (by unfold set3; rw [hf]) (fin (if_pos fun hm=>?_) (by decide)) I
  obtain ⟨tl,h⟩:=find_filter hm
  rw [hf] at h; cases h
 | cons r tl =>
  obtain ⟨hfr,hk⟩:=filter_find hf
  have es:set3 lay pairs s nm=(if nm∈s.held.map HG.nm then (s,"held") else if occB s.occ r=true then (s,"occupied") else if prB pairs nm (s.held.map HG.nm)=true then (s,"conflict")
    else if fastB (lockL lay s.occ s.held) s.pos r.nd=true then (s,"locked") else (⟨s.pos.map fun q=>(q.1,(tget (tfold r.nd []) q.1).getD q.2),s.occ,s.held++[⟨nm,0,0,0⟩]⟩,"done"):S3×Str):=by unfold set3; rw [hf]
  have hr:=findR_mem hk
  rw [hfr] at hr
  have g2:((toS lay s).held.any fun h=>decide (h.nm=nm))=true↔nm∈s.held.map HG.nm:=by
   show ((s.held.map (toH lay)).any _)=true↔_
   rw [List.any_map,List.any_eq_true,List.mem_map]
   exact exists_congr fun h=>and_congr Iff.rfl (decide_eq_true_iff (p:=h.nm=nm))
  have k1:setH lay (toS lay s) nm=_:=if_neg (not_not_intro hk)
  by_cases h2:nm∈s.held.map HG.nm
  ·exact so (es.trans (if_pos h2)) (fin (k1.trans (if_pos (g2.mpr h2))) (by decide)) I
  replace es:=es.trans (if_neg h2)
  replace k1:=k1.trans (if_neg fun z=>h2 (g2.mp z))
  have g3:((findR lay nm).ov.any fun x=>decide (x∈(toS lay s).occ))=occB s.occ r:=by rw [hfr]; unfold occB; rw [List.any_map]; rfl
  by_cases h3:occB s.occ r=true
  ·exact so (es.trans (if_pos h3)) (fin (k1.trans (if_pos (g3.trans h3))) (by decide)) I
  replace es:=es.trans (if_neg h3)
  replace k1:=k1.trans (if_neg fun z=>h3 (g3.symm.trans z))
  have g4:((toS lay s).held.any fun h=>clashB (findR lay nm) (findR lay h.nm))=true↔prB pairs nm (s.held.map HG.nm)=true:=by
   show ((s.held.map (toH lay)).any _)=true↔_
   unfold prB
   rw [List.any_map,List.any_map,List.any_map,List.any_eq_true,List.any_eq_true]
   refine exists_congr fun h=>and_congr_right fun hh=>?_
   show clashB (findR lay nm) (findR lay h.nm)=true↔(decide ((nm,h.nm)∈pairs)||decide ((h.nm,nm)∈pairs))=true
   rw [Bool.or_eq_true,decide_eq_true_eq,decide_eq_true_eq]
   exact (hP nm hk h.nm (I.held.kn h hh).1 fun e=>h2 (e▸List.mem_map_of_mem hh)).symm
  by_cases h4:prB pairs nm (s.held.map HG.nm)=true
  ·exact so (es.trans (if_pos h4)) (fin (k1.trans (if_pos (g4.mpr h4))) (by decide)) I
  replace es:=es.trans (if_neg h4)
  replace k1:=k1.trans (if_neg fun z=>h4 (g4.mp z))
  have g5:((findR lay nm).nd.any fun q=>!decide (tget (toS lay s).pos q.1=some q.2)&&lockH lay (toS lay s).occ (toS lay s).held q.1)=true↔fastB (lockL lay s.occ s.held) s.pos r.nd=true:=by
   rw [hfr]; unfold fastB
   rw [List.any_map,List.any_eq_true,List.any_eq_true]
   refine exists_congr fun q=>and_congr_right fun hq=>?_
   show (!decide (tget s.pos q.1=some q.2)&&lockH lay s.occ (toS lay s).held q.1)=true↔(decide (q.1∈lockL lay s.occ s.held)&&!decide (q∈s.pos))=true
   rw [Bool.and_eq_true,Bool.and_eq_true,lock_iff L I (L.ndp r hr.1 q hq),Bool.not_eq_true',Bool.not_eq_true',decide_eq_false_iff_not,decide_eq_false_iff_not,decide_eq_true_eq,tget_mem (I.posnd L)]
   exact and_comm
  by_cases h5:fastB (lockL lay s.occ s.held) s.pos r.nd=true
  ·exact so (es.trans (if_pos h5)) (fin (k1.trans (if_pos (g5.mpr h5))) (by decide)) I
  replace es:=es.trans (if_neg h5)
  replace k1:=k1.trans (if_neg fun z=>h5 (g5.mp z))
  have hn:(tfold r.nd s.pos).map (·.1)=lay.pts.map (·.1):=by rw [tfold_names _ (fun q hq=>by rw [I.pos]; exact L.ndp r hr.1 q hq),I.pos]
  have e:tfold r.nd s.pos=s.pos.map fun q=>(q.1,(tget (tfold r.nd []) q.1).getD q.2):=by
   have e1:=pos_out (pts:=s.pos) (pos:=tfold r.nd s.pos) (by rw [hn,I.pos]) (I.posnd L)
   rw [← e1]
   refine List.map_congr_left fun q hq=>?_
   rw [tget_tfold,(tget_mem (I.posnd L)).mpr hq]
   cases tget (tfold r.nd []) q.1 <;> rfl
  refine so es (Eq.trans (if_pos k1) ?_) ⟨by rw [← e]; exact hn,I.srt,I.ond,I.osub,?_,fun h hh=>?_,?_⟩
  ·show (Sta.mk (tfold (findR lay nm).nd s.pos) s.occ (s.held.map (toH lay)++[⟨nm,(findR lay nm).ov,0,0⟩]),_)=(Sta.mk _ s.occ ((s.held++[(⟨nm,0,0,0⟩:HG)]).map (toH lay)),_)
   rw [List.map_append,hfr,e,← hfr]; rfl
  ·rw [List.map_append]
   refine List.nodup_append.mpr ⟨I.held.names,List.pairwise_singleton _ _,fun a ha b hb e=>h2 ?_⟩
   have hb:b=nm:=List.mem_singleton.mp hb
   rw [← hb,← e]; exact ha
  ·rcases List.mem_append.mp hh with hh | hh
   ·exact I.held.kn h hh
   ·rw [List.mem_singleton] at hh
    subst hh
    refine ⟨hk,?_,Int.le_refl _,Int.le_refl _⟩
    show 0 < (findR lay nm).ov.length
    rw [hfr]; exact List.length_pos_iff.mpr (L.ov r hr.1).2.2
  ·rw [List.map_append]
   refine List.nodup_append.mpr ⟨I.held.sts,List.pairwise_singleton _ _,fun a ha b hb e=>h4 (g4.mp ?_)⟩
   obtain ⟨h,hh,rfl⟩:=List.mem_map.mp ha
   exact List.any_eq_true.mpr ⟨toH lay h,List.mem_map_of_mem hh,st_clash ((List.mem_singleton.mp hb).symm.trans e.symm)⟩
noncomputable def EvOk (lay:Lay):Ev→Prop
 | .move p _=>p = "S" ∨ p∈lay.pts.map (·.1)
 | _=>True
theorem step_law (L:LH lay) (I:GInv lay s) {pairs:List (Str×Str)} (hP:PairsOk lay pairs) {ev:Ev} (hev:EvOk lay ev):StepOk lay s ev (after3 lay pairs s ev):=by
 cases ev with
 | set nm=>exact set_law L I hP
 | cancel nm=>exact cancel_law L I
 | tick=>exact tick_law I
 | enter x=>exact enter_law L I
 | leave x=>exact leave_law L I
 | move p x=>exact move_law L I hev
end
end Mine
end
noncomputable section
namespace Mine
open PySem PySem.Spec PyProof.Rows
section
variable {lay:Lay} {st:Sta}
noncomputable def goodB (lay:Lay) (st:Sta) (h:Held):Bool:=decide (h.e=0)&&decide (h.w=0)&&!((findR lay h.nm).ov.any fun s=>decide (s∈st.occ))&&((findR lay h.nm).nd.all fun q=>decide (tget st.pos q.1=some q.2))
theorem go_fold (pos:List (Str×Str)) (occ:List Str) (hp:pos=st.pos) (ho:occ=st.occ):∀ (l:List Held) (acc:List (Str×Rt)),(acc.map (·.1)++l.map fun h=>(findR lay h.nm).st).Nodup →
  l.foldl (goStep (knOf lay) pos occ) acc=acc++(l.filter (goodB lay st)).map fun h=>((findR lay h.nm).st,findR lay h.nm)
 | [],acc,_=>by simp
 | h::l,acc,hnd=>by
  subst hp ho
  rw [List.foldl_cons]
  have h1:(findR lay h.nm).st∉acc.map (·.1):=by
   rw [List.nodup_append] at hnd
   intro h2
   exact hnd.2.2 _ h2 _ (List.mem_map_of_mem (.head _)) rfl
  have h2:(acc.map (·.1)++l.map fun h=>(findR lay h.nm).st).Nodup:=hnd.sublist ((List.Sublist.refl _).append (by rw [List.map_cons]; exact List.sublist_cons_self _ _))
  have hstep:goStep (knOf lay) st.pos st.occ acc h=if goodB lay st h=true then acc++[((findR lay h.nm).st,findR lay h.nm)] else acc:=by
   unfold goStep goodB
   show (if h.e≠0∨h.w≠0 then acc else if ((findR lay h.nm).ov.any fun s=>decide (s∈st.occ))=true then acc else if (((findR lay h.nm).nd.all fun q=>decide (tget st.pos q.1=some q.2))&&!decide ((findR lay h.nm).st∈acc.map (·.1)))=true then acc++[((findR lay h.nm).st,findR lay h.nm)] else acc)=_
   rw [decide_eq_false h1]
   by_cases e1:h.e=0
   ·by_cases e2:h.w=0
    ·rw [if_neg (by simp [e1,e2]),decide_eq_true e1,decide_eq_true e2]
     cases ((findR lay h.nm).ov.any fun s=>decide (s∈st.occ)) with
     | true=>rfl
     | false=>cases ((findR lay h.nm).nd.all fun q=>decide (tget st.pos q.1=some q.2)) <;> rfl
    ·rw [if_pos (.inr e2),decide_eq_false e2]; simp
   ·rw [if_pos (.inl e1),decide_eq_false e1]; simp
  rw [hstep,List.filter_cons]
  by_cases hg:goodB lay st h=true
  ·rw [if_pos hg,if_pos hg,go_fold st.pos st.occ rfl rfl l]
   ·simp
   ·simp only [List.map_append,List.map_cons,List.map_nil,List.append_assoc,List.cons_append,List.nil_append]
    exact hnd
  ·rw [if_neg hg,if_neg hg,go_fold st.pos st.occ rfl rfl l _ h2]
end
theorem sel_fil {α β:Type} {P:α→Prop} [DecidablePred P] {y:α→β} (l:List α):sel l P y=(l.filter fun a=>decide (P a)).map y:=by
 unfold sel
 induction l with
 | nil=>rfl
 | cons a l ih =>
  rw [List.flatMap_cons,ih,List.filter_cons]
  by_cases q:P a
  ·rw [if_pos q,if_pos (decide_eq_true q)]; rfl
  ·rw [if_neg q,if_neg (by simpa using q)]; rfl
theorem add0 {a b:Int} (h1:0≤a) (h2:0≤b):a=0∧b=0↔a + b=0 :=
 ⟨fun z=>by rw [z.1,z.2]; rfl,fun z=>⟨Int.le_antisymm (z▸Int.le_add_of_nonneg_right h2) h1,Int.le_antisymm (z▸Int.le_add_of_nonneg_left h1) h2⟩⟩
section
variable {lay:Lay} {s:S3}
theorem good_lit (L:LH lay) (I:GInv lay s) {h:HG} (hh:h∈s.held):goodB lay (toS lay s) (toH lay h)=decide (litT lay s h):=by
 have hk:=I.held.kn h hh
 have hg:=Int.natCast_nonneg h.g
 have e:goodB lay (toS lay s) (toH lay h)=true↔litT lay s h:=by
  unfold goodB litT freeB setB
  rw [Bool.and_eq_true,Bool.and_eq_true,Bool.and_eq_true,decide_eq_true_eq,decide_eq_true_eq,Bool.not_eq_true',List.any_eq_false,List.all_eq_true,List.all_map,List.all_map,List.all_eq_true,List.all_eq_true,and_assoc,and_assoc,← and_assoc]
  refine and_congr (add0 (Int.le_trans hg hk.2.2.1) hk.2.2.2) (and_congr ?_ ?_)
  ·refine forall_congr' fun x=>forall_congr' fun qa=>?_
   show ¬ decide (x∈s.occ)=true↔(!decide (x∈s.occ))=true
   cases decide (x∈s.occ) <;> decide
  ·refine forall_congr' fun q=>forall_congr' fun qa=>?_
   show decide (tget s.pos q.1=some q.2)=true↔decide (q∈s.pos)=true
   rw [decide_eq_true_eq,decide_eq_true_eq,tget_mem (I.posnd L)]
 by_cases q:litT lay s h
 ·rw [decide_eq_true q]; exact e.mpr q
 ·rw [decide_eq_false q]
  cases hb:goodB lay (toS lay s) (toH lay h) with
  | false=>rfl
  | true=>exact absurd (e.mp hb) q
theorem shows_law (L:LH lay) (I:GInv lay s):(lay.sigs.map fun q=>(q.1,aspOf ((toS lay s).held.foldl (goStep (knOf lay) (tfold (toS lay s).pos []) (sof (toS lay s).occ)) []) q.1))=shows3 lay s:=by
 have J:=I.sinv L
 rw [tfold_self (J.posnd L),sof_self J.ond,go_fold (toS lay s).pos (toS lay s).occ rfl rfl (toS lay s).held [] (by simpa using J.held.sts),List.nil_append]
 have hG:((toS lay s).held.filter (goodB lay (toS lay s))).map (fun h=>((findR lay h.nm).st,findR lay h.nm))=(s.held.filter fun h=>decide (litT lay s h)).map fun h=>((findR lay h.nm).st,findR lay h.nm):=by
  show ((s.held.map (toH lay)).filter _).map _=_
  rw [List.filter_map,List.map_map]
  have:s.held.filter (goodB lay (toS lay s)∘toH lay)=s.held.filter fun h=>decide (litT lay s h):=List.filter_congr fun h hh=>good_lit L I hh
  rw [this]; rfl
 rw [hG]
 unfold shows3
 have hl:litL lay s=(s.held.filter fun h=>decide (litT lay s h)).map (litP lay):=sel_fil _
 rw [hl]
 have hnd:((s.held.filter fun h=>decide (litT lay s h)).map fun h=>(findR lay h.nm).st).Nodup:=I.held.sts.sublist (List.filter_sublist.map _)
 generalize (s.held.filter fun h=>decide (litT lay s h))=l at *
 have hn:(l.map fun h=>((findR lay h.nm).st,findR lay h.nm)).map (·.1)=l.map fun h=>(findR lay h.nm).st:=by rw [List.map_map]; rfl
 have hs:shownL (l.map (litP lay))=l.map fun h=>(findR lay h.nm).st:=by unfold shownL; rw [List.map_map]; rfl
 refine List.map_congr_left fun q qa=>?_
 congr 1
 generalize q.1=g
 have hb:g∈brightL (l.map (litP lay))↔∃ h∈l,(findR lay h.nm).st=g∧(findR lay h.nm).via∈l.map fun h=>(findR lay h.nm).st:=by
  unfold brightL
  rw [sel_fil,List.mem_map,hs]
  constructor
  ·rintro ⟨p,hp,e⟩
   obtain ⟨hp1,hp2⟩:=List.mem_filter.mp hp
   obtain ⟨h,hh,rfl⟩:=List.mem_map.mp hp1
   exact ⟨h,hh,e,of_decide_eq_true hp2⟩
  ·rintro ⟨h,hh,e,hv⟩
   exact ⟨litP lay h,List.mem_filter.mpr ⟨List.mem_map_of_mem hh,decide_eq_true hv⟩,e⟩
 unfold aspOf
 rw [hn,hs]
 have hg:goGet (l.map fun h=>((findR lay h.nm).st,findR lay h.nm)) g=(l.find? fun h=>decide ((findR lay h.nm).st=g)).map fun h=>findR lay h.nm:=by
  unfold goGet
  rw [List.find?_map,Option.map_map]; rfl
 rw [hg]
 cases hf:l.find? (fun h=>decide ((findR lay h.nm).st=g)) with
 | none =>
  have h0:∀ h∈l,¬ (findR lay h.nm).st=g:=fun h hh e=>(List.find?_eq_none.mp hf) h hh (decide_eq_true e)
  dsimp only [Option.map_none]
  rw [if_neg (fun z=>by obtain ⟨h,hh,e,_⟩:=hb.mp z; exact h0 h hh e),if_neg (fun z=>by obtain ⟨h,hh,e⟩:=List.mem_map.mp z; exact h0 h hh e)]
 | some h =>
  dsimp only [Option.map_some]
  have hm:=List.mem_of_find?_eq_some hf
  have he:(findR lay h.nm).st=g:=by have:=List.find?_some hf; simpa using this
  by_cases hv:(findR lay h.nm).via∈l.map fun h=>(findR lay h.nm).st
  ·rw [if_pos hv,if_pos (hb.mpr ⟨h,hm,he,hv⟩)]
  ·rw [if_neg hv,if_neg,if_pos (List.mem_map.mpr ⟨h,hm,he⟩)]
   intro z
   obtain ⟨h',hh',e',hv'⟩:=hb.mp z
   have:h'=h:=nodup_inj hnd hh' hm (e'.trans he.symm)
   subst this
   exact hv hv'
end
end Mine
end
noncomputable section
set_option maxRecDepth 100000
namespace Mine
open PySem PySem.Spec PyProof.Rows
noncomputable def oddR:Rt:=⟨"O","V", ["a"],[("p","+"),("p","-")],""⟩
noncomputable def layA (a b c:Str):Lay :=
 ⟨["d","b","f","e","a","c"],[("q","e"),("p","b")],[("T","c"),("S","a"),("V","b"),("U","d")],
  [⟨"A","S", ["b","c"],[("p", a)],"T"⟩,⟨"B","T", ["d"],[("q","-")],c⟩,⟨"C","U", ["e"],[("q","+"),("p", b)],"S"⟩,⟨"D","S", ["f"],[],"U"⟩,⟨"E","U", ["c","f"],[("q","+")],""⟩]⟩
noncomputable def nmsL:List Str:=["A","B","C","D","E"]
theorem conf_all:∀ a∈(["+","-"]:List Str),∀ b∈(["+","-"]:List Str),∀ c∈(["","S","U"]:List Str),confL (oddR::(layA a b c).rts)=pairsL (oddR::(layA a b c).rts):=by decide +kernel
theorem pairs_all:∀ a∈(["+","-"]:List Str),∀ b∈(["+","-"]:List Str),∀ c∈(["","S","U"]:List Str),∀ n∈nmsL,∀ m∈nmsL,n≠m→((n,m)∈pairsL (oddR::(layA a b c).rts)∨(m,n)∈pairsL (oddR::(layA a b c).rts)↔clashB (findR (layA a b c) n) (findR (layA a b c) m)=true):=by decide +kernel
theorem lh_A (a b c:Str):LH (layA a b c) where
 rnd:=by show (["A","B","C","D","E"]:List Str).Nodup; decide
 pnd:=by show (["q","p"]:List Str).Nodup; decide
 snd:=by show (["T","S","V","U"]:List Str).Nodup; decide
 ov:=fun r hr=>by
  rcases List.mem_cons.mp hr with rfl | hr
  ·show (["b","c"]:List Str).Nodup∧2≤20∧(["b","c"]:List Str)≠[]; decide
  rcases List.mem_cons.mp hr with rfl | hr
  ·show (["d"]:List Str).Nodup∧1≤20∧(["d"]:List Str)≠[]; decide
  rcases List.mem_cons.mp hr with rfl | hr
  ·show (["e"]:List Str).Nodup∧1≤20∧(["e"]:List Str)≠[]; decide
  rcases List.mem_cons.mp hr with rfl | hr
  ·show (["f"]:List Str).Nodup∧1≤20∧(["f"]:List Str)≠[]; decide
  rcases List.mem_cons.mp hr with rfl | hr
  ·show (["c","f"]:List Str).Nodup∧2≤20∧(["c","f"]:List Str)≠[]; decide
  cases hr
 ndn:=fun r hr=>by
  rcases List.mem_cons.mp hr with rfl | hr
  ·show (["p"]:List Str).Nodup∧1≤20; decide
  rcases List.mem_cons.mp hr with rfl | hr
  ·show (["q"]:List Str).Nodup∧1≤20; decide
  rcases List.mem_cons.mp hr with rfl | hr
  ·show (["q","p"]:List Str).Nodup∧2≤20; decide
  rcases List.mem_cons.mp hr with rfl | hr
  ·show ([]:List Str).Nodup∧0≤20; decide
  rcases List.mem_cons.mp hr with rfl | hr
  ·show (["q"]:List Str).Nodup∧1≤20; decide
  cases hr
 ndp:=fun r hr q hq=>by
  have hq:q.1∈r.nd.map (·.1):=List.mem_map_of_mem hq
  rcases List.mem_cons.mp hr with rfl | hr
  ·exact (by decide:∀ x∈(["p"]:List Str),x∈(["q","p"]:List Str)) _ hq
  rcases List.mem_cons.mp hr with rfl | hr
  ·exact (by decide:∀ x∈(["q"]:List Str),x∈(["q","p"]:List Str)) _ hq
  rcases List.mem_cons.mp hr with rfl | hr
  ·exact hq
  rcases List.mem_cons.mp hr with rfl | hr
  ·cases hq
  rcases List.mem_cons.mp hr with rfl | hr
  ·exact (by decide:∀ x∈(["q"]:List Str),x∈(["q","p"]:List Str)) _ hq
  cases hr
 st:=fun r hr=>by
  have hr:r.st∈(layA a b c).rts.map Rt.st:=List.mem_map_of_mem hr
  exact (by decide:∀ x∈(["S","T","U","S","U"]:List Str),x∈(["T","S","V","U"]:List Str)) _ hr
 rl:=by show 5≤20; decide
 pl:=by show 2≤20; decide
 sl:=by show 4≤20; decide
 scl:=by show 6≤20; decide
 nS:=by show ("S" : Str)∉(["q","p"]:List Str); decide
theorem rt_A (a b c:Str):∀ r∈oddR::(layA a b c).rts,RtOk r:=fun r hr=>by
 rcases List.mem_cons.mp hr with rfl | hr
 ·exact ⟨by decide,by decide⟩
 ·exact ⟨Nat.le_trans ((lh_A a b c).ov r hr).2.1 (by decide),Nat.le_trans ((lh_A a b c).ndn r hr).2 (by decide)⟩
section
variable (x y z:Int)
theorem pm_in (x:Int):pm x∈(["+","-"]:List Str):=pick_mem (by decide)
theorem lh_3:LH (lay3 x y z):=lh_A _ _ _
theorem conf_3:confL (oddR::(lay3 x y z).rts)=pairsL (oddR::(lay3 x y z).rts):=conf_all _ (pm_in x) _ (pm_in y) _ (pick_mem (by decide))
theorem pairs_3:PairsOk (lay3 x y z) (pairsL (oddR::(lay3 x y z).rts)):=pairs_all _ (pm_in x) _ (pm_in y) _ (pick_mem (by decide))
theorem ginv_0:GInv (lay3 x y z) ⟨[("q","+"),("p","+")],[],[]⟩ where
 pos:=rfl
 srt:=rfl
 ond:=List.Pairwise.nil
 osub:=fun qa h=>by cases h
 held:=⟨List.Pairwise.nil,fun qa h=>(by cases h),List.Pairwise.nil⟩
noncomputable def still:Ev→Bool
 | .move _ _=>false
 | _=>true
theorem still_ok {lay:Lay} {ev:Ev} (h:still ev=true):EvOk lay ev:=by
 cases ev with
 | move p x=>cases h
 | _=>trivial
theorem open_ok {lay:Lay} (k:Int):(pick opensL [] k).length≤5∧∀ e∈pick opensL [] k,EvOk lay e:=by
 have h:∀ l∈opensL,l.length≤5∧l.all still=true:=by
  intro l hl
  unfold opensL at hl
  repeat' (rcases List.mem_cons.mp hl with rfl | hl; · exact ⟨by decide,rfl⟩)
  cases hl
 have h1:=h _ (pick_mem (by decide):pick opensL [] k∈opensL)
 exact ⟨h1.1,fun e he=>still_ok (List.all_eq_true.mp h1.2 e he)⟩
theorem event_ok (a b:Int):EvOk (lay3 x y z) (event3 a b):=by
 unfold event3
 split; · trivial
 split; · trivial
 split; · trivial
 split; · trivial
 split
 ·exact (by decide:∀ q∈turnsL,q.1 = "S" ∨ q.1∈(["q","p"]:List Str)) _ (pick_mem (by decide))
 ·trivial
end
end Mine
end
noncomputable section
set_option maxRecDepth 100000
namespace Mine
open PySem PySem.SeqAt PyProof.Rows
noncomputable def XE (c:Cx) (P:Addr→Prop) (env:Env) (Z:Addr→Prop) (s:Shared) (v:Value) (s':Shared):Prop :=
 ∃ e args Z' s₁ σ',v=.ref e∧Step Z P (cr s) Z' (cr s₁)∧Rel c Z' P env σ' s₁.heap∧Heap.MadeExc s₁.heap s'.heap e "ValueError" args∧s'.gens=s₁.gens∧s'.os=s₁.os
theorem XE.after {c:Cx} {P Z Z₁:Addr→Prop} {env:Env} {s s₁ s':Shared} {v:Value} (S:Step Z P (cr s) Z₁ (cr s₁)) (x:XE c P env Z₁ s₁ v s'):XE c P env Z s v s' :=
 Exists.imp (fun e=>Exists.imp fun args=>Exists.imp fun Z'=>Exists.imp fun s₂=>Exists.imp fun σ'=>And.imp_right (And.imp_left S.trans)) x
structure WX (c:Cx) (A:Around) (env:Env) (σ:St) (t:Sem Flow):Prop where
 run:AOk A→∀ Z P s,Rel c Z P env σ s.heap→wpAny c.M A t (fun qa qb=>False) (XE c P env Z s) s
section
variable {c:Cx} {A:Around} {env:Env} {σ:St}
theorem xSs_cons {st:Stmt} {rest:List Stmt} (h:WS c A env σ st fun f σ'=>f=.next∧WX c A env σ' (execs rest env)):WX c A env σ (execs (st::rest) env):=by
 refine ⟨fun hA Z P s R=>?_⟩
 refine wpAny_execs_cons (wp_then h hA R fun Z₁ s₁ f' σ₁ f S₁ R₁ rf y=>?_)
 obtain ⟨z,k₁⟩:=y
 subst z
 cases rf with
 | next=>exact wpAny_mono (k₁.run hA Z₁ P _ R₁) (fun qa qb f=>f.elim) fun qa qb x=>XE.after S₁ x
theorem xSs_here {st:Stmt} {rest:List Stmt} (h:WX c A env σ (exec st env)):WX c A env σ (execs (st::rest) env):=by
 refine ⟨fun hA Z P s R=>?_⟩
 exact wpAny_execs_cons (wpAny_mono (h.run hA Z P s R) (fun qa qb x=>x.elim) fun qa qb x=>x)
theorem xS_If {t:Expr} {b o:List Stmt} {pos:Pos} (h:WT c A env σ t fun x σ₁=>if x then WX c A env σ₁ (execs b env) else WX c A env σ₁ (execs o env)):WX c A env σ (exec (.If t b o pos) env):=by
 refine ⟨fun hA Z P s R=>?_⟩
 refine wpAny_If (wp_thenB h hA R fun Z₁ s₁ x σ₁ S₁ R₁ k₁=>?_)
 cases x with
 | true=>exact wpAny_mono (WX.run k₁ hA Z₁ P _ R₁) (fun qa qb f=>f.elim) fun qa qb x=>XE.after S₁ x
 | false=>exact wpAny_mono (WX.run k₁ hA Z₁ P _ R₁) (fun qa qb f=>f.elim) fun qa qb x=>XE.after S₁ x
theorem xS_Raise {np cpos pos:Pos} {e:Expr} {es:List Expr} (hm:c.mg "ValueError" = none) (hk:env.kindOf "ValueError" = some .globalImplicit) (h:WEs c A env σ cpos (e::es) fun Xs σ₁=>Xs.length≤sizeLine)
  (hplain:(backTo cpos (starEach (e::es) env)).any (·.1)=false:=by rfl) (he:starEach (e::es) env=(false,eval e env)::starEach es env:=by rfl) :
  WX c A env σ (exec (.Raise (some (.Call (.Name "ValueError" np) (e::es) [] cpos)) none pos) env):=by
 refine ⟨fun hA Z P s R=>?_⟩
 have h1:=h.run hA Z P s R
 refine wpAny_Raise_call F.excCall_ValueError F.excRaise_ValueError hA.handled hplain ?_
 refine load_builtin R hm (v:=.type "ValueError") rfl (by decide) hk ⟨rfl,?_⟩ (by decide)
 rw [he] at h1 ⊢
 refine Calls.evalArgs_plain (wpAny_mono h1 ?_ (fun qa qb x=>False.elim x))
 refine fun vs s₁=>R34 fun Z₁ Xs σ₁ S₁ R₁ r₁ k₁=>?_
 refine ⟨rfl,?_,fun h' e M=>⟨e,_,Z₁,s₁,σ₁,rfl,S₁,R₁,M,rfl,rfl⟩⟩
 rw [← r₁.length]; exact k₁
end
noncomputable def CallRaise (c:Cx) (n:Nat) (a:Addr) (Xs:List V):Prop :=
 ∀ A Z P s vs outer (base:Heap) (E:Value→Shared→Prop),Rm n A→A.frames=some outer→Inv c Z P s.heap→RdL c Z s.heap Xs vs →
  (∀ b o,base.get? b=some o→(Z b∨P b∧¬ isT b)∧s.heap.get? b=some o)→s.heap.FunFrames base outer→(∀ L∈outer.filterMap (·.frame),P L∧¬ isT L) →
  (∀ e a0 s' base',Heap.FlyingW base' outer e (.type "ValueError") a0 s'.heap→(∀ b o,base.get? b=some o→base'.get? b=some o)→(∀ q∈tabs,IsTab base' q) →
   (∀ b o,P b→¬ isT b→s.heap.get? b=some o→(∀ vs,o.data≠.fields vs)→∃ sl,s'.heap.get? b=some { o with slots:=sl })→s'.os=s.os→GB s.gens s'.gens→E (.ref e) s') →
  wpAny c.M A (call (.ref a) vs) (fun qa qb=>False) E s
theorem funFrames_keep {h h' base base':Heap} {W:Addr→Prop} (hk:∀ b o,W b→h.get? b=some o→h'.get? b=some o) (hb:∀ b,W b→base.get? b=none→base'.get? b=none):∀ {l:List Env},h.FunFrames base l→(∀ L∈l.filterMap (·.frame),W L)→h'.FunFrames base' l
 | [],_,_=>trivial
 | env::l,⟨h1,⟨L,o,h2,h3,h4,h5⟩,h6⟩,hp=>by
  have hpl:∀ L'∈l.filterMap (·.frame),W L':=fun L' hL'=>hp L' (by rw [List.filterMap_cons,h2]; exact .tail _ hL')
  have hw:=hp L (by rw [List.filterMap_cons,h2]; exact .head _)
  exact (I03 h1 (I24 L o h2 (hb L hw h3) (hk L o hw h4) h5) (funFrames_keep hk hb h6 hpl))
noncomputable def hfilter (p:Addr→Prop) (h:Heap):Heap:={ h with objs:=h.objs.mapIdx fun i o=>@ite _ (p i) (Classical.propDecidable _) o { o with data:=.freed } }
theorem hfilter_some {p:Addr→Prop} {h:Heap} {b:Addr} {o:Obj} (e:(hfilter p h).get? b=some o):p b∧h.get? b=some o:=by
 obtain ⟨e1,e2⟩:=Heap.get?_some_iff.mp e
 unfold hfilter at e1
 simp only [Array.getElem?_mapIdx] at e1
 cases hq:h.objs[b]? with
 | none=>rw [hq] at e1; cases e1
 | some o' =>
  rw [hq] at e1
  simp only [Option.map_some,Option.some.injEq] at e1
  by_cases hp:p b
  ·rw [if_pos hp] at e1
   subst e1
   exact ⟨hp,Heap.get?_some_iff.mpr ⟨hq,e2⟩⟩
  ·rw [if_neg hp] at e1
   subst e1
   cases e2
theorem hfilter_in {p:Addr→Prop} {h:Heap} {b:Addr} {o:Obj} (hp:p b) (e:h.get? b=some o):(hfilter p h).get? b=some o:=by
 obtain ⟨e1,e2⟩:=Heap.get?_some_iff.mp e
 refine Heap.get?_some_iff.mpr ⟨?_,e2⟩
 unfold hfilter
 simp only [Array.getElem?_mapIdx]
 rw [e1]
 simp only [Option.map_some,Option.some.injEq]
 rw [if_pos hp]
theorem hfilter_none {p:Addr→Prop} {h:Heap} {b:Addr} (hp:¬ p b):(hfilter p h).get? b=none:=by
 cases e:(hfilter p h).get? b with
 | none=>rfl
 | some o=>exact absurd (hfilter_some e).1 hp
theorem hpr_nil {c:Cx} {Z P:Addr→Prop} {h:Heap}:HpR c Z P h []:=⟨fun b ob hb=>(by cases hb),List.Pairwise.nil⟩
theorem call_introX {c:Cx} {fd:FuncData} {a:Addr} {n:Nat} {ps:List Str} {Xs:List V} {body:List Stmt} (F:FnAt c a fd) (D:DefOk fd ps body) (hlen:Xs.length=ps.length)
  (h:∀ A L,Rm n A→WX c A (callEnvC fd L a) ⟨ps.zip Xs,[]⟩ (execs body (callEnvC fd L a))):CallRaise c (n + 1) a Xs:=by
 intro A Z P s vs outer base E hR hfr I hX hb hFF hPL hE
 refine E12 F.obj fun o ho hd=>?_
 have hl:vs.length=ps.length:=by rw [← hX.length]; exact hlen
 have hdep:=hR.depth
 refine wpAny_call (codeAny_call_cells (Nat.lt_of_le_of_lt (Nat.le_trans (Nat.le_add_right _ 5) (Nat.le_add_right _ _)) hdep) (I.ground a o ho).2 hd (I.top.nolimit.keeps fun b o e=>(I.ground b o e).2) (F.code.keeps fun b o e=>(I.ground b o e).2) D.body (D.bind vs hl) D.clo (kinds_call D hl) ?_ D.co D.gen D.fn)
 intro s₁ x
 have R:=rel_call D hl I hpr_nil hX x
 refine E21 x.toInCall.same fun h₁ tk₁ z2=>?_; subst z2
 have hkp:Kp s.heap h₁:=x.toInCall.keep
 have hL:s.heap.get? s.heap.objs.size=none:=fresh_none _ _ (Nat.le_refl _)
 refine wpAny_mono ((h _ _ (hR.deeper _)).run (hR.deeper _).ok Z P _ R) (fun qa qb x=>x.elim) ?_
 intro v s₃ hx
 obtain ⟨e,args,Z',s₂,σ',z8,S₁,R',M,hg,hos⟩:=hx
 subst z8
 have S₀:Step Z P (cr s) Z' (cr s₂):=(Step.kp hkp).trans S₁
 let W:Addr→Prop:=fun b=>(∃ o,base.get? b=some o)∨∃ q∈tabs,b=q.1∨b=q.2
 have hbase:∀ b o,base.get? b=some o→(hfilter W s₂.heap).get? b=some o:=fun b o hbo=>by
  obtain ⟨zp,hs⟩:=hb b o hbo
  refine hfilter_in (.inl ⟨o,hbo⟩) ?_
  rcases zp with z | p
  ·exact S₀.keepZ b o z hs
  ·exact S₀.keepP b o p.1 p.2 hs
 have htab:∀ q∈tabs,IsTab (hfilter W s₂.heap) q:=fun q hq=>(R'.inv.tab q hq).2.at (fun o e=>hfilter_in (.inr ⟨q,hq,.inl rfl⟩) e) fun o e=>hfilter_in (.inr ⟨q,hq,.inr rfl⟩) e
 have hLb:(hfilter W s₂.heap).get? s.heap.objs.size=none:=hfilter_none fun w=>by
  rcases w with ⟨o',hq⟩ | ⟨q,hq,w | w⟩
  ·have:=(hb _ o' hq).2; rw [hL] at this; cases this
  ·obtain ⟨o',e'⟩:=I.exZ _ (I.tab q hq).1
   rw [← w,hL] at e'; cases e'
  ·exact I.nT0 hL ⟨q,hq,w.symm⟩
 obtain ⟨m,hns⟩:=R'.ns
 have hff:s₂.heap.FunFrames (hfilter W s₂.heap) (callEnvC fd s.heap.objs.size a::outer) :=
  Heap.FunFrames.cons (by show fd.scope.kind≠.module; rw [D.fn]; decide) rfl hns hLb (funFrames_keep (W:=fun b=>P b∧¬ isT b) (fun b o p e=>S₀.keepP b o p.1 p.2 e) (fun b p e=>hfilter_none fun w=>by
   rcases w with ⟨o',hq⟩ | ⟨q,hq,w | w⟩
   ·rw [e] at hq; cases hq
   ·exact I.off _ (I.tab q hq).1 (w▸p.1)
   ·exact p.2 ⟨q,hq,w.symm⟩) hFF hPL)
 refine wpAny_leaves_madeW (base:=hfilter W s₂.heap) (h:=s₂.heap) (cls:=.type "ValueError") (args:=args) (Around.frames_deeper hfr) rfl (fun b o e=>(hfilter_some e).2) hff ⟨M.keeps,M.new,M.there⟩ fun h' t hfl qa qb hus=>?_
 refine hE e _ { s₃ with heap:=h' } _ hfl hbase htab (fun b o p nt e hnf=>hus b o (M.keeps b o (S₀.keepP b o p nt e)) hnf) ?_ ?_
 ·show s₃.os=s.os
  rw [hos]; exact S₀.os
 ·show GB s.gens s₃.gens
  rw [hg]; exact S₀.gens
theorem call_defX {c:Cx} {a:Addr} {D:DefD} {n:Nat} {ps:List Str} {Xs:List V} {body:List Stmt} (F:IsFn c a D) (K:DefK D ps body) (hlen:Xs.length=ps.length)
  (h:∀ A qual code L,Rm n A→WX c A (envD D qual code L a) ⟨ps.zip Xs,[]⟩ (execs body (envD D qual code L a))):CallRaise c (n + 1) a Xs:=by
 refine E51 F fun nm qual pm code doc M=>?_; clear F
 refine call_introX (ps:=ps) (body:=body) M.fn ⟨?_,rfl,rfl,rfl,K.fn,K.co,K.gen,K.bind nm qual pm code doc,K.nodup,K.kinds,K.noFree⟩ hlen fun A L hR=>?_
 ·show FuncBody.stmts D.body=_
  rw [K.body]
 ·exact h A qual code L hR
theorem Rel.slots {c:Cx} {Z P:Addr→Prop} {env:Env} {σ:St} {h h':Heap} (R:Rel c Z P env σ h) (hk:∀ b o,(Z b∨P b∨OwnA env b∨∃ o,(b,o)∈σ.hp)→b≠env.locals→¬ isT b→h.get? b=some o→h'.get? b=some o)
  (hT:∀ q∈tabs,IsTab h' q) (hL:∀ o,h.get? env.locals=some o→∃ sl,h'.get? env.locals=some { o with slots:=sl }):Rel c Z P env σ h':=by
 have hLZ:∀ b,Z b→b≠env.locals:=fun b z e=>(R.own env.locals (.inl rfl)).1 (e▸z)
 have hLP:∀ b,P b→b≠env.locals:=fun b p e=>(R.own env.locals (.inl rfl)).2 (e▸p)
 have hZ:∀ b o,Z b→h.get? b=some o→h'.get? b=some o:=fun b o z=>hk b o (.inl z) (hLZ b z) (R.inv.nT (R.inv.off b z))
 have hP:∀ b o,P b→¬ isT b→h.get? b=some o→h'.get? b=some o:=fun b o p nt=>hk b o (.inr (.inl p)) (hLP b p) nt
 have hO:∀ b o,OwnA env b→b≠env.locals→h.get? b=some o→h'.get? b=some o:=fun b o w nl=>hk b o (.inr (.inr (.inl w))) nl (R.inv.nT (R.own b w).2)
 have hns:∀ m,h.Ns env.locals m→h'.Ns env.locals m:=by
  refine fun m=>R32 fun o es ep ho q=>?_
  obtain ⟨sl,e⟩:=hL o ho
  exact (I32 ({ o with slots:=sl }) es ep e q)
 exact {
  inv:=⟨fun b o e=>⟨(R.inv.ground b o e).1,hZ b o (R.inv.ground b o e).1 (R.inv.ground b o e).2⟩,fun b z=>let ⟨o,e⟩:=R.inv.exZ b z; ⟨o,hZ b o z e⟩,fun b p=>by
    by_cases ht:isT b
    ·obtain ⟨q,hq,rfl⟩:=ht
     exact let ⟨ps,x⟩:=(hT q hq).obj; ⟨_,x⟩
    ·exact let ⟨o,e⟩:=R.inv.exP b p; ⟨o,hP b o p ht e⟩,R.inv.off,R.inv.sys,R.inv.top,R.inv.tp,fun q hq=>⟨(R.inv.tab q hq).1,hT q hq⟩⟩
  fn:=R.fn
  gl:=R.gl
  bl:=R.bl
  ns:=let ⟨m,hm⟩:=R.ns; ⟨m,hns m hm⟩
  cells:=fun x hx=>let ⟨cl,v,h1,⟨o,ho,q⟩⟩:=R.cells x hx; (I22 cl v h1 (I12 o (hO cl o (.inr (I12 x hx h1)) (R.cellL x cl hx h1) ho) q))
  inj:=R.inj
  cellL:=R.cellL
  freeP:=R.freeP
  own:=R.own
  vars:=fun x X e=>by
   refine E12 (R.vars x X e) fun u hu ru=>?_
   refine (I12 u ?_ (ru.keep (fun qa z=>z) hZ))
   rcases hu with ⟨k1,m,hm,hm1⟩ | ⟨k1,cl,h1,⟨o,ho,q⟩⟩
   ·exact .inl (I02 k1 (I12 m (hns m hm) hm1))
   ·refine .inr (I02 k1 (I12 cl h1 (I12 o ?_ q)))
    rcases k1 with k1 | k1
    ·exact hO cl o (.inr (I12 x k1 h1)) (R.cellL x cl k1 h1) ho
    ·exact hP cl o (R.freeP x cl k1 h1) (R.inv.nTc ⟨o,ho,q⟩) ho
  hp:=⟨fun b o hb=>by
   have hr:=R.hp.obj b o hb
   refine ⟨hr.1.keep (fun qa z=>z) hZ (fun o' e=>hk b o' (.inr (.inr (.inr ⟨o,hb⟩))) (fun q=>R.hpOff b o hb (.inl q)) (R.inv.nT hr.2.2) e),hr.2⟩,R.hp.nodup⟩
  hpOff:=R.hpOff }
theorem call_top {c:Cx} {fd:FuncData} {a:Addr} {n:Nat} {ps:List Str} {Xs:List V} {post:V→Prop} {body:List Stmt} {A:Around} {Z P:Addr→Prop} {s:Shared} {vs:List Value} {Q:Value→Shared→Prop} (F:FnAt c a fd) (D:DefOk fd ps body) (hlen:Xs.length=ps.length)
  (hR:Rm (n + 1) A) (I:Inv c Z P s.heap) (hX:RdL c Z s.heap Xs vs)
  (h:∀ L,WSs c (A.deeper (callEnvC fd L a)) (callEnvC fd L a) ⟨ps.zip Xs,[]⟩ body fun f qa=>post (retV f))
  (hQ:∀ v X Z' s',Step Z P (cr s) Z' (cr s')→Rd c Z' s'.heap X v→post X→Q v s'):wpAny c.M A (call (.ref a) vs) Q (fun qa qb=>False) s:=by
 refine E12 F.obj fun o ho hd=>?_
 have hl:vs.length=ps.length:=by rw [← hX.length]; exact hlen
 have hdep:=hR.depth
 refine wpAny_call (codeAny_call_cells (Nat.lt_of_le_of_lt (Nat.le_trans (Nat.le_add_right _ 5) (Nat.le_add_right _ _)) hdep) (I.ground a o ho).2 hd (I.top.nolimit.keeps fun b o e=>(I.ground b o e).2) (F.code.keeps fun b o e=>(I.ground b o e).2) D.body (D.bind vs hl) D.clo (kinds_call D hl) ?_ D.co D.gen D.fn)
 intro s₁ x
 have R:=rel_call D hl I hpr_nil hX x
 refine E21 x.toInCall.same fun h₁ tk₁ z2=>?_; subst z2
 have hkp:Kp s.heap h₁:=x.toInCall.keep
 refine wpAny_mono ((h _).run (hR.deeper _).ok Z P _ R) ?_ fun qa qb x=>x.elim
 refine fun f s₂=>R34 fun Z₁ fv σ₁ S₁ R₁ rf k₁=>?_
 have S₀:Step Z P (cr s) Z₁ (cr s₂):=(Step.kp hkp).trans S₁
 cases rf with
 | ret r=>exact hQ _ _ Z₁ s₂ S₀ r k₁
 | next=>exact hQ _ _ Z₁ s₂ S₀ .none k₁
 | brk=>exact hQ _ _ Z₁ s₂ S₀ .none k₁
 | cont=>exact hQ _ _ Z₁ s₂ S₀ .none k₁
theorem call_topD {c:Cx} {a:Addr} {D:DefD} {n:Nat} {ps:List Str} {Xs:List V} {post:V→Prop} {body:List Stmt} {A:Around} {Z P:Addr→Prop} {s:Shared} {vs:List Value} {Q:Value→Shared→Prop} (F:IsFn c a D) (K:DefK D ps body) (hlen:Xs.length=ps.length)
  (hR:Rm (n + 1) A) (I:Inv c Z P s.heap) (hX:RdL c Z s.heap Xs vs)
  (h:∀ qual code L,WSs c (A.deeper (envD D qual code L a)) (envD D qual code L a) ⟨ps.zip Xs,[]⟩ body fun f qa=>post (retV f))
  (hQ:∀ v X Z' s',Step Z P (cr s) Z' (cr s')→Rd c Z' s'.heap X v→post X→Q v s'):wpAny c.M A (call (.ref a) vs) Q (fun qa qb=>False) s:=by
 refine E51 F fun nm qual pm code doc M=>?_; clear F
 refine call_top (ps:=ps) (body:=body) M.fn ⟨?_,rfl,rfl,rfl,K.fn,K.co,K.gen,K.bind nm qual pm code doc,K.nodup,K.kinds,K.noFree⟩ hlen hR I hX (fun L=>?_) hQ
 ·show FuncBody.stmts D.body=_
  rw [K.body]
 ·exact h qual code L
end Mine
end
noncomputable section
set_option maxRecDepth 100000
namespace Mine
open PySem PySem.SeqAt PyProof.Rows
theorem ve_exc:isSubtype (.type "ValueError") (.type "BaseException")=pure true:=F.excRaise_ValueError.isExc
theorem ve_meta:isSubtype (.type ((Manifest.find? "ValueError").elim "type" fun x=>x.metatype)) (.type "tuple")=pure false:=by kernel_rfl
theorem ve_self:isSubtype (.type "ValueError") (.type "ValueError")=pure true:=by kernel_rfl
section
variable {c:Cx} {A:Around} {env:Env} {σ:St}
theorem exec_flag {A':Around} {x:Str} {b:Bool} {nn:Nat} {xpos bpos apos:Pos} {Z P:Addr→Prop} {s:Shared} {Q:Flow→Shared→Prop} {E:Value→Shared→Prop} (R:Rel c Z P env σ s.heap) (hk:env.kindOf x=some .local∨env.kindOf x=some .cell)
  (hs:swapsWith (.Constant (.bool b) nn bpos) (some (.Name x xpos)) apos.line env=pure false) (hsw:swappedStores [.Name x xpos] (.Constant (.bool b) nn bpos) env=pure none) (hte:(assignEach [.Name x xpos] env).map (·.2)=[assign (.Name x xpos) env])
  (h:∀ h' tk,Step Z P (cr s) Z (cr { s with heap:=h' })→Rel c Z P env (σ.set x (.bool b)) h'→Q .next { s with heap:=h',toks:=tk }):wpAny c.M A' (execs [.Assign [.Name x xpos] (.Constant (.bool b) nn bpos) apos] env) Q E s:=by
 refine wpAny_execs_cons ?_
 rw [exec_Assign1 _ _ _ hs hsw hte]
 refine wpAny_bind (wpAny_standAt (wpAny_bind ?_))
 rw [arm_eval_Constant]
 refine wpAny_pure ?_
 refine wpAny_bind (wpAny_assign_Name (store_var R hk (.bool b) fun h' tk S R'=>?_))
 exact wpAny_pure (wpAny_execs_nil (h h' tk S R'))
theorem wS_TryRaise {f x:Str} {fpos cpos epos npos xpos bpos apos hpos pos:Pos} {e:Expr} {es:List Expr} {a:Addr} {fd:FuncData} {b:Bool} {nn:Nat} {k:FV→St→Prop} (hfr:A.frames=some [env]) (hfL:env.frame=some env.locals)
  (hf:c.mg f=some (.ref a)) (F:FnAt c a fd) (hk:env.kindOf f=some .globalImplicit) (hm:c.mg "ValueError" = none) (hkv:env.kindOf "ValueError" = some .globalImplicit) (hkx:env.kindOf x=some .local∨env.kindOf x=some .cell)
  (h:WEs c A env σ cpos (e::es) fun Xs σ₁=>∃ n,Rm n A∧CallRaise c n a Xs∧k .next (σ₁.set x (.bool b)))
  (hd:(f == ("__debug__" : Str))=false:=by decide) (he:starEach (e::es) env=(false,eval e env)::starEach es env:=by rfl)
  (hsx:swapsWith (.Call (.Name f fpos) (e::es) [] cpos) none epos.line env=pure false:=by rfl)
  (hs:swapsWith (.Constant (.bool b) nn bpos) (some (.Name x xpos)) apos.line env=pure false:=by rfl) (hsw:swappedStores [.Name x xpos] (.Constant (.bool b) nn bpos) env=pure none:=by rfl) (hte:(assignEach [.Name x xpos] env).map (·.2)=[assign (.Name x xpos) env]:=by rfl) :
  WS c A env σ (.Try [.Expr (.Call (.Name f fpos) (e::es) [] cpos) epos] [.ExceptHandler (some (.Name "ValueError" npos)) none [.Assign [.Name x xpos] (.Constant (.bool b) nn bpos) apos] hpos] [] [] pos) k:=by
 refine WP.mk fun hA Z P s R=>?_
 refine E12 F.obj fun o ho hdt=>?_
 refine wpAny_Try_except (wpAny_execs_cons ?_)
 have hi:interactive env=false:=by unfold interactive; rw [R.fn]; rfl
 refine wpAny_Expr_any ?_ hi hsx
 show wpAny _ _ (do callWith cpos (← eval (.Name f fpos) env) [] (backTo cpos (starEach (e::es) env)) (backToKw cpos (keywordEach [] env))) _ _ s
 refine wpAny_bind (load_global R hf hk ?_ hd)
 have h':=h.run hA Z P s R
 unfold WEs at h
 rw [he] at h' ⊢
 refine Calls.callWith_function (o:=o) (fd:=fd) (Calls.evalArgs_plain (wpAny_mono h' ?_ fun qa qb x=>False.elim x))
 refine fun vs s₁=>R34 fun Z₁ Xs σ₁ S₁ R₁ r₁ y0=>E13 y0 fun n hR hC k₁=>?_
 refine ⟨⟨(R₁.inv.ground a o ho).2,hdt⟩,?_⟩
 have exN:∀ b,(OwnA env b∨∃ o,(b,o)∈σ₁.hp)→∃ o,s₁.heap.get? b=some o:=by
  rintro b (hb | ⟨o,hb⟩)
  ·exact R₁.exOwn hb
  ·exact (R₁.hp.obj b o hb).1.some
 have nTN:∀ b,(OwnA env b∨∃ o,(b,o)∈σ₁.hp)→¬ isT b:=by
  rintro b (hb | ⟨o,hb⟩)
  ·exact R₁.inv.nT (R₁.own b hb).2
  ·exact R₁.inv.nT (R₁.hp.obj b o hb).2.2
 have I:Inv c Z₁ (fun b=>P b∨OwnA env b∨∃ o,(b,o)∈σ₁.hp) s₁.heap:=⟨R₁.inv.ground,R₁.inv.exZ,fun b p=>p.elim (R₁.inv.exP b) (exN b),fun b z p=>p.elim (R₁.inv.off b z) fun n=>by
  rcases n with hb | ⟨o,hb⟩
  ·exact (R₁.own b hb).1 z
  ·exact (R₁.hp.obj b o hb).2.1 z,R₁.inv.sys,R₁.inv.top,fun q hq=>.inl (R₁.inv.tp q hq),R₁.inv.tab⟩
 let base:Heap:=hfilter (fun b=>(Z₁ b∨P b∨OwnA env b∨∃ o,(b,o)∈σ₁.hp)∧b≠env.locals∧¬ isT b) s₁.heap
 have hbL:base.get? env.locals=none:=hfilter_none fun q=>q.2.1 rfl
 have hmod:env.scope.kind≠.module:=by rw [R.fn]; decide
 obtain ⟨m,hns⟩:=R₁.ns
 have hff:s₁.heap.FunFrames base [env]:=Heap.FunFrames.cons hmod hfL hns hbL trivial
 refine wpAny_mono (hC A Z₁ _ s₁ vs [env] base _ hR hfr I r₁ (fun b o hb=>let q:=hfilter_some hb; ⟨q.1.1.imp id fun p=>⟨p,q.1.2.2⟩,q.2⟩) hff (fun L hL=>?_) fun ex a0 s₂ base' hfl hbb htb hP hos hge=>?_) (fun qa qb x=>False.elim x) fun qa qb x=>x
 ·rw [List.filterMap_cons,hfL] at hL
  rcases List.mem_cons.mp hL with rfl | hL
  ·exact ⟨.inr (.inl (.inl rfl)),nTN _ (.inl (.inl rfl))⟩
  ·cases hL
 refine wpAny_looks_onW hfr hfL hfl fun h₃ hh₃ hu₃=>?_
 refine wpAny_landsW hh₃ fun h₄ hf₄ hu₄=>?_
 have tabAt:∀ h,base'.StaysIn h→∀ q∈tabs,IsTab h q:=fun h hs q hq=>(htb q hq).at (fun o e=>hs _ o e) fun o e=>hs _ o e
 have hLs:∀ o,s₁.heap.get? env.locals=some o→∃ sl,h₄.get? env.locals=some { o with slots:=sl }:=by
  intro o ho1
  refine E33 hns fun o' es' ep' ho' hd' qa=>?_; clear hns
  rw [ho1] at ho'; cases ho'
  have hnf:∀ vs,o.data≠.fields vs:=fun vs q=>by rw [hd'] at q; cases q
  obtain ⟨sl2,e2⟩:=hP env.locals o (.inr (.inl (.inl rfl))) (nTN _ (.inl (.inl rfl))) ho1 hnf
  obtain ⟨sl3,e3⟩:=hu₃ env.locals { o with slots:=sl2 } e2 hnf
  obtain ⟨sl4,e4⟩:=hu₄ env.locals { o with slots:=sl3 } e3 hnf
  exact ⟨sl4,e4⟩
 have R₄:Rel c Z₁ P env σ₁ h₄:=R₁.slots (fun b o zb hne nt hbo=>hf₄.1 b o (hbb b o (hfilter_in ⟨zb,hne,nt⟩ hbo))) (tabAt h₄ hf₄.1) hLs
 refine E12 hf₄.there fun ob hob hcls=>?_
 refine wpAny_handleBy_builtin (X:="ValueError") (T:="ValueError") (b:=true) ve_exc ve_meta ve_self ?_
 refine load_builtin (s:={ s₂ with heap:=h₄ }) R₄ hm (v:=.type "ValueError") rfl (by decide) hkv (I03 rfl (I12 ob hob hcls) ?_) (by decide)
 rw [if_pos rfl]
 refine wpAny_setFlight_noneW (base:=base') (l:=[env]) hf₄.1 hf₄.2.2.1 hf₄.2.2.2.at fun h₅ k1 qa qb k4=>?_
 have R₅:Rel c Z₁ P env σ₁ h₅:=R₁.slots (fun b o zb hne nt hbo=>k1 b o (hbb b o (hfilter_in ⟨zb,hne,nt⟩ hbo))) (tabAt h₅ k1) fun o ho1=>by
  obtain ⟨sl,e4⟩:=hLs o ho1
  refine E33 hns fun o' es' ep' ho' hd' qa=>?_; clear hns
  rw [ho1] at ho'; cases ho'
  exact ⟨sl,k4 _ _ e4 fun vs q=>by
   have q:o.data=.fields vs:=q
   rw [hd'] at q; cases q⟩
 refine exec_flag (s:={ s₂ with heap:=h₅ }) R₅ hkx hs hsw hte fun h₆ tk₆ S₆ R₆=>?_
 have S₅:Step Z₁ P (cr s₁) Z₁ (cr { s₂ with heap:=h₅ }):=⟨fun qa z=>z,fun b o z e=>k1 b o (hbb b o (hfilter_in ⟨.inl z,fun q=>(R₁.own env.locals (.inl rfl)).1 (q▸z),R₁.inv.nT (R₁.inv.off b z)⟩ e)),fun b o p nt e=>k1 b o (hbb b o (hfilter_in ⟨.inr (.inl p),fun q=>(R₁.own env.locals (.inl rfl)).2 (q▸p),nt⟩ e)),fun q hq qa=>tabAt h₅ k1 q hq,hos,hge⟩
 exact fin_mk (S₁.trans (S₅.trans S₆)) R₆ .next k₁
end
end Mine
end
noncomputable section
set_option maxRecDepth 100000
set_option maxHeartbeats 1000000
namespace Mine
open PySem PySem.SeqAt PyProof.Rows
theorem spec_halt {c:Cx} {n:Nat} {lay:Lay} {K:Kn} {st:Sta} {r:Str} (G:Core c) {a:Addr} (F:IsFn c a D_act) (LO:LayOk lay K) (SO:StaOk lay K st) (bv:c.mg "ValueError" = none):CallRaise c (n + 4) a [lay.v,st.v,.tup [.str "halt", .str r]]:=by
 refine call_defX F k_act rfl fun A qual code L hR=>?_
 conv in D_act.body=>whnf
 have hl:sizeLine > 1000:=by decide
 have hb:scanBound > 1000:=by decide
 refine E51 (id G.F_init) fun qa qb qc qd qe MI=>?_
 refine xSs_cons (wS_Assign (wE_New G.K G.g_M G.m_init MI rfl (wEs_cons (wE_Name rfl (wEs_cons (wE_Name rfl (wEs_nil (I22 (n + 2) _ hR (fun x d hx hd hdx=>⟨spec_init (n:=n + 1) G (lay:=lay) (st:=st) SO.names LO.rts (by have:=SO.posl; omega) (by have:=SO.occl; omega) (by have:=SO.heldl; omega) SO.left,?_⟩)))))))))
 refine fun Y H'=>R02 fun z0 y0=>E24 y0 fun ad rows z3 z4 hrows z6=>?_; subst z0; subst z3; subst z4; subst z6
 refine ⟨rfl,?_⟩
 rw [List.append_nil]
 refine wA_Name (.inl rfl) ⟨rfl,?_⟩
 refine xSs_cons (wS_Assign (wE_Sub (wE_Name rfl (wE_int (I12 _ (item_tup (by decide) (by decide) rfl) (wA_Name (.inl rfl) ⟨rfl,?_⟩))))))
 refine xSs_here (xS_If (wT_Compare (wE_Name rfl (wE_str (I12 _ cmp_eq_str ?_)))))
 rw [if_neg (by decide)]
 refine xSs_here (xS_If (wT_Compare (wE_Name rfl (wE_str (I12 _ cmp_eq_str ?_)))))
 rw [if_neg (by decide)]
 refine xSs_here (xS_If (wT_Compare (wE_Name rfl (wE_str (I12 _ cmp_eq_str ?_)))))
 rw [if_neg (by decide)]
 refine xSs_here (xS_If (wT_Compare (wE_Name rfl (wE_str (I12 _ cmp_eq_str ?_)))))
 rw [if_neg (by decide)]
 refine xSs_here (xS_If (wT_Compare (wE_Name rfl (wE_str (I12 _ cmp_eq_str ?_)))))
 rw [if_neg (by decide)]
 refine xSs_here (xS_If (wT_Compare (wE_Name rfl (wE_str (I12 _ cmp_eq_str ?_)))))
 rw [if_neg (by decide)]
 exact xSs_here (xS_Raise bv rfl (wEs_cons (wE_Name rfl (wEs_nil sz1))))
end Mine
end
noncomputable section
set_option maxRecDepth 100000
set_option maxHeartbeats 2000000
namespace Mine
open PySem PySem.SeqAt PyProof.Rows
theorem k_law:DefK D_law ["script"] D_law.body:=mkK rfl (by
 intro nm qual pm code doc vs h
 obtain ⟨x,rfl⟩:=list1 h; rfl)
noncomputable def tyHeld:Ty:=.tup [.str,.lst .str,.int,.int]
noncomputable def tySta:Ty:=.tup [tyPrs,.lst .str,.lst tyHeld]
noncomputable def tyLay:Ty:=.tup [.lst .str,tyPrs,tyPrs,.lst tyRt]
theorem ht_held (h:Held):HT tyHeld h.v:=.tup (.cons (.str _) (.cons (ht_strsL _) (.cons (.int _) (.cons (.int _) .nil))))
theorem ht_sta (s:Sta):HT tySta s.v:=.tup (.cons (ht_prsL _) (.cons (ht_strsL _) (.cons (.lst fun y hy=>by refine E12 (List.mem_map.mp hy) fun h qa z2=>?_; subst z2; exact ht_held h) .nil)))
theorem ht_lay (l:Lay):HT tyLay l.v:=.tup (.cons (ht_strsL _) (.cons (ht_prsL _) (.cons (ht_prsL _) (.cons (.lst fun y hy=>by refine E12 (List.mem_map.mp hy) fun r qa z2=>?_; subst z2; exact ht_rt r) .nil))))
section
variable {c:Cx} {A:Around} {hp:List (Addr×O)}
theorem cmp_isnot_typ {m:String}:CmpV c A hp .IsNot (.typ m) (.typ m) false:=by
 intro hA Z P s x y _ rX rY Q E h
 refine Rd.typ_elim rX ?_
 refine Rd.typ_elim rY ?_
 exact wpAny_isNot_self (by rfl) (h s.toks)
theorem ne_sta {s:Sta}:CmpV c A hp .NotEq s.v s.v false:=cmp_ne (T:=tySta) (b:=true) (ht_sta s) (ht_sta s) (by simp)
theorem ne_got {s:Sta} {t:Str}:CmpV c A hp .NotEq (.tup [s.v,.str t]) (.tup [s.v,.str t]) false:=cmp_ne (T:=.tup [tySta,.str]) (b:=true) (.tup (.cons (ht_sta s) (.cons (.str _) .nil))) (.tup (.cons (ht_sta s) (.cons (.str _) .nil))) (by simp)
theorem ne_lay {l:Lay}:CmpV c A hp .NotEq l.v l.v false:=cmp_ne (T:=tyLay) (b:=true) (ht_lay l) (ht_lay l) (by simp)
theorem ne_prs {l:List (Str×Str)}:CmpV c A hp .NotEq (.lst (prs l)) (.lst (prs l)) false:=cmp_ne (T:=tyPrs) (b:=true) (ht_prsL l) (ht_prsL l) (by simp)
end
theorem CallSpec.imp {c:Cx} {n:Nat} {a:Addr} {H:List (Addr×O)} {Xs:List V} {post post':V→List (Addr×O)→Prop} (h:CallSpec c n a H Xs post) (hp:∀ X H',post X H'→post' X H'):CallSpec c n a H Xs post' :=
 fun A Z P s vs Q hR I hh rx hQ=>h A Z P s vs Q hR I hh rx fun v X Z' s' H' S I' hh' r q=>hQ v X Z' s' H' S I' hh' r (hp X H' q)
theorem sCall {c:Cx} {A:Around} {env:Env} {ς:List (Str×V)} {η:List (Addr×O)} {p fp pos spos:Pos} {n:Nat} {Xs:List V} {e:Expr} {es:List Expr} {x f:Str} {a:Addr} {D:DefD} {rest:List Stmt} {k:FV→St→Prop} {post:V→Prop} (hk:env.kindOf x=some .local∨env.kindOf x=some .cell)
  (hf:c.mg f=some (.ref a)) (F:IsFn c a D) (hkf:env.kindOf f=some .globalImplicit) (hes:EVs c A env ⟨ς,η⟩ pos (e::es) Xs) (hR:Rm n A) (hp:CallSpec c n a [] Xs fun X H'=>H'=[]∧post X) (hr:∀ X,post X→WSs c A env ⟨setL ς x X,η⟩ rest k)
  (hd:(f == ("__debug__" : Str))=false:=by decide) (he:starEach (e::es) env=(false,eval e env)::starEach es env:=by rfl)
  (hs:swapsWith (.Call (.Name f fp) (e::es) [] pos) (some (.Name x p)) spos.line env=pure false:=by rfl) (hsw:swappedStores [.Name x p] (.Call (.Name f fp) (e::es) [] pos) env=pure none:=by rfl) (hte:(assignEach [.Name x p] env).map (·.2)=[assign (.Name x p) env]:=by rfl) :
  WSs c A env ⟨ς,η⟩ (.Assign [.Name x p] (.Call (.Name f fp) (e::es) [] pos) spos::rest) k :=
 wSs_Set hk (wE_CallD hf F hkf (hes.run _ (I44 n [] η _ hR (List.Perm.refl _) hp fun X H'=>R02 fun z0 q=>by subst z0; exact hr X q)) hd he) hs hsw hte
noncomputable def locL (ys:List V) (lay:Lay) (pairs:List (Str×Str)) (s:S3):List (Str×V) :=
 [("script", .lst ys),("lay", lay.v),("same", lay.v),("pairs", .lst (prs pairs)),("pos", .lst (prs s.pos)),("occ", .lst (s.occ.map .str)),("held", .lst (s.held.map HG.v)),("state", (toS lay s).v)]
theorem spec_law {c:Cx} {A:Around} (G:Core c) (GL:LCore c) {a:Addr} (F:IsFn c a D_law) (hR:Rm 8 A) (hfr:A.frames=some []) {xs:List Int} (hxl:xs.length≤63) {Z P:Addr→Prop} {s:Shared} {vs:List Value} {Q:Value→Shared→Prop}
  (I:Inv c Z P s.heap) (hX:RdL c Z s.heap [.lst (xs.map .int)] vs) (hQ:∀ v Z' s',Step Z P (cr s) Z' (cr s')→Rd c Z' s'.heap (.bool true) v→Q v s'):wpAny c.M A (call (.ref a) vs) Q (fun qa qb=>False) s:=by
 refine call_topD (n:=7) (post:=fun X=>X=.bool true) F k_law rfl hR I hX (fun qual code L=>?_) fun v X Z' s' S r e=>hQ v Z' s' S (e▸r)
 have hR':=hR.deeper (envD D_law qual code L a)
 have hfr':(A.deeper (envD D_law qual code L a)).frames=some [envD D_law qual code L a]:=Around.frames_deeper hfr
 generalize A.deeper (envD D_law qual code L a)=A' at hR' hfr'
 conv in D_law.body=>whnf
 refine WP.imp (k:=RetK (.bool true)) ?_ fun f qa e=>congrArg retV e
 refine E51 (id GL.F_act) fun qa qb qc qd qe Mac=>?_
 refine sIfR (tp_lt (ev_CallB GL.b_len rfl (.blt _) rfl (evs (ev_N rfl) evs0) (b_len_lst (by rw [List.length_map]; exact sz100 (Nat.le_trans hxl (by decide))))) ev_i) (fun qa=>ev_b) fun h18=>?_
 rw [List.length_map] at h18
 have hg:∀ i:Nat,i < 18→(xs.map V.int)[i]?=some (.int (xs.getD i 0)):=by
  intro i hi
  rw [List.getElem?_map,List.getElem?_eq_getElem (by omega),List.getD_eq_getElem?_getD,List.getElem?_eq_getElem (by omega)]
  rfl
 generalize xs.map V.int=ys at *
 generalize hgg:(fun i=>xs.getD i 0)=g at *
 have hg:∀ i:Nat,i < 18→ys[i]?=some (.int (g i)):=by
  intro i hi; rw [hg i hi,← hgg]
 have hlay:∀ n,Pure c (n + 1) GL.a_layout [.int (g 0),.int (g 1),.int (g 2)] (lay3 (g 0) (g 1) (g 2)).v:=fun n=>spec_layout GL.F_layout
 have hLH:=lh_3 (g 0) (g 1) (g 2)
 have hC:=conf_3 (g 0) (g 1) (g 2)
 have hP:=pairs_3 (g 0) (g 1) (g 2)
 have hI0:=ginv_0 (g 0) (g 1) (g 2)
 have hE:=event_ok (g 0) (g 1) (g 2)
 have hrt:∀ r∈oddR::(lay3 (g 0) (g 1) (g 2)).rts,RtOk r:=rt_A _ _ _
 have hl6:(oddR::(lay3 (g 0) (g 1) (g 2)).rts).length≤20∧[oddR].length + (lay3 (g 0) (g 1) (g 2)).rts.length≤sizeLine:=⟨by show 6≤20; decide,sz100 (by show 1 + 5≤100; decide)⟩
 have hpts:(lay3 (g 0) (g 1) (g 2)).pts.map (·.1)=(["q","p"]:List Str):=rfl
 have hbeg:((lay3 (g 0) (g 1) (g 2)).pts.map fun q=>(q.1,("+" : Str)))=([("q","+"),("p","+")]:List (Str×Str)):=rfl
 generalize lay3 (g 0) (g 1) (g 2)=lay at *
 have LO:=layOk_of hLH
 refine sSet (.inl rfl) (ev_Pure GL.g_layout GL.F_layout rfl (evs (ev_atL rfl (hg 0 (by decide))) (evs (ev_atL rfl (hg 1 (by decide))) (evs (ev_atL rfl (hg 2 (by decide))) evs0))) hR' (hlay 6)) ?_
 refine sSet (.inl rfl) (ev_Pure GL.g_layout GL.F_layout rfl (evs (ev_atL rfl (hg 0 (by decide))) (evs (ev_atL rfl (hg 1 (by decide))) (evs (ev_atL rfl (hg 2 (by decide))) evs0))) hR' (hlay 6)) ?_
 refine sSet (X:=oddR.v) (.inl rfl) (ev_Tup (evs ev_s (evs ev_s (evs (ev_Lst (evs ev_s evs0) n1) (evs (ev_Lst (evs (ev_Tup (evs ev_s (evs ev_s evs0)) n2) (evs (ev_Tup (evs ev_s (evs ev_s evs0)) n2) evs0)) n2) (evs ev_s evs0))))) n5) ?_
 refine sSet (X:=Lay.v ⟨lay.secs,lay.pts,lay.sigs,oddR::lay.rts⟩) (.inl rfl) (ev_Tup (evs (ev_at rfl rfl) (evs (ev_at rfl rfl) (evs (ev_at rfl rfl) (evs (ev_addM (f:=Rt.v) (xs:=[oddR]) (ys:=lay.rts) (ev_one (ev_N rfl)) (ev_at rfl rfl) hl6.2) evs0)))) n4) ?_
 refine sSet (X:=.lst (prs (pairsL (oddR::lay.rts)))) (.inl rfl) (ev_Pure GL.g_pairs GL.F_pairs.fn rfl (evs (ev_addM (f:=Rt.v) (xs:=[oddR]) (ys:=lay.rts) (ev_one (ev_N rfl)) (ev_at rfl rfl) hl6.2) evs0) hR' (spec_pairs (n:=5) (rs:=oddR::lay.rts) GL.F_pairs GL.blt GL.b_range GL.b_len GL.b_any hl6.1)) ?_
 refine sIfF (tp_Cmp (ev_Pure GL.g_conf GL.F_conf rfl (evs (ev_N rfl) evs0) hR' (spec_conflicts (n:=5) G GL.F_conf (lay:=⟨lay.secs,lay.pts,lay.sigs,oddR::lay.rts⟩) hl6.1 hrt)) (ev_N rfl) (by rw [hC]; exact ne_prs) ff_iff) id ?_
 clear hC hrt
 generalize pairsL (oddR::lay.rts)=pairs at *
 have hop:=open_ok (lay:=lay) (g 3)
 refine sSet (X:=.lst ((pick opensL [] (g 3)).map Ev.v)) (.inl rfl) (ev_CallB GL.b_list rfl (.type _) rfl (evs (ev_pick (ls:=opensL) (f:=fun l=>.tup (l.map Ev.v)) [] (ev_GV GL.v_openings rfl) (ev_atL rfl (hg 3 (by decide))) rfl (by decide) (by decide)) evs0) ((f_list_tup (by rw [List.length_map]; exact sz100 (Nat.le_trans hop.1 (by decide)))).frz rfl)) ?_
 generalize pick opensL [] (g 3)=evs' at *
 have hev:∀ (k x:Int),Pure c 7 GL.a_event [.int k,.int x] (event3 k x).v:=fun k x=>spec_event GL.F_event GL.v_names GL.v_places GL.v_turns
 refine sSet (.inl rfl) (ev_addM (f:=Ev.v) (ys:=[event3 (g 4) (g 5),event3 (g 6) (g 7)]) (ev_N rfl) (ev_Lst (evs (ev_Pure GL.g_event GL.F_event rfl (evs (ev_atL rfl (hg 4 (by decide))) (evs (ev_atL rfl (hg 5 (by decide))) evs0)) hR' (hev _ _)) (evs (ev_Pure GL.g_event GL.F_event rfl (evs (ev_atL rfl (hg 6 (by decide))) (evs (ev_atL rfl (hg 7 (by decide))) evs0)) hR' (hev _ _)) evs0)) n2) (sz100 (Nat.le_trans (Nat.add_le_add_right hop.1 2) (by decide)))) ?_
 refine sSet (.inl rfl) (ev_addM (f:=Ev.v) (ys:=[event3 (g 8) (g 9),event3 (g 10) (g 11)]) (ev_N rfl) (ev_Lst (evs (ev_Pure GL.g_event GL.F_event rfl (evs (ev_atL rfl (hg 8 (by decide))) (evs (ev_atL rfl (hg 9 (by decide))) evs0)) hR' (hev _ _)) (evs (ev_Pure GL.g_event GL.F_event rfl (evs (ev_atL rfl (hg 10 (by decide))) (evs (ev_atL rfl (hg 11 (by decide))) evs0)) hR' (hev _ _)) evs0)) n2) (sz100 (by rw [List.length_append]; exact Nat.le_trans (Nat.add_le_add_right hop.1 4) (by decide)))) ?_
 refine sSet (.inl rfl) (ev_addM (f:=Ev.v) (ys:=[event3 (g 12) (g 13),event3 (g 14) (g 15)]) (ev_N rfl) (ev_Lst (evs (ev_Pure GL.g_event GL.F_event rfl (evs (ev_atL rfl (hg 12 (by decide))) (evs (ev_atL rfl (hg 13 (by decide))) evs0)) hR' (hev _ _)) (evs (ev_Pure GL.g_event GL.F_event rfl (evs (ev_atL rfl (hg 14 (by decide))) (evs (ev_atL rfl (hg 15 (by decide))) evs0)) hR' (hev _ _)) evs0)) n2) (sz100 (by rw [List.length_append,List.length_append]; exact Nat.le_trans (Nat.add_le_add_right hop.1 6) (by decide)))) ?_
 have hevl:∀ e∈evs'++[event3 (g 4) (g 5),event3 (g 6) (g 7)]++[event3 (g 8) (g 9),event3 (g 10) (g 11)]++[event3 (g 12) (g 13),event3 (g 14) (g 15)],EvOk lay e:=by
  intro e he
  rcases List.mem_append.mp he with he | he
  rcases List.mem_append.mp he with he | he
  rcases List.mem_append.mp he with he | he
  ·exact hop.2 e he
  all_goals
   rcases List.mem_cons.mp he with rfl | he
   ·exact hE _ _
   rw [List.mem_singleton] at he; rw [he]; exact hE _ _
 generalize (evs'++[event3 (g 4) (g 5),event3 (g 6) (g 7)]++[event3 (g 8) (g 9),event3 (g 10) (g 11)]++[event3 (g 12) (g 13),event3 (g 14) (g 15)])=events at *
 refine sSwap3 rfl rfl rfl (X:=.lst (prs [("q","+"),("p","+")])) (Y:=.lst []) (Z:=.lst []) (ev_Tup (evs (ev_Lst (evs (ev_Tup (evs ev_s (evs ev_s evs0)) n2) (evs (ev_Tup (evs ev_s (evs ev_s evs0)) n2) evs0)) n2) (evs (ev_Lst evs0 n0) (evs (ev_Lst evs0 n0) evs0))) n3) ?_
 refine sSet (X:=Sta.v ⟨[("q","+"),("p","+")],[],[]⟩) (.inl rfl) (ev_eq (ev_Pure GL.g_begin GL.F_begin rfl (evs (ev_N rfl) evs0) hR' (spec_begin GL.F_begin LO.pts)) (by rw [hbeg])) ?_
 refine sIfF (tp_Cmp (ev_N rfl) (ev_Tup (evs (ev_N rfl) (evs (ev_N rfl) (evs (ev_N rfl) evs0))) n3) (ne_sta (s:=⟨[("q","+"),("p","+")],[],[]⟩)) ff_iff) id ?_
 refine wSs_cons (wS_For (fun rest τ=>∃ (td:List Ev) (s:S3),τ=⟨locL ys lay pairs s,[]⟩∧rest=td.map Ev.v∧GInv lay s∧∀ e∈td,EvOk lay e) ?_ ?_ ?_)
 ·refine (ev_N rfl).run _ (I12 _ seq_lst ?_)
  intro ys' hy
  subst hy
  exact ⟨_,le_loc (l':=locL ys lay pairs ⟨[("q","+"),("p","+")],[],[]⟩) ⟨rfl,rfl,rfl,rfl,rfl,rfl,rfl,rfl,trivial⟩,events,_,rfl,rfl,hI0,hevl⟩
 ·rintro X rest τ ⟨td,s,rfl,htd,hI,hev⟩
  refine E23 (map_inv htd) fun ev td z2 z3 z4=>?_; subst z2; subst z3; subst z4
  have hJ:=hI.sinv hLH
  have SO:=staOk_of hLH hJ
  have hst:=step_law hLH hI hP (hev ev (.head _))
  have hdo:=does_step hLH hJ ev
  rw [← hst.1] at hdo
  have hI':=hst.2
  have haf:=spec_after (n:=4) (pairs:=pairs) (ev:=ev) GL (hI.pre hLH)
  clear hst
  generalize after3 lay pairs s ev=r at *
  obtain ⟨s',ans⟩:=r
  dsimp only at *
  have hJ':=hI'.sinv hLH
  have SO':=staOk_of hLH hJ'
  refine wA_Name (.inl rfl) ?_
  refine sCall (.inl rfl) GL.g_act GL.F_act rfl (evs (ev_N rfl) (evs (ev_N rfl) (evs (ev_N rfl) evs0))) hR' (spec_act (n:=3) G GL.F_act LO SO) fun X hX=>?_
  have hX:=hdo X hX
  subst hX
  refine sIfF (tp_Cmp (ev_N rfl) (ev_Pure GL.g_state GL.F_state rfl (evs (ev_N rfl) (evs (ev_N rfl) (evs (ev_N rfl) (evs (ev_N rfl) evs0)))) hR' (spec_state (n:=5) GL (hI.pre hLH))) ne_sta ff_iff) id ?_
  refine sUnp (X:=.tup [.lst (prs s'.pos),.lst (s'.occ.map .str),.lst (s'.held.map HG.v),.str ans]) (ev_Pure GL.g_after GL.F_after rfl (evs (ev_N rfl) (evs (ev_N rfl) (evs (ev_N rfl) (evs (ev_N rfl) (evs (ev_N rfl) (evs (ev_N rfl) evs0)))))) hR' haf) (av4 (.inl rfl) (.inl rfl) (.inl rfl) (.inl rfl)) ?_
  refine sIfF (tp_Cmp (ev_N rfl) (ev_Tup (evs (ev_Pure GL.g_state GL.F_state rfl (evs (ev_N rfl) (evs (ev_N rfl) (evs (ev_N rfl) (evs (ev_N rfl) evs0)))) hR' (spec_state (n:=5) (s:=s') GL (hI'.pre hLH))) (evs (ev_N rfl) evs0)) n2) ne_got ff_iff) id ?_
  refine sSet (X:=(toS lay s').v) (.inl rfl) (ev_at rfl rfl) ?_
  refine sFor (ls:=(toS lay s').held) (f:=Held.v) (P:=fun qa=>False) (R:=.bool false) (ev_at rfl rfl) rfl ?_ (fun q=>E12 q fun qa qb q=>q.elim) fun qa=>?_
  ·exact fun h hh=>tL (av_N (.inl rfl)) (tp_iff (tp_O2 (tp_Cmp (ev_CallB GL.b_type rfl (.type _) rfl (evs (ev_at rfl rfl) evs0) b_type_int) (ev_B GL.b_int rfl rfl) cmp_isnot_typ ff_iff) fun qa=>tp_Cmp (ev_CallB GL.b_type rfl (.type _) rfl (evs (ev_at rfl rfl) evs0) b_type_int) (ev_B GL.b_int rfl rfl) cmp_isnot_typ ff_iff) ⟨fun q=>q.elim id id,False.elim⟩) (fun q=>q.elim) (ll1 rfl)
  refine sIfF (tp_Cmp (ev_Pure GL.g_aspects GL.F_aspects rfl (evs (ev_N rfl) (evs (ev_N rfl) evs0)) hR' ((spec_aspects (n:=3) G GL.F_aspects LO SO').imp fun X H' q=>⟨q.2.trans (by rw [shows_law hLH hI']),q.1⟩)) (ev_Pure GL.g_shows GL.F_shows.fn rfl (evs (ev_N rfl) (evs (ev_N rfl) (evs (ev_N rfl) (evs (ev_N rfl) evs0)))) hR' (spec_shows (n:=5) (s:=s') GL (hI'.pre hLH))) ne_prs ff_iff) id ?_
  exact wSs_nil ⟨_,le_loc (l':=locL ys lay pairs s') ⟨rfl,rfl,rfl,rfl,rfl,rfl,rfl,rfl,trivial⟩,td,s',rfl,rfl,hI',fun e he=>hev e (.tail _ he)⟩
 rintro τ ⟨td,s,rfl,htd,hI,hev⟩
 have hJ:=hI.sinv hLH
 have SO:=staOk_of hLH hJ
 refine sSet (X:=.lst (prs [("q", pm (g 16)),("p", pm (g 17))])) (.inl rfl) (ev_Lst (evs (ev_Tup (evs ev_s (evs (ev_Sub ev_s (ev_Bin (ev_atL rfl (hg 16 (by decide))) ev_i (bin_mod_int (by decide))) item_pm) evs0)) n2) (evs (ev_Tup (evs ev_s (evs (ev_Sub ev_s (ev_Bin (ev_atL rfl (hg 17 (by decide))) ev_i (bin_mod_int (by decide))) item_pm) evs0)) n2) evs0)) n2) ?_
 have hIt:GInv lay ⟨[("q", pm (g 16)),("p", pm (g 17))],s.occ,s.held⟩:=hI.set_pos hpts.symm
 have htl:(prs [("q", pm (g 16)),("p", pm (g 17))]).length≤sizeLine:=by rw [prs_len]; exact sz100 (by show 2≤100; decide)
 generalize ([("q", pm (g 16)),("p", pm (g 17))]:List (Str×Str))=tn at *
 have hJt:=hIt.sinv hLH
 have SOt:=staOk_of hLH hJt
 refine sSet (X:=(toS lay ⟨tn,s.occ,s.held⟩).v) (.inl rfl) (ev_Tup (evs (ev_CallB GL.b_list rfl (.type _) rfl (evs (ev_N rfl) evs0) ((f_list_lst htl).frz rfl)) (evs (ev_at rfl rfl) (evs (ev_at rfl rfl) evs0))) n3) ?_
 refine sIfF (tp_Cmp (ev_Pure GL.g_aspects GL.F_aspects rfl (evs (ev_N rfl) (evs (ev_N rfl) evs0)) hR' ((spec_aspects (n:=3) G GL.F_aspects LO SOt).imp fun X H' q=>⟨q.2.trans (by rw [shows_law hLH hIt]),q.1⟩)) (ev_Pure GL.g_shows GL.F_shows.fn rfl (evs (ev_N rfl) (evs (ev_N rfl) (evs (ev_N rfl) (evs (ev_N rfl) evs0)))) hR' (spec_shows (n:=5) (s:=⟨tn,s.occ,s.held⟩) GL (hIt.pre hLH))) ne_prs ff_iff) id ?_
 refine sIfF (tp_Cmp (ev_N rfl) (ev_Pure GL.g_state GL.F_state rfl (evs (ev_N rfl) (evs (ev_N rfl) (evs (ev_N rfl) (evs (ev_N rfl) evs0)))) hR' (spec_state (n:=5) (s:=⟨tn,s.occ,s.held⟩) GL (hIt.pre hLH))) ne_sta ff_iff) id ?_
 refine sSet (.inl rfl) ev_b ?_
 refine wSs_cons (wS_TryRaise hfr' rfl GL.g_act Mac.fn rfl GL.b_ve rfl (.inl rfl) ((evs (ev_N rfl) (evs (ev_N rfl) (evs (ev_Tup (evs ev_s (evs ev_s evs0)) n2) evs0))).run _ (I13 7 hR' (spec_halt (n:=3) G GL.F_act LO SO GL.b_ve) ?_)))
 refine sIfF (tp_not (tp_bool (ev_N rfl))) (fun q=>q rfl) ?_
 refine sIfF (tp_Cmp (ev_N rfl) (ev_Pure GL.g_state GL.F_state rfl (evs (ev_N rfl) (evs (ev_N rfl) (evs (ev_N rfl) (evs (ev_N rfl) evs0)))) hR' (spec_state (n:=5) GL (hI.pre hLH))) ne_sta ff_iff) id ?_
 refine sIfF (tp_Cmp (ev_N rfl) (ev_N rfl) ne_lay ff_iff) id ?_
 exact sRet ev_b
end Mine
end
noncomputable section
set_option maxRecDepth 100000
namespace Mine
open PySem PySem.W PyProof.Rows
noncomputable def fnO (D:DefD) (nm qual md:Str) (tk code:Nat):Obj:={ cls:=.type "function", data:=.func (fdOf D nm qual (.str md tk) (.ref code) .none) }
noncomputable def tupO (vs:List Value):Obj:={ cls:=.type "tuple", data:=.seq vs.toArray }
noncomputable def dctO (P:Params) (es:List (Str×Nat×Value)) (n:Nat):Obj:={ cls:=.type "dict", data:=.dict (es.map fun e=>⟨PyData.keyHash P e.1,.str e.1 e.2.1,e.2.2⟩).toArray n }
noncomputable def clsO:Obj:=excClassObj "_M" "_M" 111 110 [.type "object"] [.type "object"] true [] [] false none none none none (some (.str "_M" 218)) (some (.str "_M" 226)) (some (.bool true)) "object.__new__"
noncomputable def globE:List (Str×Nat×Value):=[("__name__", 165,.str "law_sx_r111_3" 369),("__doc__", 166,.none),("__package__", 167,.none),("__loader__", 168,.builtin "__main__.__loader__#opaque"),("__spec__", 169,.none),("__annotations__", 170,.ref 6),("__builtins__", 171,.ref 4),("__file__", 173,.str "/claim/cut.py" 172),("__cached__", 174,.none),("_clash", 200,.ref 21),("conflicts", 211,.ref 28),("begin", 217,.ref 33),("_M", 338,.ref 111),("act", 350,.ref 122),("aspects", 368,.ref 129),("_law_names", 377,.ref 130),("_law_places", 385,.ref 131),("_law_turns", 396,.ref 137),("_law_openings", 437,.ref 167),("_law_layout", 454,.ref 174),("_law_event", 463,.ref 181),("_law_pairs", 476,.ref 188),("_law_route", 482,.ref 193),("_law_locked", 488,.ref 198),("_law_set", 494,.ref 203),("_law_cancel", 500,.ref 208),("_law_enter", 516,.ref 215),("_law_leave", 522,.ref 220),("_law_after", 528,.ref 225),("_law_state", 543,.ref 232),("_law_shows", 549,.ref 237),("law", 573,.ref 244)]
noncomputable def clsE:List (Str×Nat×Value):=[("__module__", 225,.str "lockkit.core" 187),("__firstlineno__", 229,.int 33 228),("__init__", 240,.ref 47),("_out", 246,.ref 52),("_busy", 255,.ref 59),("_locked", 265,.ref 66),("_set", 277,.ref 73),("_cancel", 286,.ref 80),("_tick", 294,.ref 87),("_enter", 305,.ref 94),("_leave", 316,.ref 101),("_move", 325,.ref 108),("__static_attributes__", 331,.ref 109),("__dict__", 333,.ref 112),("__weakref__", 335,.ref 113),("__doc__", 336,.none)]
noncomputable def heapK (P:Params):Frag:=[(3,dctO P globE 32),(21,fnO D_clash "_clash" "_clash" "lockkit.core" 187 20),(28,fnO D_conf "conflicts" "conflicts" "lockkit.core" 187 27),(33,fnO D_begin "begin" "begin" "lockkit.core" 187 32),(47,fnO D_init "__init__" "_M.__init__" "lockkit.core" 187 46),(52,fnO D_out "_out" "_M._out" "lockkit.core" 187 51),(59,fnO D_busy "_busy" "_M._busy" "lockkit.core" 187 58),(66,fnO D_locked "_locked" "_M._locked" "lockkit.core" 187 65),(73,fnO D_set "_set" "_M._set" "lockkit.core" 187 72),(80,fnO D_cancel "_cancel" "_M._cancel" "lockkit.core" 187 79),(87,fnO D_tick "_tick" "_M._tick" "lockkit.core" 187 86),(94,fnO D_enter "_enter" "_M._enter" "lockkit.core" 187 93),(101,fnO D_leave "_leave" "_M._leave" "lockkit.core" 187 100),(108,fnO D_move "_move" "_M._move" "lockkit.core" 187 107),(110,dctO P clsE 4),(111,clsO),(122,fnO D_act "act" "act" "lockkit.core" 187 121),(129,fnO D_aspects "aspects" "aspects" "lockkit.core" 187 128),(130,tupO [.str "A" 371,.str "B" 372,.str "C" 373,.str "D" 374,.str "E" 375,.str "S" 376]),(131,tupO [.str "b" 378,.str "c" 379,.str "f" 380,.str "e" 381,.str "a" 382,.str "d" 383,.str "S" 384]),(132,tupO [.str "p" 386,.str "+" 387]),(133,tupO [.str "p" 388,.str "-" 389]),(134,tupO [.str "q" 390,.str "+" 391]),(135,tupO [.str "q" 392,.str "-" 393]),(136,tupO [.str "S" 394,.str "+" 395]),(137,tupO [.ref 132,.ref 133,.ref 134,.ref 135,.ref 136]),(138,tupO []),(139,tupO [.str "set" 397,.str "A" 398]),(140,tupO [.str "enter" 399,.str "a" 400]),(141,tupO [.str "cancel" 401,.str "A" 402]),(142,tupO [.ref 139,.ref 140,.ref 141]),(143,tupO [.str "set" 403,.str "A" 404]),(144,tupO [.str "enter" 405,.str "a" 406]),(145,tupO [.str "cancel" 407,.str "A" 408]),(146,tupO [.str "tick" 409]),(147,tupO [.str "tick" 410]),(148,tupO [.ref 143,.ref 144,.ref 145,.ref 146,.ref 147]),(149,tupO [.str "set" 411,.str "A" 412]),(150,tupO [.str "enter" 413,.str "c" 414]),(151,tupO [.str "enter" 415,.str "b" 416]),(152,tupO [.str "leave" 417,.str "b" 418]),(153,tupO [.ref 149,.ref 150,.ref 151,.ref 152]),(154,tupO [.str "set" 419,.str "A" 420]),(155,tupO [.str "enter" 421,.str "b" 422]),(156,tupO [.str "enter" 423,.str "c" 424]),(157,tupO [.str "leave" 425,.str "b" 426]),(158,tupO [.ref 154,.ref 155,.ref 156,.ref 157]),(159,tupO [.str "set" 427,.str "A" 428]),(160,tupO [.str "set" 429,.str "B" 430]),(161,tupO [.ref 159,.ref 160]),(162,tupO [.str "set" 431,.str "D" 432]),(163,tupO [.str "enter" 433,.str "f" 434]),(164,tupO [.ref 162,.ref 163]),(165,tupO [.str "enter" 435,.str "e" 436]),(166,tupO [.ref 165]),(167,tupO [.ref 138,.ref 142,.ref 148,.ref 153,.ref 158,.ref 161,.ref 164,.ref 166]),(174,fnO D_layout "_law_layout" "_law_layout" "law_sx_r111_3" 369 173),(181,fnO D_event "_law_event" "_law_event" "law_sx_r111_3" 369 180),(188,fnO D_pairs "_law_pairs" "_law_pairs" "law_sx_r111_3" 369 187),(193,fnO D_route "_law_route" "_law_route" "law_sx_r111_3" 369 192),(198,fnO D_llocked "_law_locked" "_law_locked" "law_sx_r111_3" 369 197),(203,fnO D_lset "_law_set" "_law_set" "law_sx_r111_3" 369 202),(208,fnO D_lcancel "_law_cancel" "_law_cancel" "law_sx_r111_3" 369 207),(215,fnO D_lenter "_law_enter" "_law_enter" "law_sx_r111_3" 369 214),(220,fnO D_lleave "_law_leave" "_law_leave" "law_sx_r111_3" 369 219),(225,fnO D_after "_law_after" "_law_after" "law_sx_r111_3" 369 224),(232,fnO D_state "_law_state" "_law_state" "law_sx_r111_3" 369 231),(237,fnO D_shows "_law_shows" "_law_shows" "law_sx_r111_3" 369 236),(244,fnO D_law "law" "law" "law_sx_r111_3" 369 243)]
noncomputable def heapA:List Addr:=[3,21,28,33,47,52,59,66,73,80,87,94,101,108,110,111,122,129,130,131,132,133,134,135,136,137,138,139,140,141,142,143,144,145,146,147,148,149,150,151,152,153,154,155,156,157,158,159,160,161,162,163,164,165,166,167,174,181,188,193,198,203,208,215,220,225,232,237,244]
noncomputable def codeA:List (Addr×Str):=[(20,"_clash"),(27,"conflicts"),(32,"begin"),(46,"_M.__init__"),(51,"_M._out"),(58,"_M._busy"),(65,"_M._locked"),(72,"_M._set"),(79,"_M._cancel"),(86,"_M._tick"),(93,"_M._enter"),(100,"_M._leave"),(107,"_M._move"),(121,"act"),(128,"aspects"),(173,"_law_layout"),(180,"_law_event"),(187,"_law_pairs"),(192,"_law_route"),(197,"_law_locked"),(202,"_law_set"),(207,"_law_cancel"),(214,"_law_enter"),(219,"_law_leave"),(224,"_law_after"),(231,"_law_state"),(236,"_law_shows"),(243,"law")]
noncomputable def codeNm (h:Heap) (c:Addr):Option Str:=match h.get? c with
 | some ⟨_,_,.fields vs,_⟩=>(match (vs[1]?:Option Value) with | some (.str q _)=>some q | _=>none)
 | _=>none
theorem codeNm_rec {h:Heap} {c:Addr} {q:Str} (e:codeNm h c=some q):h.CodeRec (.ref c) q:=by
 unfold codeNm at e
 split at e
 ·rename_i vs _ ho
  split at e
  ·rename_i q' t hv
   cases e
   exact ⟨c,_,vs,t,rfl,ho,rfl,hv⟩
  ·cases e
 ·cases e
noncomputable def says2 (w:World) (h:Heap):Prop:=(heapK w.params).In h∧(∀ p∈codeA,h.CodeRec (.ref p.1) p.2)∧∃ o,h.get? sysModules=some o
theorem heapA_eq (P:Params):heapA=(heapK P).map (·.1):=rfl
noncomputable def codeV (h:Heap) (c:Addr):List Value:=match h.get? c with
 | some ⟨cl,_,.fields vs,_⟩=>[cl,vs.getD 11 .none,vs.getD 18 .none,vs.getD 7 .none,vs.getD 9 .none,vs.getD 10 .none]
 | _=>[]
noncomputable def codeW (q:Addr×Addr):List Value:=[.type "code", .ref q.2,.str "/claim/cut.py" (if q.1=187 then 475 else if q.1=202 then 493 else if q.1=207 then 499 else 548),.int 3 0,.bool true,.int 181 0]
noncomputable def modV (h:Heap):Option (Value×Option Addr×Data):=(h.get? 4).map fun o=>(o.cls,o.dict,o.data)
noncomputable def modW:Option (Value×Option Addr×Data):=some (.type "module", some builtinsNs,.plain)
noncomputable def emptyT:Obj:={ cls:=.none,data:=.fields #[] }
noncomputable def sayT (h:Heap):Prop:=(∀ q∈tabs,codeV h q.1=codeW q)∧(∀ q∈tabs,h.get? q.2=some emptyT)∧modV h=modW
noncomputable def hook2:Hook where
 α:=List (Option Obj)×List (Option Str)×Bool×List (List Value)×List (Option Obj)×Option (Value×Option Addr×Data)
 obs:=fun s=>(heapA.map s.heap.get?,codeA.map (fun p=>codeNm s.heap p.1),(s.heap.get? sysModules).isSome,tabs.map (fun q=>codeV s.heap q.1),tabs.map (fun q=>s.heap.get? q.2),modV s.heap)
 val:=fun w=>((heapK w.params).map fun p=>some p.2,codeA.map (fun p=>some p.2),true,tabs.map codeW,tabs.map (fun qa=>some emptyT),modW)
 says:=fun w h=>says2 w h∧sayT h
 of:=fun w s e=>by
  simp only [Prod.mk.injEq] at e
  exact ⟨⟨Frag.in_of (heapA_eq w.params) e.1,fun p hp=>codeNm_rec (List.map_inj_left.mp e.2.1 p hp),Option.isSome_iff_exists.mp e.2.2.1⟩,fun q hq=>List.map_inj_left.mp e.2.2.2.1 q hq,fun q hq=>List.map_inj_left.mp e.2.2.2.2.1 q hq,e.2.2.2.2.2⟩
 keeps:=fun w h h' ⟨⟨a,b,o,c⟩,t1,t2,t3⟩ k=>⟨⟨a.keeps k,fun p hp=>let ⟨c,ob,vs,t,e1,e2,e3⟩:=b p hp; ⟨c,ob,vs,t,e1,k _ _ e2,e3⟩,o,k _ _ c⟩,fun q hq=>by
   refine Eq.trans ?_ (t1 q hq)
   have:=t1 q hq
   unfold codeV at this ⊢
   cases e:h.get? q.1 with
   | none=>rw [e] at this; cases this
   | some ob=>rw [k _ _ e],fun q hq=>k _ _ (t2 q hq),by
   refine Eq.trans ?_ t3
   unfold modV at t3 ⊢
   cases e:h.get? 4 with
   | none=>rw [e] at t3; cases t3
   | some ob=>rw [k _ _ e]⟩
theorem getD_some {vs:Array Value} {i P:Nat} (h:vs.getD i .none=.ref P):vs[i]?=some (.ref P):=by
 rw [Array.getD_eq_getD_getElem?] at h
 cases e:vs[i]? with
 | none=>rw [e] at h; cases h
 | some x=>rw [e] at h; exact congrArg some h
theorem tab_of {h:Heap} {q:Addr×Addr} (h1:codeV h q.1=codeW q) (h2:h.get? q.2=some emptyT) (hne:q.1≠q.2):IsTab h q:=by
 unfold codeV at h1
 split at h1
 ·rename_i cl d vs sl ho
  have e0:=List.cons.inj h1
  have e1:=List.cons.inj e0.2
  have e2:=List.cons.inj e1.2
  have e3:=List.cons.inj e2.2
  have e4:=List.cons.inj e3.2
  have e5:=List.cons.inj e4.2
  exact ⟨#[],⟨_,vs,_,_,_,_,_,_,_,_,ho,rfl,e1.1,e2.1,e3.1,e4.1,e5.1,h2,rfl,trivial,hne⟩,⟨_,vs,ho,e0.1,rfl,getD_some e1.1⟩,h2⟩
 ·cases h1
theorem nsFind_dct (es:List (Str×Nat×Value)) (P:Params) (x:Str):nsFind (es.map fun e=>(⟨PyData.keyHash P e.1,.str e.1 e.2.1,e.2.2⟩:DictEntry)).toArray x=(es.find? fun e=>Value.isStr (.str e.1 e.2.1) x).map (·.2.2):=by
 unfold nsFind findBy
 rw [List.find?_toArray,List.find?_map,Option.map_map]
 rfl
noncomputable def lkE (es:List (Str×Nat×Value)) (x:Str):Option Value:=(es.find? fun e=>Value.isStr (.str e.1 e.2.1) x).map (·.2.2)
section
variable {w:World} {h:Heap} {mg:Str→Option Value}
theorem K_at (S:says2 w h) {a:Addr} {o:Obj} (e:(heapK w.params).lookup a=some o):h.get? a=some o:=S.1 a o e
theorem ns_at {a:Addr} {es:List (Str×Nat×Value)} {n:Nat} (e:h.get? a=some (dctO w.params es n)) {m:Str→Option Value} (N:h.Ns a m) (x:Str):m x=lkE es x:=by
 obtain ⟨o,es',ep,ho,hd,_,hf⟩:=N
 rw [e] at ho; cases ho
 cases hd
 rw [← hf,nsFind_dct]; rfl
theorem ns_of {a:Addr} {es:List (Str×Nat×Value)} {n:Nat} (e:h.get? a=some (dctO w.params es n)):h.Ns a (lkE es):=by
 refine ⟨_,_,_,e,rfl,?_,fun x=>nsFind_dct es w.params x⟩
 intro q hq
 rw [List.mem_toArray] at hq
 obtain ⟨e',_,rfl⟩:=List.mem_map.mp hq
 exact ⟨_,_,rfl⟩
theorem fn_at (c:Cx) (hG:c.G=h) (S:says2 w h) {a code tk:Nat} {D:DefD} {nm qual md:Str} (e:(heapK w.params).lookup a=some (fnO D nm qual md tk code)) (hc:(code,qual)∈codeA):IsFn c a D :=
 ⟨nm,qual,.str md tk,.ref code,.none,⟨_,by rw [hG]; exact K_at S e,rfl,rfl⟩,by rw [hG]; exact S.2.1 _ hc⟩
theorem fnC_at (c:Cx) (hG:c.G=h) (S:says2 w h) {a code tk:Nat} {D:DefD} {nm qual md:Str} (e:(heapK w.params).lookup a=some (fnO D nm qual md tk code)) (hc:(code,qual)∈codeA):IsFnC c a D (.ref code) :=
 ⟨nm,qual,.str md tk,.none,⟨_,by rw [hG]; exact K_at S e,rfl,rfl⟩,by rw [hG]; exact S.2.1 _ hc⟩
end
noncomputable def cxOf (w:World) (h:Heap) (mg mb:Str→Option Value):Cx:=⟨PySem.Challenge.pw_sx_r111_3,w,h,mg,mb⟩
section
variable {w:World} {h:Heap} {mg mb:Str→Option Value}
noncomputable def coreOf (S:says2 w h) (hg:∀ x,mg x=lkE globE x):Core (cxOf w h mg mb) where
 C:=111
 N:=110
 mN:=lkE clsE
 K:=⟨⟨⟨_,_,_,_,_,_,_,_,_,_,_,_,K_at (a:=111) (o:=clsO) S rfl⟩,ns_of (K_at (a:=110) S rfl)⟩,by kernel_rfl,by kernel_rfl,by kernel_rfl⟩
 n_lay:=by kernel_rfl
 n_r:=by kernel_rfl
 n_pos:=by kernel_rfl
 n_occ:=by kernel_rfl
 n_held:=by kernel_rfl
 f_init:=47
 f_out:=52
 f_busy:=59
 f_locked:=66
 f_set:=73
 f_cancel:=80
 f_tick:=87
 f_enter:=94
 f_leave:=101
 f_move:=108
 f_clash:=21
 m_init:=by kernel_rfl
 m_out:=by kernel_rfl
 m_busy:=by kernel_rfl
 m_locked:=by kernel_rfl
 m_set:=by kernel_rfl
 m_cancel:=by kernel_rfl
 m_tick:=by kernel_rfl
 m_enter:=by kernel_rfl
 m_leave:=by kernel_rfl
 m_move:=by kernel_rfl
 F_init:=fn_at _ rfl S (code:=46) rfl (by decide)
 F_out:=fn_at _ rfl S (code:=51) rfl (by decide)
 F_busy:=fn_at _ rfl S (code:=58) rfl (by decide)
 F_locked:=fn_at _ rfl S (code:=65) rfl (by decide)
 F_set:=fn_at _ rfl S (code:=72) rfl (by decide)
 F_cancel:=fn_at _ rfl S (code:=79) rfl (by decide)
 F_tick:=fn_at _ rfl S (code:=86) rfl (by decide)
 F_enter:=fn_at _ rfl S (code:=93) rfl (by decide)
 F_leave:=fn_at _ rfl S (code:=100) rfl (by decide)
 F_move:=fn_at _ rfl S (code:=107) rfl (by decide)
 F_clash:=fn_at _ rfl S (code:=20) rfl (by decide)
 g_clash:=(hg _).trans (by kernel_rfl)
 g_M:=(hg _).trans (by kernel_rfl)
 b_set:=(hg _).trans (by kernel_rfl)
 b_dict:=(hg _).trans (by kernel_rfl)
 b_list:=(hg _).trans (by kernel_rfl)
 b_len:=(hg _).trans (by kernel_rfl)
 b_sorted:=(hg _).trans (by kernel_rfl)
theorem rd_tup (S:says2 w h) {a:Addr} {vs:List Value} {Xs:List V} (e:(heapK w.params).lookup a=some (tupO vs)) (r:RdL (cxOf w h mg mb) (fun b=>∃ o,h.get? b=some o) h Xs vs):Rd (cxOf w h mg mb) (fun b=>∃ o,h.get? b=some o) h (.tup Xs) (.ref a) :=
 .tup ⟨_,K_at S e⟩ ⟨0,K_at S e⟩ (by simpa using r)
theorem gv_names (S:says2 w h) (hg:∀ x,mg x=lkE globE x):GV (cxOf w h mg mb) "_law_names" namesV:=⟨.ref 130,(hg _).trans (by kernel_rfl),rd_tup (a:=130) S rfl (.cons (.str _ _) (.cons (.str _ _) (.cons (.str _ _) (.cons (.str _ _) (.cons (.str _ _) (.cons (.str _ _) .nil))))))⟩
theorem gv_places (S:says2 w h) (hg:∀ x,mg x=lkE globE x):GV (cxOf w h mg mb) "_law_places" placesV:=⟨.ref 131,(hg _).trans (by kernel_rfl),rd_tup (a:=131) S rfl (.cons (.str _ _) (.cons (.str _ _) (.cons (.str _ _) (.cons (.str _ _) (.cons (.str _ _) (.cons (.str _ _) (.cons (.str _ _) .nil)))))))⟩
theorem gv_turns (S:says2 w h) (hg:∀ x,mg x=lkE globE x):GV (cxOf w h mg mb) "_law_turns" turnsV:=⟨.ref 137,(hg _).trans (by kernel_rfl),rd_tup (a:=137) S rfl (.cons (rd_tup (a:=132) S rfl (.cons (.str _ _) (.cons (.str _ _) .nil))) (.cons (rd_tup (a:=133) S rfl (.cons (.str _ _) (.cons (.str _ _) .nil))) (.cons (rd_tup (a:=134) S rfl (.cons (.str _ _) (.cons (.str _ _) .nil))) (.cons (rd_tup (a:=135) S rfl (.cons (.str _ _) (.cons (.str _ _) .nil))) (.cons (rd_tup (a:=136) S rfl (.cons (.str _ _) (.cons (.str _ _) .nil))) .nil)))))⟩
theorem gv_openings (S:says2 w h) (hg:∀ x,mg x=lkE globE x):GV (cxOf w h mg mb) "_law_openings" openingsV:=⟨.ref 167,(hg _).trans (by kernel_rfl),rd_tup (a:=167) S rfl (.cons (rd_tup (a:=138) S rfl .nil) (.cons (rd_tup (a:=142) S rfl (.cons (rd_tup (a:=139) S rfl (.cons (.str _ _) (.cons (.str _ _) .nil))) (.cons (rd_tup (a:=140) S rfl (.cons (.str _ _) (.cons (.str _ _) .nil))) (.cons (rd_tup (a:=141) S rfl (.cons (.str _ _) (.cons (.str _ _) .nil))) .nil)))) (.cons (rd_tup (a:=148) S rfl (.cons (rd_tup (a:=143) S rfl (.cons (.str _ _) (.cons (.str _ _) .nil))) (.cons (rd_tup (a:=144) S rfl (.cons (.str _ _) (.cons (.str _ _) .nil))) (.cons (rd_tup (a:=145) S rfl (.cons (.str _ _) (.cons (.str _ _) .nil))) (.cons (rd_tup (a:=146) S rfl (.cons (.str _ _) .nil)) (.cons (rd_tup (a:=147) S rfl (.cons (.str _ _) .nil)) .nil)))))) (.cons (rd_tup (a:=153) S rfl (.cons (rd_tup (a:=149) S rfl (.cons (.str _ _) (.cons (.str _ _) .nil))) (.cons (rd_tup (a:=150) S rfl (.cons (.str _ _) (.cons (.str _ _) .nil))) (.cons (rd_tup (a:=151) S rfl (.cons (.str _ _) (.cons (.str _ _) .nil))) (.cons (rd_tup (a:=152) S rfl (.cons (.str _ _) (.cons (.str _ _) .nil))) .nil))))) (.cons (rd_tup (a:=158) S rfl (.cons (rd_tup (a:=154) S rfl (.cons (.str _ _) (.cons (.str _ _) .nil))) (.cons (rd_tup (a:=155) S rfl (.cons (.str _ _) (.cons (.str _ _) .nil))) (.cons (rd_tup (a:=156) S rfl (.cons (.str _ _) (.cons (.str _ _) .nil))) (.cons (rd_tup (a:=157) S rfl (.cons (.str _ _) (.cons (.str _ _) .nil))) .nil))))) (.cons (rd_tup (a:=161) S rfl (.cons (rd_tup (a:=159) S rfl (.cons (.str _ _) (.cons (.str _ _) .nil))) (.cons (rd_tup (a:=160) S rfl (.cons (.str _ _) (.cons (.str _ _) .nil))) .nil))) (.cons (rd_tup (a:=164) S rfl (.cons (rd_tup (a:=162) S rfl (.cons (.str _ _) (.cons (.str _ _) .nil))) (.cons (rd_tup (a:=163) S rfl (.cons (.str _ _) (.cons (.str _ _) .nil))) .nil))) (.cons (rd_tup (a:=166) S rfl (.cons (rd_tup (a:=165) S rfl (.cons (.str _ _) (.cons (.str _ _) .nil))) .nil)) .nil))))))))⟩
noncomputable def lcoreOf (S:says2 w h) (hg:∀ x,mg x=lkE globE x) (hB:BltOk (cxOf w h mg mb)):LCore (cxOf w h mg mb) where
 a_layout:=174
 a_event:=181
 a_pairs:=188
 a_route:=193
 a_locked:=198
 a_set:=203
 a_cancel:=208
 a_enter:=215
 a_leave:=220
 a_after:=225
 a_state:=232
 a_shows:=237
 a_conf:=28
 a_begin:=33
 a_act:=122
 a_aspects:=129
 F_layout:=fn_at _ rfl S (code:=173) rfl (by decide)
 F_event:=fn_at _ rfl S (code:=180) rfl (by decide)
 F_pairs:=fnC_at _ rfl S (code:=187) rfl (by decide)
 F_route:=fn_at _ rfl S (code:=192) rfl (by decide)
 F_locked:=fn_at _ rfl S (code:=197) rfl (by decide)
 F_set:=fnC_at _ rfl S (code:=202) rfl (by decide)
 F_cancel:=fnC_at _ rfl S (code:=207) rfl (by decide)
 F_enter:=fn_at _ rfl S (code:=214) rfl (by decide)
 F_leave:=fn_at _ rfl S (code:=219) rfl (by decide)
 F_after:=fn_at _ rfl S (code:=224) rfl (by decide)
 F_state:=fn_at _ rfl S (code:=231) rfl (by decide)
 F_shows:=fnC_at _ rfl S (code:=236) rfl (by decide)
 F_conf:=fn_at _ rfl S (code:=27) rfl (by decide)
 F_begin:=fn_at _ rfl S (code:=32) rfl (by decide)
 F_act:=fn_at _ rfl S (code:=121) rfl (by decide)
 F_aspects:=fn_at _ rfl S (code:=128) rfl (by decide)
 g_layout:=(hg _).trans (by kernel_rfl)
 g_event:=(hg _).trans (by kernel_rfl)
 g_pairs:=(hg _).trans (by kernel_rfl)
 g_route:=(hg _).trans (by kernel_rfl)
 g_locked:=(hg _).trans (by kernel_rfl)
 g_set:=(hg _).trans (by kernel_rfl)
 g_cancel:=(hg _).trans (by kernel_rfl)
 g_enter:=(hg _).trans (by kernel_rfl)
 g_leave:=(hg _).trans (by kernel_rfl)
 g_after:=(hg _).trans (by kernel_rfl)
 g_state:=(hg _).trans (by kernel_rfl)
 g_shows:=(hg _).trans (by kernel_rfl)
 g_conf:=(hg _).trans (by kernel_rfl)
 g_begin:=(hg _).trans (by kernel_rfl)
 g_act:=(hg _).trans (by kernel_rfl)
 g_aspects:=(hg _).trans (by kernel_rfl)
 v_names:=gv_names S hg
 v_places:=gv_places S hg
 v_turns:=gv_turns S hg
 v_openings:=gv_openings S hg
 b_list:=(hg _).trans (by kernel_rfl)
 b_len:=(hg _).trans (by kernel_rfl)
 b_dict:=(hg _).trans (by kernel_rfl)
 b_sorted:=(hg _).trans (by kernel_rfl)
 b_type:=(hg _).trans (by kernel_rfl)
 b_int:=(hg _).trans (by kernel_rfl)
 b_max:=(hg _).trans (by kernel_rfl)
 b_any:=(hg _).trans (by kernel_rfl)
 b_all:=(hg _).trans (by kernel_rfl)
 b_range:=(hg _).trans (by kernel_rfl)
 b_ve:=(hg _).trans (by kernel_rfl)
 blt:=hB
theorem rm_caller:Rm 8 callerA:=⟨rfl,by show 4 + 300 + 800 < cLine; decide,by show 1 + claimMargin + 5 + 80 < recursionLimit; decide +kernel⟩
theorem ints_rd {c:Cx} {Z:Addr→Prop} {hh:Heap}:∀ {vs:List Value} {ns:List Int},IntsAre vs ns→RdL c Z hh (ns.map .int) vs
 | _,_,.nil=>.nil
 | _,_,.cons n t r=>.cons (.int n t) (ints_rd r)
noncomputable def notTB (a:Addr):Bool:=tabs.all fun q=>decide (q.2≠a)
theorem nT_of {a:Addr} (h:notTB a=true):¬ isT a:=fun ⟨q,hq,e⟩=>(of_decide_eq_true (List.all_eq_true.mp h q hq)) e
noncomputable def G2 (h:Heap):Heap:=hfilter (fun b=>¬ isT b) h
theorem g2_in {a:Addr} {o:Obj} (ha:notTB a=true) (e:h.get? a=some o):(G2 h).get? a=some o:=hfilter_in (nT_of ha) e
theorem heapA_nT:∀ a∈heapA,notTB a=true:=by decide
theorem codeA_nT:∀ p∈codeA,notTB p.1=true:=by decide
theorem mem_lk {l:List (Addr×Obj)} {a:Addr} {o:Obj} (e:l.lookup a=some o):a∈l.map (·.1):=by
 obtain ⟨l1,l2,e,_⟩:=List.lookup_eq_some_iff.mp e
 rw [e]; simp
theorem says_f (S:says2 w h):says2 w (G2 h) :=
 ⟨fun a o e=>g2_in (heapA_nT a (heapA_eq w.params▸mem_lk e)) (S.1 a o e),
  fun p hp=>by
  obtain ⟨c,ob,vs,t,e1,e2,e3⟩:=S.2.1 p hp
  cases e1
  exact ⟨p.1,ob,vs,t,rfl,g2_in (codeA_nT p hp) e2,e3⟩,
  let ⟨o,e⟩:=S.2.2; ⟨o,g2_in (by decide) e⟩⟩
theorem ns_f {a:Addr} {m:Str→Option Value} (ha:notTB a=true) (N:h.Ns a m):(G2 h).Ns a m:=let ⟨o,es,ep,e,r⟩:=N; ⟨o,es,ep,g2_in ha e,r⟩
theorem tabs_ne:∀ q∈tabs,q.1≠q.2:=by decide
theorem tabs_nT:∀ q∈tabs,notTB q.1=true:=by decide
theorem inv_of (S:says2 w h) (Y:sayT h) (T1:h.Ns mainGlobals mg) (T2:h.Ns builtinsNs mb) (T3:h.NoLimit) (T4:∀ x:Str,x ≠ "__name__" → mb x=bootBuiltins x):Inv (cxOf w (G2 h) mg mb) (fun b=>∃ o,(G2 h).get? b=some o) isT h :=
 ⟨fun b o e=>⟨⟨o,e⟩,(hfilter_some e).2⟩,fun b ⟨o,e⟩=>⟨o,(hfilter_some e).2⟩,fun b ⟨q,hq,e⟩=>⟨_,e▸Y.2.1 q hq⟩,fun b ⟨o,e⟩=>(hfilter_some e).1,(says_f S).2.2,⟨ns_f (by decide) T1,ns_f (by decide) T2,T3.at fun o e=>g2_in (by decide) e,T4⟩,
  fun q hq=>⟨q,hq,rfl⟩,fun q hq=>by
  have ht:=tab_of (Y.1 q hq) (Y.2.1 q hq) (tabs_ne q hq)
  obtain ⟨ps,⟨o,vs,_,_,_,_,_,_,_,_,ho,_⟩,_⟩:=id ht
  exact ⟨⟨o,g2_in (tabs_nT q hq) ho⟩,ht⟩⟩
theorem blt_of (Y:modV h=modW) (hg:∀ x,mg x=lkE globE x):BltOk (cxOf w (G2 h) mg mb):=by
 obtain ⟨o,ho,e⟩:=Option.map_eq_some_iff.mp Y
 have e1:=congrArg Prod.fst e
 have e2:=congrArg (fun q=>q.2.1) e
 have e3:=congrArg (fun q=>q.2.2) e
 exact ⟨4,o,(hg _).trans (by kernel_rfl),by decide,g2_in (by decide) ho,e1,e2,e3⟩
theorem law_walk {s₁:Shared} (S:says2 w s₁.heap) (Y:sayT s₁.heap) (T1:s₁.heap.Ns mainGlobals mg) (T2:s₁.heap.Ns builtinsNs mb) (T3:s₁.heap.NoLimit) (T4:∀ x:Str,x ≠ "__name__" → mb x=bootBuiltins x) {fa l:Addr} (hmg:mg "law" = some (.ref fa)) {ns:List Int} {items:Array Value} {n:Nat}
  (hl:s₁.heap.get? l=some { cls:=.type "list", data:=.seq items n }) (hi:IntsAre items.toList ns) (hn:ns.length≤63) {Q:Value→Shared→Prop} {E:Value→Shared→Prop}
  (hQ:∀ s',OldK s₁.heap s'.heap→s'.os=s₁.os→GB s₁.gens s'.gens→Q (.bool true) s'):wpAny (model PySem.Challenge.pw_sx_r111_3 w) callerA (call (.ref fa) [.ref l]) Q E s₁:=by
 have hg:∀ x,mg x=lkE globE x:=ns_at (K_at (a:=3) S rfl) T1
 have hfa:fa=244:=by
  have:=(hg "law").symm.trans hmg
  have e:lkE globE "law" = some (.ref 244):=by kernel_rfl
  rw [e] at this; cases this; rfl
 subst hfa
 have I:=inv_of (w:=w) S Y T1 T2 T3 T4
 have hlT:¬ isT l:=fun ⟨q,hq,e⟩=>by
  have:=Y.2.1 q hq
  rw [e,hl] at this; cases this
 have hl2:(G2 s₁.heap).get? l=some { cls:=.type "list", data:=.seq items n }:=hfilter_in hlT hl
 refine wpAny_mono (spec_law (c:=cxOf w (G2 s₁.heap) mg mb) (P:=isT) (coreOf (says_f S) hg) (lcoreOf (says_f S) hg (blt_of Y.2.2 hg)) (fn_at _ rfl (says_f S) (code:=243) rfl (by decide)) rm_caller rfl hn I (.cons (.lst ⟨_,hl2⟩ ⟨n,hl⟩ (ints_rd hi)) .nil) fun v Z' s' St r=>?_) (fun qa qb x=>x) fun qa qb x=>x.elim
 cases r
 refine hQ s' ⟨fun b o e=>?_,fun b o e=>?_⟩ St.os St.gens
 ·by_cases hb:isT b
  ·obtain ⟨q,hq,rfl⟩:=hb
   have he:=Y.2.1 q hq
   rw [he] at e; cases e
   obtain ⟨ps,x⟩:=(St.keepT q hq (I.tab q hq).2).obj
   obtain ⟨_,_,ht⟩:=(I.tab q hq).2
   exact .inr (.inl ⟨ht.isCodeTable,rfl,#[],ps,rfl,by rw [x]; simp [emptyT]⟩)
  ·exact .inl (St.keepZ b o ⟨o,hfilter_in hb e⟩ e)
 ·by_cases hb:isT b
  ·obtain ⟨q,hq,rfl⟩:=hb
   obtain ⟨ps,x⟩:=(St.keepT q hq (I.tab q hq).2).obj
   exact ⟨_,x⟩
  ·exact ⟨o,St.keepZ b o ⟨o,hfilter_in hb e⟩ e⟩
end
end Mine
end
noncomputable section
set_option maxRecDepth 100000
namespace Mine
open PySem PySem.W PyProof.Rows
theorem well_list {P:Params} {h:Heap} {l:Addr} {ns:List Int} {vs:List Value} (w1:Well P h (.ref l) (ofPy (.list (ns.map PyData.int)))) (hL:h.IsList l vs.toArray):∃ n,h.get? l=some { cls:=.type "list", data:=.seq vs.toArray n }:=by
 have e:ofPy (.list (ns.map PyData.int))=.list (ofPys (ns.map PyData.int)):=by simp only [ofPy]
 rw [e] at w1
 cases w1 with
 | list h1 h2 =>
  obtain ⟨o,ho,hc,n,hd⟩:=hL
  rw [h1] at ho; cases ho
  cases hd
  exact ⟨_,h1⟩
theorem walk_any {q:Program} {loose:List Str} {XP:(Str→Option Value)→Heap→Prop} {d:DefRec} {kwd:List (Str×Expr)} (hdn:d.name = "law"):WalkO q loose XP hook2.says PySem.Challenge.rw_sx_r111_3.row.toRowW d kwd (fun f vs=>call f vs):=by
 intro w s₀ s₁ mg mb G Y fa o pm cd doc dV kV ho hd hcd hD hmg hg args vals as hpre hlay hrd hwl hlo
 refine Ground.open G ?_
 intro T B D TE TW
 wrow_args hpre hlay hrd hwl hlo
 rename_i ns _ _ _ _ _ _ _ l vs _ hL ra w1 r0 hI hr hc _
 obtain ⟨n,hobj⟩:=well_list w1 hL
 rw [hdn] at hmg
 refine law_walk Y.1 Y.2 T.g T.b T.nolimit T.builtins hmg hobj (by simpa using hI) (by omega) fun s' hk hos hge=>?_
 refine ⟨.inl ⟨.bool true,.bool true,[],rfl,?_,.bool _,?_,?_⟩,hk,hos,hge.bare (.of_eq hg)⟩
 ·intro cls; rfl
 ·exact postW_of (X:=true) (r:=PySem.Challenge.rw_sx_r111_3.row.toRowW) (by first | rfl | decide | simp) (by first | rfl | (with_unfolding_all rfl) | simp) rfl
 ·intro hu; exact ⟨List.Pairwise.nil,fun a ha=>by cases ha⟩
end Mine
end
noncomputable section
set_option maxRecDepth 100000
open PySem PySem.W PyProof.Rows
set_option maxHeartbeats 8000000 in
theorem PySem.Challenge.cw_sx_r111_3_holds : PySem.Challenge.rw_sx_r111_3.Holds := by
 w_on
 o_law
 o_head Mine.hook2
 case hw=>w_witness2
 exact Mine.walk_any rfl
end
