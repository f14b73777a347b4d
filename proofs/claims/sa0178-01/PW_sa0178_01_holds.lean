import PyProof.Rows.All
import Wide.All
import OpenK.AllK
import Wide.FinOn
import Lean
import PySem.Challenge.RW_sa0178_01
open PySem PySem.W PySem.Calls PyProof.Rows
set_option Elab.async false
set_option compiler.extract_closed false
set_option genSizeOf false
set_option genInjectivity false
set_option bootstrap.genMatcherCode false
set_option linter.all false
noncomputable section
namespace Mine
theorem e0a2 {A0 A1 : Prop} {P : Prop} (h : A0 ∧ A1) (k : A0 → A1 → P) : P := k h.1 h.2
theorem e0a3 {A0 A1 A2 : Prop} {P : Prop} (h : A0 ∧ A1 ∧ A2) (k : A0 → A1 → A2 → P) : P := k h.1 h.2.1 h.2.2
theorem e0a4 {A0 A1 A2 A3 : Prop} {P : Prop} (h : A0 ∧ A1 ∧ A2 ∧ A3) (k : A0 → A1 → A2 → A3 → P) : P := k h.1 h.2.1 h.2.2.1 h.2.2.2
theorem e0a5 {A0 A1 A2 A3 A4 : Prop} {P : Prop} (h : A0 ∧ A1 ∧ A2 ∧ A3 ∧ A4) (k : A0 → A1 → A2 → A3 → A4 → P) : P := k h.1 h.2.1 h.2.2.1 h.2.2.2.1 h.2.2.2.2
theorem e0a6 {A0 A1 A2 A3 A4 A5 : Prop} {P : Prop} (h : A0 ∧ A1 ∧ A2 ∧ A3 ∧ A4 ∧ A5) (k : A0 → A1 → A2 → A3 → A4 → A5 → P) : P := k h.1 h.2.1 h.2.2.1 h.2.2.2.1 h.2.2.2.2.1 h.2.2.2.2.2
theorem e0a7 {A0 A1 A2 A3 A4 A5 A6 : Prop} {P : Prop} (h : A0 ∧ A1 ∧ A2 ∧ A3 ∧ A4 ∧ A5 ∧ A6) (k : A0 → A1 → A2 → A3 → A4 → A5 → A6 → P) : P := k h.1 h.2.1 h.2.2.1 h.2.2.2.1 h.2.2.2.2.1 h.2.2.2.2.2.1 h.2.2.2.2.2.2
theorem e0a8 {A0 A1 A2 A3 A4 A5 A6 A7 : Prop} {P : Prop} (h : A0 ∧ A1 ∧ A2 ∧ A3 ∧ A4 ∧ A5 ∧ A6 ∧ A7) (k : A0 → A1 → A2 → A3 → A4 → A5 → A6 → A7 → P) : P := k h.1 h.2.1 h.2.2.1 h.2.2.2.1 h.2.2.2.2.1 h.2.2.2.2.2.1 h.2.2.2.2.2.2.1 h.2.2.2.2.2.2.2
theorem e0a9 {A0 A1 A2 A3 A4 A5 A6 A7 A8 : Prop} {P : Prop} (h : A0 ∧ A1 ∧ A2 ∧ A3 ∧ A4 ∧ A5 ∧ A6 ∧ A7 ∧ A8) (k : A0 → A1 → A2 → A3 → A4 → A5 → A6 → A7 → A8 → P) : P := k h.1 h.2.1 h.2.2.1 h.2.2.2.1 h.2.2.2.2.1 h.2.2.2.2.2.1 h.2.2.2.2.2.2.1 h.2.2.2.2.2.2.2.1 h.2.2.2.2.2.2.2.2
theorem e0a10 {A0 A1 A2 A3 A4 A5 A6 A7 A8 A9 : Prop} {P : Prop} (h : A0 ∧ A1 ∧ A2 ∧ A3 ∧ A4 ∧ A5 ∧ A6 ∧ A7 ∧ A8 ∧ A9) (k : A0 → A1 → A2 → A3 → A4 → A5 → A6 → A7 → A8 → A9 → P) : P := k h.1 h.2.1 h.2.2.1 h.2.2.2.1 h.2.2.2.2.1 h.2.2.2.2.2.1 h.2.2.2.2.2.2.1 h.2.2.2.2.2.2.2.1 h.2.2.2.2.2.2.2.2.1 h.2.2.2.2.2.2.2.2.2
theorem e1a1.{u0} {α : Sort u0} {A0 : α → Prop} {P : Prop} (h : ∃ x0, A0 x0) (k : ∀ x0, A0 x0 → P) : P := h.elim fun x0 h => k x0 h
theorem e1a2.{u0} {α : Sort u0} {A0 A1 : α → Prop} {P : Prop} (h : ∃ x0, A0 x0 ∧ A1 x0) (k : ∀ x0, A0 x0 → A1 x0 → P) : P := h.elim fun x0 h => k x0 h.1 h.2
theorem e1a3.{u0} {α : Sort u0} {A0 A1 A2 : α → Prop} {P : Prop} (h : ∃ x0, A0 x0 ∧ A1 x0 ∧ A2 x0) (k : ∀ x0, A0 x0 → A1 x0 → A2 x0 → P) : P := h.elim fun x0 h => k x0 h.1 h.2.1 h.2.2
theorem e1a4.{u0} {α : Sort u0} {A0 A1 A2 A3 : α → Prop} {P : Prop} (h : ∃ x0, A0 x0 ∧ A1 x0 ∧ A2 x0 ∧ A3 x0) (k : ∀ x0, A0 x0 → A1 x0 → A2 x0 → A3 x0 → P) : P := h.elim fun x0 h => k x0 h.1 h.2.1 h.2.2.1 h.2.2.2
theorem e2a1.{u0, u1} {α : Sort u0} {β : Sort u1} {A0 : α → β → Prop} {P : Prop} (h : ∃ x0 x1, A0 x0 x1) (k : ∀ x0 x1, A0 x0 x1 → P) : P := h.elim fun x0 h => h.elim fun x1 h => k x0 x1 h
theorem e2a2.{u0, u1} {α : Sort u0} {β : Sort u1} {A0 A1 : α → β → Prop} {P : Prop} (h : ∃ x0 x1, A0 x0 x1 ∧ A1 x0 x1) (k : ∀ x0 x1, A0 x0 x1 → A1 x0 x1 → P) : P := h.elim fun x0 h => h.elim fun x1 h => k x0 x1 h.1 h.2
theorem e2a3.{u0, u1} {α : Sort u0} {β : Sort u1} {A0 A1 A2 : α → β → Prop} {P : Prop} (h : ∃ x0 x1, A0 x0 x1 ∧ A1 x0 x1 ∧ A2 x0 x1) (k : ∀ x0 x1, A0 x0 x1 → A1 x0 x1 → A2 x0 x1 → P) : P := h.elim fun x0 h => h.elim fun x1 h => k x0 x1 h.1 h.2.1 h.2.2
theorem e2a4.{u0, u1} {α : Sort u0} {β : Sort u1} {A0 A1 A2 A3 : α → β → Prop} {P : Prop} (h : ∃ x0 x1, A0 x0 x1 ∧ A1 x0 x1 ∧ A2 x0 x1 ∧ A3 x0 x1) (k : ∀ x0 x1, A0 x0 x1 → A1 x0 x1 → A2 x0 x1 → A3 x0 x1 → P) : P := h.elim fun x0 h => h.elim fun x1 h => k x0 x1 h.1 h.2.1 h.2.2.1 h.2.2.2
theorem e2a5.{u0, u1} {α : Sort u0} {β : Sort u1} {A0 A1 A2 A3 A4 : α → β → Prop} {P : Prop} (h : ∃ x0 x1, A0 x0 x1 ∧ A1 x0 x1 ∧ A2 x0 x1 ∧ A3 x0 x1 ∧ A4 x0 x1) (k : ∀ x0 x1, A0 x0 x1 → A1 x0 x1 → A2 x0 x1 → A3 x0 x1 → A4 x0 x1 → P) : P := h.elim fun x0 h => h.elim fun x1 h => k x0 x1 h.1 h.2.1 h.2.2.1 h.2.2.2.1 h.2.2.2.2
theorem e2a6.{u0, u1} {α : Sort u0} {β : Sort u1} {A0 A1 A2 A3 A4 A5 : α → β → Prop} {P : Prop} (h : ∃ x0 x1, A0 x0 x1 ∧ A1 x0 x1 ∧ A2 x0 x1 ∧ A3 x0 x1 ∧ A4 x0 x1 ∧ A5 x0 x1) (k : ∀ x0 x1, A0 x0 x1 → A1 x0 x1 → A2 x0 x1 → A3 x0 x1 → A4 x0 x1 → A5 x0 x1 → P) : P := h.elim fun x0 h => h.elim fun x1 h => k x0 x1 h.1 h.2.1 h.2.2.1 h.2.2.2.1 h.2.2.2.2.1 h.2.2.2.2.2
theorem e2a7.{u0, u1} {α : Sort u0} {β : Sort u1} {A0 A1 A2 A3 A4 A5 A6 : α → β → Prop} {P : Prop} (h : ∃ x0 x1, A0 x0 x1 ∧ A1 x0 x1 ∧ A2 x0 x1 ∧ A3 x0 x1 ∧ A4 x0 x1 ∧ A5 x0 x1 ∧ A6 x0 x1) (k : ∀ x0 x1, A0 x0 x1 → A1 x0 x1 → A2 x0 x1 → A3 x0 x1 → A4 x0 x1 → A5 x0 x1 → A6 x0 x1 → P) : P := h.elim fun x0 h => h.elim fun x1 h => k x0 x1 h.1 h.2.1 h.2.2.1 h.2.2.2.1 h.2.2.2.2.1 h.2.2.2.2.2.1 h.2.2.2.2.2.2
theorem e2a9.{u0, u1} {α : Sort u0} {β : Sort u1} {A0 A1 A2 A3 A4 A5 A6 A7 A8 : α → β → Prop} {P : Prop} (h : ∃ x0 x1, A0 x0 x1 ∧ A1 x0 x1 ∧ A2 x0 x1 ∧ A3 x0 x1 ∧ A4 x0 x1 ∧ A5 x0 x1 ∧ A6 x0 x1 ∧ A7 x0 x1 ∧ A8 x0 x1) (k : ∀ x0 x1, A0 x0 x1 → A1 x0 x1 → A2 x0 x1 → A3 x0 x1 → A4 x0 x1 → A5 x0 x1 → A6 x0 x1 → A7 x0 x1 → A8 x0 x1 → P) : P := h.elim fun x0 h => h.elim fun x1 h => k x0 x1 h.1 h.2.1 h.2.2.1 h.2.2.2.1 h.2.2.2.2.1 h.2.2.2.2.2.1 h.2.2.2.2.2.2.1 h.2.2.2.2.2.2.2.1 h.2.2.2.2.2.2.2.2
theorem e2a13.{u0, u1} {α : Sort u0} {β : Sort u1} {A0 A1 A2 A3 A4 A5 A6 A7 A8 A9 A10 A11 A12 : α → β → Prop} {P : Prop} (h : ∃ x0 x1, A0 x0 x1 ∧ A1 x0 x1 ∧ A2 x0 x1 ∧ A3 x0 x1 ∧ A4 x0 x1 ∧ A5 x0 x1 ∧ A6 x0 x1 ∧ A7 x0 x1 ∧ A8 x0 x1 ∧ A9 x0 x1 ∧ A10 x0 x1 ∧ A11 x0 x1 ∧ A12 x0 x1) (k : ∀ x0 x1, A0 x0 x1 → A1 x0 x1 → A2 x0 x1 → A3 x0 x1 → A4 x0 x1 → A5 x0 x1 → A6 x0 x1 → A7 x0 x1 → A8 x0 x1 → A9 x0 x1 → A10 x0 x1 → A11 x0 x1 → A12 x0 x1 → P) : P := h.elim fun x0 h => h.elim fun x1 h => k x0 x1 h.1 h.2.1 h.2.2.1 h.2.2.2.1 h.2.2.2.2.1 h.2.2.2.2.2.1 h.2.2.2.2.2.2.1 h.2.2.2.2.2.2.2.1 h.2.2.2.2.2.2.2.2.1 h.2.2.2.2.2.2.2.2.2.1 h.2.2.2.2.2.2.2.2.2.2.1 h.2.2.2.2.2.2.2.2.2.2.2.1 h.2.2.2.2.2.2.2.2.2.2.2.2
theorem e3a1.{u0, u1, u2} {α : Sort u0} {β : Sort u1} {γ : Sort u2} {A0 : α → β → γ → Prop} {P : Prop} (h : ∃ x0 x1 x2, A0 x0 x1 x2) (k : ∀ x0 x1 x2, A0 x0 x1 x2 → P) : P := h.elim fun x0 h => h.elim fun x1 h => h.elim fun x2 h => k x0 x1 x2 h
theorem e3a2.{u0, u1, u2} {α : Sort u0} {β : Sort u1} {γ : Sort u2} {A0 A1 : α → β → γ → Prop} {P : Prop} (h : ∃ x0 x1 x2, A0 x0 x1 x2 ∧ A1 x0 x1 x2) (k : ∀ x0 x1 x2, A0 x0 x1 x2 → A1 x0 x1 x2 → P) : P := h.elim fun x0 h => h.elim fun x1 h => h.elim fun x2 h => k x0 x1 x2 h.1 h.2
theorem e3a3.{u0, u1, u2} {α : Sort u0} {β : Sort u1} {γ : Sort u2} {A0 A1 A2 : α → β → γ → Prop} {P : Prop} (h : ∃ x0 x1 x2, A0 x0 x1 x2 ∧ A1 x0 x1 x2 ∧ A2 x0 x1 x2) (k : ∀ x0 x1 x2, A0 x0 x1 x2 → A1 x0 x1 x2 → A2 x0 x1 x2 → P) : P := h.elim fun x0 h => h.elim fun x1 h => h.elim fun x2 h => k x0 x1 x2 h.1 h.2.1 h.2.2
theorem e3a4.{u0, u1, u2} {α : Sort u0} {β : Sort u1} {γ : Sort u2} {A0 A1 A2 A3 : α → β → γ → Prop} {P : Prop} (h : ∃ x0 x1 x2, A0 x0 x1 x2 ∧ A1 x0 x1 x2 ∧ A2 x0 x1 x2 ∧ A3 x0 x1 x2) (k : ∀ x0 x1 x2, A0 x0 x1 x2 → A1 x0 x1 x2 → A2 x0 x1 x2 → A3 x0 x1 x2 → P) : P := h.elim fun x0 h => h.elim fun x1 h => h.elim fun x2 h => k x0 x1 x2 h.1 h.2.1 h.2.2.1 h.2.2.2
theorem e3a5.{u0, u1, u2} {α : Sort u0} {β : Sort u1} {γ : Sort u2} {A0 A1 A2 A3 A4 : α → β → γ → Prop} {P : Prop} (h : ∃ x0 x1 x2, A0 x0 x1 x2 ∧ A1 x0 x1 x2 ∧ A2 x0 x1 x2 ∧ A3 x0 x1 x2 ∧ A4 x0 x1 x2) (k : ∀ x0 x1 x2, A0 x0 x1 x2 → A1 x0 x1 x2 → A2 x0 x1 x2 → A3 x0 x1 x2 → A4 x0 x1 x2 → P) : P := h.elim fun x0 h => h.elim fun x1 h => h.elim fun x2 h => k x0 x1 x2 h.1 h.2.1 h.2.2.1 h.2.2.2.1 h.2.2.2.2
theorem e3a6.{u0, u1, u2} {α : Sort u0} {β : Sort u1} {γ : Sort u2} {A0 A1 A2 A3 A4 A5 : α → β → γ → Prop} {P : Prop} (h : ∃ x0 x1 x2, A0 x0 x1 x2 ∧ A1 x0 x1 x2 ∧ A2 x0 x1 x2 ∧ A3 x0 x1 x2 ∧ A4 x0 x1 x2 ∧ A5 x0 x1 x2) (k : ∀ x0 x1 x2, A0 x0 x1 x2 → A1 x0 x1 x2 → A2 x0 x1 x2 → A3 x0 x1 x2 → A4 x0 x1 x2 → A5 x0 x1 x2 → P) : P := h.elim fun x0 h => h.elim fun x1 h => h.elim fun x2 h => k x0 x1 x2 h.1 h.2.1 h.2.2.1 h.2.2.2.1 h.2.2.2.2.1 h.2.2.2.2.2
theorem e3a7.{u0, u1, u2} {α : Sort u0} {β : Sort u1} {γ : Sort u2} {A0 A1 A2 A3 A4 A5 A6 : α → β → γ → Prop} {P : Prop} (h : ∃ x0 x1 x2, A0 x0 x1 x2 ∧ A1 x0 x1 x2 ∧ A2 x0 x1 x2 ∧ A3 x0 x1 x2 ∧ A4 x0 x1 x2 ∧ A5 x0 x1 x2 ∧ A6 x0 x1 x2) (k : ∀ x0 x1 x2, A0 x0 x1 x2 → A1 x0 x1 x2 → A2 x0 x1 x2 → A3 x0 x1 x2 → A4 x0 x1 x2 → A5 x0 x1 x2 → A6 x0 x1 x2 → P) : P := h.elim fun x0 h => h.elim fun x1 h => h.elim fun x2 h => k x0 x1 x2 h.1 h.2.1 h.2.2.1 h.2.2.2.1 h.2.2.2.2.1 h.2.2.2.2.2.1 h.2.2.2.2.2.2
theorem e3a8.{u0, u1, u2} {α : Sort u0} {β : Sort u1} {γ : Sort u2} {A0 A1 A2 A3 A4 A5 A6 A7 : α → β → γ → Prop} {P : Prop} (h : ∃ x0 x1 x2, A0 x0 x1 x2 ∧ A1 x0 x1 x2 ∧ A2 x0 x1 x2 ∧ A3 x0 x1 x2 ∧ A4 x0 x1 x2 ∧ A5 x0 x1 x2 ∧ A6 x0 x1 x2 ∧ A7 x0 x1 x2) (k : ∀ x0 x1 x2, A0 x0 x1 x2 → A1 x0 x1 x2 → A2 x0 x1 x2 → A3 x0 x1 x2 → A4 x0 x1 x2 → A5 x0 x1 x2 → A6 x0 x1 x2 → A7 x0 x1 x2 → P) : P := h.elim fun x0 h => h.elim fun x1 h => h.elim fun x2 h => k x0 x1 x2 h.1 h.2.1 h.2.2.1 h.2.2.2.1 h.2.2.2.2.1 h.2.2.2.2.2.1 h.2.2.2.2.2.2.1 h.2.2.2.2.2.2.2
theorem e3a9.{u0, u1, u2} {α : Sort u0} {β : Sort u1} {γ : Sort u2} {A0 A1 A2 A3 A4 A5 A6 A7 A8 : α → β → γ → Prop} {P : Prop} (h : ∃ x0 x1 x2, A0 x0 x1 x2 ∧ A1 x0 x1 x2 ∧ A2 x0 x1 x2 ∧ A3 x0 x1 x2 ∧ A4 x0 x1 x2 ∧ A5 x0 x1 x2 ∧ A6 x0 x1 x2 ∧ A7 x0 x1 x2 ∧ A8 x0 x1 x2) (k : ∀ x0 x1 x2, A0 x0 x1 x2 → A1 x0 x1 x2 → A2 x0 x1 x2 → A3 x0 x1 x2 → A4 x0 x1 x2 → A5 x0 x1 x2 → A6 x0 x1 x2 → A7 x0 x1 x2 → A8 x0 x1 x2 → P) : P := h.elim fun x0 h => h.elim fun x1 h => h.elim fun x2 h => k x0 x1 x2 h.1 h.2.1 h.2.2.1 h.2.2.2.1 h.2.2.2.2.1 h.2.2.2.2.2.1 h.2.2.2.2.2.2.1 h.2.2.2.2.2.2.2.1 h.2.2.2.2.2.2.2.2
theorem e4a1.{u0, u1, u2, u3} {α : Sort u0} {β : Sort u1} {γ : Sort u2} {δ : Sort u3} {A0 : α → β → γ → δ → Prop} {P : Prop} (h : ∃ x0 x1 x2 x3, A0 x0 x1 x2 x3) (k : ∀ x0 x1 x2 x3, A0 x0 x1 x2 x3 → P) : P := h.elim fun x0 h => h.elim fun x1 h => h.elim fun x2 h => h.elim fun x3 h => k x0 x1 x2 x3 h
theorem e4a2.{u0, u1, u2, u3} {α : Sort u0} {β : Sort u1} {γ : Sort u2} {δ : Sort u3} {A0 A1 : α → β → γ → δ → Prop} {P : Prop} (h : ∃ x0 x1 x2 x3, A0 x0 x1 x2 x3 ∧ A1 x0 x1 x2 x3) (k : ∀ x0 x1 x2 x3, A0 x0 x1 x2 x3 → A1 x0 x1 x2 x3 → P) : P := h.elim fun x0 h => h.elim fun x1 h => h.elim fun x2 h => h.elim fun x3 h => k x0 x1 x2 x3 h.1 h.2
theorem e4a3.{u0, u1, u2, u3} {α : Sort u0} {β : Sort u1} {γ : Sort u2} {δ : Sort u3} {A0 A1 A2 : α → β → γ → δ → Prop} {P : Prop} (h : ∃ x0 x1 x2 x3, A0 x0 x1 x2 x3 ∧ A1 x0 x1 x2 x3 ∧ A2 x0 x1 x2 x3) (k : ∀ x0 x1 x2 x3, A0 x0 x1 x2 x3 → A1 x0 x1 x2 x3 → A2 x0 x1 x2 x3 → P) : P := h.elim fun x0 h => h.elim fun x1 h => h.elim fun x2 h => h.elim fun x3 h => k x0 x1 x2 x3 h.1 h.2.1 h.2.2
theorem e4a4.{u0, u1, u2, u3} {α : Sort u0} {β : Sort u1} {γ : Sort u2} {δ : Sort u3} {A0 A1 A2 A3 : α → β → γ → δ → Prop} {P : Prop} (h : ∃ x0 x1 x2 x3, A0 x0 x1 x2 x3 ∧ A1 x0 x1 x2 x3 ∧ A2 x0 x1 x2 x3 ∧ A3 x0 x1 x2 x3) (k : ∀ x0 x1 x2 x3, A0 x0 x1 x2 x3 → A1 x0 x1 x2 x3 → A2 x0 x1 x2 x3 → A3 x0 x1 x2 x3 → P) : P := h.elim fun x0 h => h.elim fun x1 h => h.elim fun x2 h => h.elim fun x3 h => k x0 x1 x2 x3 h.1 h.2.1 h.2.2.1 h.2.2.2
theorem e4a5.{u0, u1, u2, u3} {α : Sort u0} {β : Sort u1} {γ : Sort u2} {δ : Sort u3} {A0 A1 A2 A3 A4 : α → β → γ → δ → Prop} {P : Prop} (h : ∃ x0 x1 x2 x3, A0 x0 x1 x2 x3 ∧ A1 x0 x1 x2 x3 ∧ A2 x0 x1 x2 x3 ∧ A3 x0 x1 x2 x3 ∧ A4 x0 x1 x2 x3) (k : ∀ x0 x1 x2 x3, A0 x0 x1 x2 x3 → A1 x0 x1 x2 x3 → A2 x0 x1 x2 x3 → A3 x0 x1 x2 x3 → A4 x0 x1 x2 x3 → P) : P := h.elim fun x0 h => h.elim fun x1 h => h.elim fun x2 h => h.elim fun x3 h => k x0 x1 x2 x3 h.1 h.2.1 h.2.2.1 h.2.2.2.1 h.2.2.2.2
theorem e4a6.{u0, u1, u2, u3} {α : Sort u0} {β : Sort u1} {γ : Sort u2} {δ : Sort u3} {A0 A1 A2 A3 A4 A5 : α → β → γ → δ → Prop} {P : Prop} (h : ∃ x0 x1 x2 x3, A0 x0 x1 x2 x3 ∧ A1 x0 x1 x2 x3 ∧ A2 x0 x1 x2 x3 ∧ A3 x0 x1 x2 x3 ∧ A4 x0 x1 x2 x3 ∧ A5 x0 x1 x2 x3) (k : ∀ x0 x1 x2 x3, A0 x0 x1 x2 x3 → A1 x0 x1 x2 x3 → A2 x0 x1 x2 x3 → A3 x0 x1 x2 x3 → A4 x0 x1 x2 x3 → A5 x0 x1 x2 x3 → P) : P := h.elim fun x0 h => h.elim fun x1 h => h.elim fun x2 h => h.elim fun x3 h => k x0 x1 x2 x3 h.1 h.2.1 h.2.2.1 h.2.2.2.1 h.2.2.2.2.1 h.2.2.2.2.2
theorem e4a7.{u0, u1, u2, u3} {α : Sort u0} {β : Sort u1} {γ : Sort u2} {δ : Sort u3} {A0 A1 A2 A3 A4 A5 A6 : α → β → γ → δ → Prop} {P : Prop} (h : ∃ x0 x1 x2 x3, A0 x0 x1 x2 x3 ∧ A1 x0 x1 x2 x3 ∧ A2 x0 x1 x2 x3 ∧ A3 x0 x1 x2 x3 ∧ A4 x0 x1 x2 x3 ∧ A5 x0 x1 x2 x3 ∧ A6 x0 x1 x2 x3) (k : ∀ x0 x1 x2 x3, A0 x0 x1 x2 x3 → A1 x0 x1 x2 x3 → A2 x0 x1 x2 x3 → A3 x0 x1 x2 x3 → A4 x0 x1 x2 x3 → A5 x0 x1 x2 x3 → A6 x0 x1 x2 x3 → P) : P := h.elim fun x0 h => h.elim fun x1 h => h.elim fun x2 h => h.elim fun x3 h => k x0 x1 x2 x3 h.1 h.2.1 h.2.2.1 h.2.2.2.1 h.2.2.2.2.1 h.2.2.2.2.2.1 h.2.2.2.2.2.2
theorem e4a8.{u0, u1, u2, u3} {α : Sort u0} {β : Sort u1} {γ : Sort u2} {δ : Sort u3} {A0 A1 A2 A3 A4 A5 A6 A7 : α → β → γ → δ → Prop} {P : Prop} (h : ∃ x0 x1 x2 x3, A0 x0 x1 x2 x3 ∧ A1 x0 x1 x2 x3 ∧ A2 x0 x1 x2 x3 ∧ A3 x0 x1 x2 x3 ∧ A4 x0 x1 x2 x3 ∧ A5 x0 x1 x2 x3 ∧ A6 x0 x1 x2 x3 ∧ A7 x0 x1 x2 x3) (k : ∀ x0 x1 x2 x3, A0 x0 x1 x2 x3 → A1 x0 x1 x2 x3 → A2 x0 x1 x2 x3 → A3 x0 x1 x2 x3 → A4 x0 x1 x2 x3 → A5 x0 x1 x2 x3 → A6 x0 x1 x2 x3 → A7 x0 x1 x2 x3 → P) : P := h.elim fun x0 h => h.elim fun x1 h => h.elim fun x2 h => h.elim fun x3 h => k x0 x1 x2 x3 h.1 h.2.1 h.2.2.1 h.2.2.2.1 h.2.2.2.2.1 h.2.2.2.2.2.1 h.2.2.2.2.2.2.1 h.2.2.2.2.2.2.2
theorem e4a13.{u0, u1, u2, u3} {α : Sort u0} {β : Sort u1} {γ : Sort u2} {δ : Sort u3} {A0 A1 A2 A3 A4 A5 A6 A7 A8 A9 A10 A11 A12 : α → β → γ → δ → Prop} {P : Prop} (h : ∃ x0 x1 x2 x3, A0 x0 x1 x2 x3 ∧ A1 x0 x1 x2 x3 ∧ A2 x0 x1 x2 x3 ∧ A3 x0 x1 x2 x3 ∧ A4 x0 x1 x2 x3 ∧ A5 x0 x1 x2 x3 ∧ A6 x0 x1 x2 x3 ∧ A7 x0 x1 x2 x3 ∧ A8 x0 x1 x2 x3 ∧ A9 x0 x1 x2 x3 ∧ A10 x0 x1 x2 x3 ∧ A11 x0 x1 x2 x3 ∧ A12 x0 x1 x2 x3) (k : ∀ x0 x1 x2 x3, A0 x0 x1 x2 x3 → A1 x0 x1 x2 x3 → A2 x0 x1 x2 x3 → A3 x0 x1 x2 x3 → A4 x0 x1 x2 x3 → A5 x0 x1 x2 x3 → A6 x0 x1 x2 x3 → A7 x0 x1 x2 x3 → A8 x0 x1 x2 x3 → A9 x0 x1 x2 x3 → A10 x0 x1 x2 x3 → A11 x0 x1 x2 x3 → A12 x0 x1 x2 x3 → P) : P := h.elim fun x0 h => h.elim fun x1 h => h.elim fun x2 h => h.elim fun x3 h => k x0 x1 x2 x3 h.1 h.2.1 h.2.2.1 h.2.2.2.1 h.2.2.2.2.1 h.2.2.2.2.2.1 h.2.2.2.2.2.2.1 h.2.2.2.2.2.2.2.1 h.2.2.2.2.2.2.2.2.1 h.2.2.2.2.2.2.2.2.2.1 h.2.2.2.2.2.2.2.2.2.2.1 h.2.2.2.2.2.2.2.2.2.2.2.1 h.2.2.2.2.2.2.2.2.2.2.2.2
theorem e5a3.{u0, u1, u2, u3, u4} {α : Sort u0} {β : Sort u1} {γ : Sort u2} {δ : Sort u3} {ε : Sort u4} {A0 A1 A2 : α → β → γ → δ → ε → Prop} {P : Prop} (h : ∃ x0 x1 x2 x3 x4, A0 x0 x1 x2 x3 x4 ∧ A1 x0 x1 x2 x3 x4 ∧ A2 x0 x1 x2 x3 x4) (k : ∀ x0 x1 x2 x3 x4, A0 x0 x1 x2 x3 x4 → A1 x0 x1 x2 x3 x4 → A2 x0 x1 x2 x3 x4 → P) : P := h.elim fun x0 h => h.elim fun x1 h => h.elim fun x2 h => h.elim fun x3 h => h.elim fun x4 h => k x0 x1 x2 x3 x4 h.1 h.2.1 h.2.2
theorem e5a4.{u0, u1, u2, u3, u4} {α : Sort u0} {β : Sort u1} {γ : Sort u2} {δ : Sort u3} {ε : Sort u4} {A0 A1 A2 A3 : α → β → γ → δ → ε → Prop} {P : Prop} (h : ∃ x0 x1 x2 x3 x4, A0 x0 x1 x2 x3 x4 ∧ A1 x0 x1 x2 x3 x4 ∧ A2 x0 x1 x2 x3 x4 ∧ A3 x0 x1 x2 x3 x4) (k : ∀ x0 x1 x2 x3 x4, A0 x0 x1 x2 x3 x4 → A1 x0 x1 x2 x3 x4 → A2 x0 x1 x2 x3 x4 → A3 x0 x1 x2 x3 x4 → P) : P := h.elim fun x0 h => h.elim fun x1 h => h.elim fun x2 h => h.elim fun x3 h => h.elim fun x4 h => k x0 x1 x2 x3 x4 h.1 h.2.1 h.2.2.1 h.2.2.2
theorem e5a5.{u0, u1, u2, u3, u4} {α : Sort u0} {β : Sort u1} {γ : Sort u2} {δ : Sort u3} {ε : Sort u4} {A0 A1 A2 A3 A4 : α → β → γ → δ → ε → Prop} {P : Prop} (h : ∃ x0 x1 x2 x3 x4, A0 x0 x1 x2 x3 x4 ∧ A1 x0 x1 x2 x3 x4 ∧ A2 x0 x1 x2 x3 x4 ∧ A3 x0 x1 x2 x3 x4 ∧ A4 x0 x1 x2 x3 x4) (k : ∀ x0 x1 x2 x3 x4, A0 x0 x1 x2 x3 x4 → A1 x0 x1 x2 x3 x4 → A2 x0 x1 x2 x3 x4 → A3 x0 x1 x2 x3 x4 → A4 x0 x1 x2 x3 x4 → P) : P := h.elim fun x0 h => h.elim fun x1 h => h.elim fun x2 h => h.elim fun x3 h => h.elim fun x4 h => k x0 x1 x2 x3 x4 h.1 h.2.1 h.2.2.1 h.2.2.2.1 h.2.2.2.2
theorem e5a7.{u0, u1, u2, u3, u4} {α : Sort u0} {β : Sort u1} {γ : Sort u2} {δ : Sort u3} {ε : Sort u4} {A0 A1 A2 A3 A4 A5 A6 : α → β → γ → δ → ε → Prop} {P : Prop} (h : ∃ x0 x1 x2 x3 x4, A0 x0 x1 x2 x3 x4 ∧ A1 x0 x1 x2 x3 x4 ∧ A2 x0 x1 x2 x3 x4 ∧ A3 x0 x1 x2 x3 x4 ∧ A4 x0 x1 x2 x3 x4 ∧ A5 x0 x1 x2 x3 x4 ∧ A6 x0 x1 x2 x3 x4) (k : ∀ x0 x1 x2 x3 x4, A0 x0 x1 x2 x3 x4 → A1 x0 x1 x2 x3 x4 → A2 x0 x1 x2 x3 x4 → A3 x0 x1 x2 x3 x4 → A4 x0 x1 x2 x3 x4 → A5 x0 x1 x2 x3 x4 → A6 x0 x1 x2 x3 x4 → P) : P := h.elim fun x0 h => h.elim fun x1 h => h.elim fun x2 h => h.elim fun x3 h => h.elim fun x4 h => k x0 x1 x2 x3 x4 h.1 h.2.1 h.2.2.1 h.2.2.2.1 h.2.2.2.2.1 h.2.2.2.2.2.1 h.2.2.2.2.2.2
theorem e6a4.{u0, u1, u2, u3, u4, u5} {α : Sort u0} {β : Sort u1} {γ : Sort u2} {δ : Sort u3} {ε : Sort u4} {ζ : Sort u5} {A0 A1 A2 A3 : α → β → γ → δ → ε → ζ → Prop} {P : Prop} (h : ∃ x0 x1 x2 x3 x4 x5, A0 x0 x1 x2 x3 x4 x5 ∧ A1 x0 x1 x2 x3 x4 x5 ∧ A2 x0 x1 x2 x3 x4 x5 ∧ A3 x0 x1 x2 x3 x4 x5) (k : ∀ x0 x1 x2 x3 x4 x5, A0 x0 x1 x2 x3 x4 x5 → A1 x0 x1 x2 x3 x4 x5 → A2 x0 x1 x2 x3 x4 x5 → A3 x0 x1 x2 x3 x4 x5 → P) : P := h.elim fun x0 h => h.elim fun x1 h => h.elim fun x2 h => h.elim fun x3 h => h.elim fun x4 h => h.elim fun x5 h => k x0 x1 x2 x3 x4 x5 h.1 h.2.1 h.2.2.1 h.2.2.2
theorem e6a9.{u0, u1, u2, u3, u4, u5} {α : Sort u0} {β : Sort u1} {γ : Sort u2} {δ : Sort u3} {ε : Sort u4} {ζ : Sort u5} {A0 A1 A2 A3 A4 A5 A6 A7 A8 : α → β → γ → δ → ε → ζ → Prop} {P : Prop} (h : ∃ x0 x1 x2 x3 x4 x5, A0 x0 x1 x2 x3 x4 x5 ∧ A1 x0 x1 x2 x3 x4 x5 ∧ A2 x0 x1 x2 x3 x4 x5 ∧ A3 x0 x1 x2 x3 x4 x5 ∧ A4 x0 x1 x2 x3 x4 x5 ∧ A5 x0 x1 x2 x3 x4 x5 ∧ A6 x0 x1 x2 x3 x4 x5 ∧ A7 x0 x1 x2 x3 x4 x5 ∧ A8 x0 x1 x2 x3 x4 x5) (k : ∀ x0 x1 x2 x3 x4 x5, A0 x0 x1 x2 x3 x4 x5 → A1 x0 x1 x2 x3 x4 x5 → A2 x0 x1 x2 x3 x4 x5 → A3 x0 x1 x2 x3 x4 x5 → A4 x0 x1 x2 x3 x4 x5 → A5 x0 x1 x2 x3 x4 x5 → A6 x0 x1 x2 x3 x4 x5 → A7 x0 x1 x2 x3 x4 x5 → A8 x0 x1 x2 x3 x4 x5 → P) : P := h.elim fun x0 h => h.elim fun x1 h => h.elim fun x2 h => h.elim fun x3 h => h.elim fun x4 h => h.elim fun x5 h => k x0 x1 x2 x3 x4 x5 h.1 h.2.1 h.2.2.1 h.2.2.2.1 h.2.2.2.2.1 h.2.2.2.2.2.1 h.2.2.2.2.2.2.1 h.2.2.2.2.2.2.2.1 h.2.2.2.2.2.2.2.2
theorem e6a12.{u0, u1, u2, u3, u4, u5} {α : Sort u0} {β : Sort u1} {γ : Sort u2} {δ : Sort u3} {ε : Sort u4} {ζ : Sort u5} {A0 A1 A2 A3 A4 A5 A6 A7 A8 A9 A10 A11 : α → β → γ → δ → ε → ζ → Prop} {P : Prop} (h : ∃ x0 x1 x2 x3 x4 x5, A0 x0 x1 x2 x3 x4 x5 ∧ A1 x0 x1 x2 x3 x4 x5 ∧ A2 x0 x1 x2 x3 x4 x5 ∧ A3 x0 x1 x2 x3 x4 x5 ∧ A4 x0 x1 x2 x3 x4 x5 ∧ A5 x0 x1 x2 x3 x4 x5 ∧ A6 x0 x1 x2 x3 x4 x5 ∧ A7 x0 x1 x2 x3 x4 x5 ∧ A8 x0 x1 x2 x3 x4 x5 ∧ A9 x0 x1 x2 x3 x4 x5 ∧ A10 x0 x1 x2 x3 x4 x5 ∧ A11 x0 x1 x2 x3 x4 x5) (k : ∀ x0 x1 x2 x3 x4 x5, A0 x0 x1 x2 x3 x4 x5 → A1 x0 x1 x2 x3 x4 x5 → A2 x0 x1 x2 x3 x4 x5 → A3 x0 x1 x2 x3 x4 x5 → A4 x0 x1 x2 x3 x4 x5 → A5 x0 x1 x2 x3 x4 x5 → A6 x0 x1 x2 x3 x4 x5 → A7 x0 x1 x2 x3 x4 x5 → A8 x0 x1 x2 x3 x4 x5 → A9 x0 x1 x2 x3 x4 x5 → A10 x0 x1 x2 x3 x4 x5 → A11 x0 x1 x2 x3 x4 x5 → P) : P := h.elim fun x0 h => h.elim fun x1 h => h.elim fun x2 h => h.elim fun x3 h => h.elim fun x4 h => h.elim fun x5 h => k x0 x1 x2 x3 x4 x5 h.1 h.2.1 h.2.2.1 h.2.2.2.1 h.2.2.2.2.1 h.2.2.2.2.2.1 h.2.2.2.2.2.2.1 h.2.2.2.2.2.2.2.1 h.2.2.2.2.2.2.2.2.1 h.2.2.2.2.2.2.2.2.2.1 h.2.2.2.2.2.2.2.2.2.2.1 h.2.2.2.2.2.2.2.2.2.2.2
theorem e7a5.{u0, u1, u2, u3, u4, u5, u6} {α : Sort u0} {β : Sort u1} {γ : Sort u2} {δ : Sort u3} {ε : Sort u4} {ζ : Sort u5} {η : Sort u6} {A0 A1 A2 A3 A4 : α → β → γ → δ → ε → ζ → η → Prop} {P : Prop} (h : ∃ x0 x1 x2 x3 x4 x5 x6, A0 x0 x1 x2 x3 x4 x5 x6 ∧ A1 x0 x1 x2 x3 x4 x5 x6 ∧ A2 x0 x1 x2 x3 x4 x5 x6 ∧ A3 x0 x1 x2 x3 x4 x5 x6 ∧ A4 x0 x1 x2 x3 x4 x5 x6) (k : ∀ x0 x1 x2 x3 x4 x5 x6, A0 x0 x1 x2 x3 x4 x5 x6 → A1 x0 x1 x2 x3 x4 x5 x6 → A2 x0 x1 x2 x3 x4 x5 x6 → A3 x0 x1 x2 x3 x4 x5 x6 → A4 x0 x1 x2 x3 x4 x5 x6 → P) : P := h.elim fun x0 h => h.elim fun x1 h => h.elim fun x2 h => h.elim fun x3 h => h.elim fun x4 h => h.elim fun x5 h => h.elim fun x6 h => k x0 x1 x2 x3 x4 x5 x6 h.1 h.2.1 h.2.2.1 h.2.2.2.1 h.2.2.2.2
theorem e7a6.{u0, u1, u2, u3, u4, u5, u6} {α : Sort u0} {β : Sort u1} {γ : Sort u2} {δ : Sort u3} {ε : Sort u4} {ζ : Sort u5} {η : Sort u6} {A0 A1 A2 A3 A4 A5 : α → β → γ → δ → ε → ζ → η → Prop} {P : Prop} (h : ∃ x0 x1 x2 x3 x4 x5 x6, A0 x0 x1 x2 x3 x4 x5 x6 ∧ A1 x0 x1 x2 x3 x4 x5 x6 ∧ A2 x0 x1 x2 x3 x4 x5 x6 ∧ A3 x0 x1 x2 x3 x4 x5 x6 ∧ A4 x0 x1 x2 x3 x4 x5 x6 ∧ A5 x0 x1 x2 x3 x4 x5 x6) (k : ∀ x0 x1 x2 x3 x4 x5 x6, A0 x0 x1 x2 x3 x4 x5 x6 → A1 x0 x1 x2 x3 x4 x5 x6 → A2 x0 x1 x2 x3 x4 x5 x6 → A3 x0 x1 x2 x3 x4 x5 x6 → A4 x0 x1 x2 x3 x4 x5 x6 → A5 x0 x1 x2 x3 x4 x5 x6 → P) : P := h.elim fun x0 h => h.elim fun x1 h => h.elim fun x2 h => h.elim fun x3 h => h.elim fun x4 h => h.elim fun x5 h => h.elim fun x6 h => k x0 x1 x2 x3 x4 x5 x6 h.1 h.2.1 h.2.2.1 h.2.2.2.1 h.2.2.2.2.1 h.2.2.2.2.2
theorem e7a7.{u0, u1, u2, u3, u4, u5, u6} {α : Sort u0} {β : Sort u1} {γ : Sort u2} {δ : Sort u3} {ε : Sort u4} {ζ : Sort u5} {η : Sort u6} {A0 A1 A2 A3 A4 A5 A6 : α → β → γ → δ → ε → ζ → η → Prop} {P : Prop} (h : ∃ x0 x1 x2 x3 x4 x5 x6, A0 x0 x1 x2 x3 x4 x5 x6 ∧ A1 x0 x1 x2 x3 x4 x5 x6 ∧ A2 x0 x1 x2 x3 x4 x5 x6 ∧ A3 x0 x1 x2 x3 x4 x5 x6 ∧ A4 x0 x1 x2 x3 x4 x5 x6 ∧ A5 x0 x1 x2 x3 x4 x5 x6 ∧ A6 x0 x1 x2 x3 x4 x5 x6) (k : ∀ x0 x1 x2 x3 x4 x5 x6, A0 x0 x1 x2 x3 x4 x5 x6 → A1 x0 x1 x2 x3 x4 x5 x6 → A2 x0 x1 x2 x3 x4 x5 x6 → A3 x0 x1 x2 x3 x4 x5 x6 → A4 x0 x1 x2 x3 x4 x5 x6 → A5 x0 x1 x2 x3 x4 x5 x6 → A6 x0 x1 x2 x3 x4 x5 x6 → P) : P := h.elim fun x0 h => h.elim fun x1 h => h.elim fun x2 h => h.elim fun x3 h => h.elim fun x4 h => h.elim fun x5 h => h.elim fun x6 h => k x0 x1 x2 x3 x4 x5 x6 h.1 h.2.1 h.2.2.1 h.2.2.2.1 h.2.2.2.2.1 h.2.2.2.2.2.1 h.2.2.2.2.2.2
theorem e7a8.{u0, u1, u2, u3, u4, u5, u6} {α : Sort u0} {β : Sort u1} {γ : Sort u2} {δ : Sort u3} {ε : Sort u4} {ζ : Sort u5} {η : Sort u6} {A0 A1 A2 A3 A4 A5 A6 A7 : α → β → γ → δ → ε → ζ → η → Prop} {P : Prop} (h : ∃ x0 x1 x2 x3 x4 x5 x6, A0 x0 x1 x2 x3 x4 x5 x6 ∧ A1 x0 x1 x2 x3 x4 x5 x6 ∧ A2 x0 x1 x2 x3 x4 x5 x6 ∧ A3 x0 x1 x2 x3 x4 x5 x6 ∧ A4 x0 x1 x2 x3 x4 x5 x6 ∧ A5 x0 x1 x2 x3 x4 x5 x6 ∧ A6 x0 x1 x2 x3 x4 x5 x6 ∧ A7 x0 x1 x2 x3 x4 x5 x6) (k : ∀ x0 x1 x2 x3 x4 x5 x6, A0 x0 x1 x2 x3 x4 x5 x6 → A1 x0 x1 x2 x3 x4 x5 x6 → A2 x0 x1 x2 x3 x4 x5 x6 → A3 x0 x1 x2 x3 x4 x5 x6 → A4 x0 x1 x2 x3 x4 x5 x6 → A5 x0 x1 x2 x3 x4 x5 x6 → A6 x0 x1 x2 x3 x4 x5 x6 → A7 x0 x1 x2 x3 x4 x5 x6 → P) : P := h.elim fun x0 h => h.elim fun x1 h => h.elim fun x2 h => h.elim fun x3 h => h.elim fun x4 h => h.elim fun x5 h => h.elim fun x6 h => k x0 x1 x2 x3 x4 x5 x6 h.1 h.2.1 h.2.2.1 h.2.2.2.1 h.2.2.2.2.1 h.2.2.2.2.2.1 h.2.2.2.2.2.2.1 h.2.2.2.2.2.2.2
theorem e8a10.{u0, u1, u2, u3, u4, u5, u6, u7} {α : Sort u0} {β : Sort u1} {γ : Sort u2} {δ : Sort u3} {ε : Sort u4} {ζ : Sort u5} {η : Sort u6} {θ : Sort u7} {A0 A1 A2 A3 A4 A5 A6 A7 A8 A9 : α → β → γ → δ → ε → ζ → η → θ → Prop} {P : Prop} (h : ∃ x0 x1 x2 x3 x4 x5 x6 x7, A0 x0 x1 x2 x3 x4 x5 x6 x7 ∧ A1 x0 x1 x2 x3 x4 x5 x6 x7 ∧ A2 x0 x1 x2 x3 x4 x5 x6 x7 ∧ A3 x0 x1 x2 x3 x4 x5 x6 x7 ∧ A4 x0 x1 x2 x3 x4 x5 x6 x7 ∧ A5 x0 x1 x2 x3 x4 x5 x6 x7 ∧ A6 x0 x1 x2 x3 x4 x5 x6 x7 ∧ A7 x0 x1 x2 x3 x4 x5 x6 x7 ∧ A8 x0 x1 x2 x3 x4 x5 x6 x7 ∧ A9 x0 x1 x2 x3 x4 x5 x6 x7) (k : ∀ x0 x1 x2 x3 x4 x5 x6 x7, A0 x0 x1 x2 x3 x4 x5 x6 x7 → A1 x0 x1 x2 x3 x4 x5 x6 x7 → A2 x0 x1 x2 x3 x4 x5 x6 x7 → A3 x0 x1 x2 x3 x4 x5 x6 x7 → A4 x0 x1 x2 x3 x4 x5 x6 x7 → A5 x0 x1 x2 x3 x4 x5 x6 x7 → A6 x0 x1 x2 x3 x4 x5 x6 x7 → A7 x0 x1 x2 x3 x4 x5 x6 x7 → A8 x0 x1 x2 x3 x4 x5 x6 x7 → A9 x0 x1 x2 x3 x4 x5 x6 x7 → P) : P := h.elim fun x0 h => h.elim fun x1 h => h.elim fun x2 h => h.elim fun x3 h => h.elim fun x4 h => h.elim fun x5 h => h.elim fun x6 h => h.elim fun x7 h => k x0 x1 x2 x3 x4 x5 x6 x7 h.1 h.2.1 h.2.2.1 h.2.2.2.1 h.2.2.2.2.1 h.2.2.2.2.2.1 h.2.2.2.2.2.2.1 h.2.2.2.2.2.2.2.1 h.2.2.2.2.2.2.2.2.1 h.2.2.2.2.2.2.2.2.2
theorem e8a13.{u0, u1, u2, u3, u4, u5, u6, u7} {α : Sort u0} {β : Sort u1} {γ : Sort u2} {δ : Sort u3} {ε : Sort u4} {ζ : Sort u5} {η : Sort u6} {θ : Sort u7} {A0 A1 A2 A3 A4 A5 A6 A7 A8 A9 A10 A11 A12 : α → β → γ → δ → ε → ζ → η → θ → Prop} {P : Prop} (h : ∃ x0 x1 x2 x3 x4 x5 x6 x7, A0 x0 x1 x2 x3 x4 x5 x6 x7 ∧ A1 x0 x1 x2 x3 x4 x5 x6 x7 ∧ A2 x0 x1 x2 x3 x4 x5 x6 x7 ∧ A3 x0 x1 x2 x3 x4 x5 x6 x7 ∧ A4 x0 x1 x2 x3 x4 x5 x6 x7 ∧ A5 x0 x1 x2 x3 x4 x5 x6 x7 ∧ A6 x0 x1 x2 x3 x4 x5 x6 x7 ∧ A7 x0 x1 x2 x3 x4 x5 x6 x7 ∧ A8 x0 x1 x2 x3 x4 x5 x6 x7 ∧ A9 x0 x1 x2 x3 x4 x5 x6 x7 ∧ A10 x0 x1 x2 x3 x4 x5 x6 x7 ∧ A11 x0 x1 x2 x3 x4 x5 x6 x7 ∧ A12 x0 x1 x2 x3 x4 x5 x6 x7) (k : ∀ x0 x1 x2 x3 x4 x5 x6 x7, A0 x0 x1 x2 x3 x4 x5 x6 x7 → A1 x0 x1 x2 x3 x4 x5 x6 x7 → A2 x0 x1 x2 x3 x4 x5 x6 x7 → A3 x0 x1 x2 x3 x4 x5 x6 x7 → A4 x0 x1 x2 x3 x4 x5 x6 x7 → A5 x0 x1 x2 x3 x4 x5 x6 x7 → A6 x0 x1 x2 x3 x4 x5 x6 x7 → A7 x0 x1 x2 x3 x4 x5 x6 x7 → A8 x0 x1 x2 x3 x4 x5 x6 x7 → A9 x0 x1 x2 x3 x4 x5 x6 x7 → A10 x0 x1 x2 x3 x4 x5 x6 x7 → A11 x0 x1 x2 x3 x4 x5 x6 x7 → A12 x0 x1 x2 x3 x4 x5 x6 x7 → P) : P := h.elim fun x0 h => h.elim fun x1 h => h.elim fun x2 h => h.elim fun x3 h => h.elim fun x4 h => h.elim fun x5 h => h.elim fun x6 h => h.elim fun x7 h => k x0 x1 x2 x3 x4 x5 x6 x7 h.1 h.2.1 h.2.2.1 h.2.2.2.1 h.2.2.2.2.1 h.2.2.2.2.2.1 h.2.2.2.2.2.2.1 h.2.2.2.2.2.2.2.1 h.2.2.2.2.2.2.2.2.1 h.2.2.2.2.2.2.2.2.2.1 h.2.2.2.2.2.2.2.2.2.2.1 h.2.2.2.2.2.2.2.2.2.2.2.1 h.2.2.2.2.2.2.2.2.2.2.2.2
theorem e9a9.{u0, u1, u2, u3, u4, u5, u6, u7, u8} {α : Sort u0} {β : Sort u1} {γ : Sort u2} {δ : Sort u3} {ε : Sort u4} {ζ : Sort u5} {η : Sort u6} {θ : Sort u7} {ι : Sort u8} {A0 A1 A2 A3 A4 A5 A6 A7 A8 : α → β → γ → δ → ε → ζ → η → θ → ι → Prop} {P : Prop} (h : ∃ x0 x1 x2 x3 x4 x5 x6 x7 x8, A0 x0 x1 x2 x3 x4 x5 x6 x7 x8 ∧ A1 x0 x1 x2 x3 x4 x5 x6 x7 x8 ∧ A2 x0 x1 x2 x3 x4 x5 x6 x7 x8 ∧ A3 x0 x1 x2 x3 x4 x5 x6 x7 x8 ∧ A4 x0 x1 x2 x3 x4 x5 x6 x7 x8 ∧ A5 x0 x1 x2 x3 x4 x5 x6 x7 x8 ∧ A6 x0 x1 x2 x3 x4 x5 x6 x7 x8 ∧ A7 x0 x1 x2 x3 x4 x5 x6 x7 x8 ∧ A8 x0 x1 x2 x3 x4 x5 x6 x7 x8) (k : ∀ x0 x1 x2 x3 x4 x5 x6 x7 x8, A0 x0 x1 x2 x3 x4 x5 x6 x7 x8 → A1 x0 x1 x2 x3 x4 x5 x6 x7 x8 → A2 x0 x1 x2 x3 x4 x5 x6 x7 x8 → A3 x0 x1 x2 x3 x4 x5 x6 x7 x8 → A4 x0 x1 x2 x3 x4 x5 x6 x7 x8 → A5 x0 x1 x2 x3 x4 x5 x6 x7 x8 → A6 x0 x1 x2 x3 x4 x5 x6 x7 x8 → A7 x0 x1 x2 x3 x4 x5 x6 x7 x8 → A8 x0 x1 x2 x3 x4 x5 x6 x7 x8 → P) : P := h.elim fun x0 h => h.elim fun x1 h => h.elim fun x2 h => h.elim fun x3 h => h.elim fun x4 h => h.elim fun x5 h => h.elim fun x6 h => h.elim fun x7 h => h.elim fun x8 h => k x0 x1 x2 x3 x4 x5 x6 x7 x8 h.1 h.2.1 h.2.2.1 h.2.2.2.1 h.2.2.2.2.1 h.2.2.2.2.2.1 h.2.2.2.2.2.2.1 h.2.2.2.2.2.2.2.1 h.2.2.2.2.2.2.2.2
end Mine
namespace Mine
/-- the goal, out of sight for a while: what is taken apart meanwhile costs little -/
theorem hideG {p : Prop} (h : ∀ P : Prop, (p → P) → P) : p := h p id

/-- a stop on the way: what is within is not looked at -/
structure Hold (p : Prop) : Prop where
  out : p

/-! values with their tokens struck -/
noncomputable def norm : Value → Value
  | .int i _ => .int i 0
  | .str x _ => .str x 0
  | .float b _ => .float b 0
  | .bytes b _ => .bytes b 0
  | v => v
noncomputable abbrev vi (i : Int) : Value := .int i 0
noncomputable abbrev vb (b : Bool) : Value := .bool b

theorem no_some {α : Type} {a : α} {P : Prop} (h : none = some a) : P := by cases h
theorem tf {P : Prop} (h : true = false) : P := Bool.noConfusion h
theorem no_isSome {α : Type} {P : Prop} (h : (none : Option α).isSome = true) : P := Bool.noConfusion h
theorem lt_of_norm {v : Value} {i : Int} {t : Tok} (h : norm v = .int i t) : ∃ u, v = .int i u := by
  cases v <;> first | exact Value.noConfusion h | (cases h; exact ⟨_, rfl⟩)
theorem norm_int {v : Value} {i : Int} (h : norm v = .int i 0) : ∃ t, v = .int i t := lt_of_norm h
theorem norm_str {v : Value} {x : Str} (h : norm v = .str x 0) : ∃ t, v = .str x t := by
  cases v <;> first | exact Value.noConfusion h | (cases h; exact ⟨_, rfl⟩)
theorem norm_ref {v : Value} {a : Addr} (h : norm v = .ref a) : v = .ref a := by
  cases v <;> first | exact Value.noConfusion h | exact h
theorem norm_bool {v : Value} {a : Bool} (h : norm v = .bool a) : v = .bool a := by
  cases v <;> first | exact Value.noConfusion h | exact h
theorem norm_none {v : Value} (h : norm v = .none) : v = .none := by
  cases v <;> first | exact Value.noConfusion h | rfl
theorem norm_type {v : Value} {a : String} (h : norm v = .type a) : v = .type a := by
  cases v <;> first | exact Value.noConfusion h | exact h
theorem norm_builtin {v : Value} {a : String} (h : norm v = .builtin a) : v = .builtin a := by
  cases v <;> first | exact Value.noConfusion h | exact h
theorem norm_norm (v : Value) : norm (norm v) = norm v := by cases v <;> rfl
theorem map_norm_nil {vs : List Value} (h : vs.map norm = []) : vs = [] := by cases vs with | nil => rfl | cons _ _ => cases h
theorem map_norm_cons {vs : List Value} {x : Value} {xs : List Value} (h : vs.map norm = x :: xs) : ∃ v r, vs = v :: r ∧ norm v = x ∧ r.map norm = xs := by
  cases vs with
  | nil => cases h
  | cons v r => rw [List.map_cons] at h; injection h with h1 h2; exact ⟨v, r, rfl, h1, h2⟩

/-! the kinds that the operators ask for -/
inductive VK where
  | int (x : Int)
  | ref (a : Addr)
  | none
  | other
noncomputable def vk : Value → VK
  | .int x _ => .int x
  | .ref a => .ref a
  | .none => .none
  | _ => .other
theorem vk_int {v : Value} {x : Int} (h : vk (norm v) = .int x) : ∃ t, v = .int x t := by
  cases v <;> first | exact VK.noConfusion h | (cases h; exact ⟨_, rfl⟩)
theorem vk_ref {v : Value} {a : Addr} (h : vk (norm v) = .ref a) : v = .ref a := by
  cases v <;> first | exact VK.noConfusion h | (cases h; rfl)
theorem vk_none {v : Value} (h : vk (norm v) = .none) : v = .none := by
  cases v <;> first | exact VK.noConfusion h | rfl

/-! the abstract heap -/
inductive MO where
  | list (xs : List Value)
  | tup (xs : List Value)
  | dict (kvs : List (Int × Value)) (ep : Nat)
  | sd (kvs : List (Str × Value))
  | att (m : Str → Option Value) (n : Nat)
  | inst (C D : Addr)
  | rng (n : Nat)
  | items (d : Addr)
  | vals (d : Addr)
noncomputable abbrev Hp := Addr → Option MO

structure Cx where
  prog : Program
  w : World
  K : Frag
  h₀ : Heap
  os : OsState
  mg : Str → Option Value
  mb : Str → Option Value

/-- the text's classes, their own fields, their methods -/
noncomputable def isCls (a : Addr) : Bool := a == 58 || a == 86 || a == 121 || a == 187
noncomputable def fldOf (a : Addr) : List Str :=
  if a = 58 then ["place", "incoming", "fetched", "saved_used", "spills"] else if a = 86 then ["all", "kept"]
  else if a = 121 then ["frozen", "fixed", "fetched", "many"] else if a = 187 then ["near", "crosses", "cost", "copies", "alias"] else []
noncomputable def methOf (a : Addr) : List (Str × Addr) :=
  if a = 86 then [("of", 83)] else if a = 187 then [("add", 146), ("touch", 153), ("join", 160), ("leader", 167), ("leaders", 172), ("members", 177), ("merge", 184)] else []
noncomputable def initOf (a : Addr) : Addr := if a = 58 then 55 else if a = 86 then 76 else if a = 121 then 104 else 139
structure ClsOk (K : Frag) (a : Addr) : Prop where
  ga : findIn K (.ref a) "__getattribute__" = some (some (.builtin "object.__getattribute__"))
  gt : findIn K (.ref a) "__getattr__" = some none
  hd : hasDictIn K a = true
  sa : findIn K (.ref a) "__setattr__" = some (some (.builtin "object.__setattr__"))
  po : plainOver K a = true
  mks : makesIn K a = true
  it : findIn K (.ref a) "__init__" = some (some (.ref (initOf a)))
  fi : typeIn K (.ref (initOf a)) = some (.type "function")
/-- what the text's names mean at the top -/
noncomputable def gtab : List (Str × Value) :=
  [("Allocation", .ref 58), ("Pools", .ref 86), ("Spills", .ref 121), ("Graph", .ref 187), ("FIRST_ARGUMENT", vi 10), ("IN_REGISTERS", vi 8),
   ("is_safe", .ref 198), ("coalesce", .ref 205), ("worth_of", .ref 212), ("cheapest", .ref 219), ("stacked", .ref 226), ("mates_of", .ref 233), ("victim_of", .ref 238),
   ("number_for", .ref 245), ("coloured", .ref 250), ("finished", .ref 255), ("_law_draw", .ref 262), ("_law_picture", .ref 267), ("_law_graph", .ref 272), ("_law_is_whole", .ref 277),
   ("len", .builtin "len"), ("sorted", .builtin "sorted"), ("range", .type "range"), ("list", .type "list"), ("dict", .type "dict"), ("int", .type "int")]
structure Bs (C : Cx) : Prop where
  X : C.K.In C.h₀
  T : ∃ p loose, TopRead p loose C.mg C.mb C.h₀
  three : ∃ o, C.K.lookup mainGlobals = some o
  cls : ∀ a, isCls a = true → ClsOk C.K a
  fld : ∀ a x, (fldOf a).contains x = true → findIn C.K (.ref a) x = some none
  glob : ∀ x v, gtab.lookup x = some v → (∃ v', nsIn C.K mainGlobals x = some (some v') ∧ norm v' = v) ∨ (nsIn C.K mainGlobals x = some none ∧ bootBuiltins x = some v ∧ x ≠ "__name__" ∧ norm v = v)
  meth : ∀ a x f, (methOf a).lookup x = some f → findIn C.K (.ref a) x = some (some (.ref f)) ∧ typeIn C.K (.ref f) = some (.type "function")

noncomputable def nkv {K : Type} (l : List (K × Value)) : List (K × Value) := l.map fun p => (p.1, norm p.2)

noncomputable def Holds (C : Cx) (h : Heap) (a : Addr) : MO → Prop
  | .list xs => ∃ vs n, h.get? a = some { cls := .type "list", data := .seq vs n } ∧ vs.toList.map norm = xs
  | .tup xs => ∃ vs n, h.get? a = some { cls := .type "tuple", data := .seq vs n } ∧ vs.toList.map norm = xs
  | .dict kvs ep => ∃ l, h.DictAt (intKind C.prog C.w) a l ep ∧ nkv l = kvs
  | .sd kvs => ∃ l, h.DictOf (strKind C.prog C.w) a l ∧ nkv l = kvs
  | .att m n => ∃ o es ep, h.get? a = some o ∧ o.data = .dict es ep ∧ StrKeys es ∧ es.size ≤ n ∧ ∀ x, (nsFind es x).map norm = m x
  | .inst K D => h.get? a = some (instObj K D)
  | .rng n => ∃ t u v, IsRange h a 0 n 1 t u v
  | .items d => h.IsItemsView a d
  | .vals d => h.IsValuesView a d

theorem Holds.keep {C : Cx} {h h' : Heap} {a : Addr} {x : MO} (H : Holds C h a x) (e : ∀ o, h.get? a = some o → h'.get? a = some o) : Holds C h' a x := by
  cases x with
  | list xs => obtain ⟨vs, n, ho, r⟩ := H; exact ⟨vs, n, e _ ho, r⟩
  | tup xs => obtain ⟨vs, n, ho, r⟩ := H; exact ⟨vs, n, e _ ho, r⟩
  | dict kvs ep => obtain ⟨l, ⟨o, es, ho, q⟩, r⟩ := H; exact ⟨l, ⟨o, es, e _ ho, q⟩, r⟩
  | sd kvs => obtain ⟨l, ⟨o, es, ep, ho, q⟩, r⟩ := H; exact ⟨l, ⟨o, es, ep, e _ ho, q⟩, r⟩
  | att m n => obtain ⟨o, es, ep, ho, q⟩ := H; exact ⟨o, es, ep, e _ ho, q⟩
  | inst K D => exact e _ H
  | rng n => obtain ⟨t, u, v, ho⟩ := H; exact ⟨t, u, v, e _ ho⟩
  | items d => obtain ⟨o, ho, q⟩ := H; exact ⟨o, e _ ho, q⟩
  | vals d => obtain ⟨o, ho, q⟩ := H; exact ⟨o, e _ ho, q⟩
theorem Holds.there {C : Cx} {h : Heap} {a : Addr} {x : MO} (H : Holds C h a x) : ∃ o, h.get? a = some o := by
  cases x with
  | list xs => obtain ⟨vs, n, ho, r⟩ := H; exact ⟨_, ho⟩
  | tup xs => obtain ⟨vs, n, ho, r⟩ := H; exact ⟨_, ho⟩
  | dict kvs ep => obtain ⟨l, ⟨o, es, ho, q⟩, r⟩ := H; exact ⟨_, ho⟩
  | sd kvs => obtain ⟨l, ⟨o, es, ep, ho, q⟩, r⟩ := H; exact ⟨_, ho⟩
  | att m n => obtain ⟨o, es, ep, ho, q⟩ := H; exact ⟨_, ho⟩
  | inst K D => exact ⟨_, H⟩
  | rng n => obtain ⟨t, u, v, ho⟩ := H; exact ⟨_, ho⟩
  | items d => obtain ⟨o, ho, q⟩ := H; exact ⟨_, ho⟩
  | vals d => obtain ⟨o, ho, q⟩ := H; exact ⟨_, ho⟩
theorem Holds.lt {C : Cx} {h : Heap} {a : Addr} {x : MO} (H : Holds C h a x) : a < h.objs.size := let ⟨_, ho⟩ := H.there; Heap.lt_size ho

noncomputable abbrev Fm := Addr → Option Obj
structure Rep (C : Cx) (F : Fm) (σ : Hp) (h : Heap) : Prop where
  base : ∀ a o, C.h₀.get? a = some o → F a = some o
  fr : ∀ a o, F a = some o → h.get? a = some o
  own : ∀ a x, σ a = some x → F a = none ∧ a ≠ 1 ∧ Holds C h a x
noncomputable def Ok (C : Cx) (F : Fm) (σ : Hp) (s : Shared) : Prop := Rep C F σ s.heap ∧ s.gens = #[] ∧ s.os = C.os

noncomputable def upd {α : Type} (σ : Addr → Option α) (a : Addr) (x : α) : Addr → Option α := fun b => if b = a then some x else σ b
theorem upd_self {α : Type} (σ : Addr → Option α) (a : Addr) (x : α) : upd σ a x a = some x := if_pos rfl
theorem upd_ne {α : Type} (σ : Addr → Option α) {a b : Addr} (x : α) (h : b ≠ a) : upd σ a x b = σ b := if_neg h

section
variable {C : Cx} {F : Fm} {σ : Hp} {h h' : Heap} {s : Shared}
theorem Rep.lt (R : Rep C F σ h) {a : Addr} {x : MO} (e : σ a = some x) : a < h.objs.size := (R.own a x e).2.2.lt
theorem Rep.none_at (R : Rep C F σ h) : σ h.objs.size = none := by
  cases e : σ h.objs.size with
  | none => rfl
  | some x => exact absurd (R.lt e) (Nat.lt_irrefl _)
theorem Rep.fnone_at (R : Rep C F σ h) : F h.objs.size = none := by
  cases e : F h.objs.size with
  | none => rfl
  | some x => exact absurd (Heap.lt_size (R.fr _ _ e)) (Nat.lt_irrefl _)
theorem Rep.big (R : Rep C F σ h) (B : Bs C) : 3 < h.objs.size := by
  refine e1a1 B.three fun o e => ?_
  exact Heap.lt_size (R.fr _ _ (R.base _ _ (B.X _ _ e)))
/-- nothing that we know of has changed -/
theorem Rep.keeps (R : Rep C F σ h) (k : ∀ b o, h.get? b = some o → h'.get? b = some o) : Rep C F σ h' :=
  ⟨R.base, fun a o e => k _ _ (R.fr a o e), fun a x e => ⟨(R.own a x e).1, (R.own a x e).2.1, (R.own a x e).2.2.keep fun o q => k _ _ q⟩⟩
/-- a place that we do not know of has changed -/
theorem Rep.other (R : Rep C F σ h) {b : Addr} (hs : Heap.ExtBut b h h') (hF : F b = none) (hσ : σ b = none) : Rep C F σ h' :=
  ⟨R.base, fun a o e => hs _ _ (fun q => by rw [q, hF] at e; cases e) (R.fr a o e),
    fun a x e => ⟨(R.own a x e).1, (R.own a x e).2.1, (R.own a x e).2.2.keep fun o q => hs _ _ (fun q => by rw [q, hσ] at e; cases e) q⟩⟩
theorem Rep.new (R : Rep C F σ h) (B : Bs C) {x : MO} (k : ∀ b o, h.get? b = some o → h'.get? b = some o) (H : Holds C h' h.objs.size x) : Rep C F (upd σ h.objs.size x) h' := by
  refine ⟨R.base, fun a o e => k _ _ (R.fr a o e), fun a y e => ?_⟩
  by_cases q : a = h.objs.size
  · subst q
    rw [upd_self] at e; cases e
    exact ⟨R.fnone_at, Nat.ne_of_gt (Nat.lt_trans (by decide) (R.big B)), H⟩
  · rw [upd_ne _ _ q] at e
    exact ⟨(R.own a y e).1, (R.own a y e).2.1, (R.own a y e).2.2.keep fun o q => k _ _ q⟩
/-- a new object at an address that nobody held -/
theorem Rep.new' (R : Rep C F σ h) (B : Bs C) {a : Addr} {x : MO} (k : ∀ b o, h.get? b = some o → h'.get? b = some o) (ha : h.objs.size ≤ a) (H : Holds C h' a x) : Rep C F (upd σ a x) h' := by
  refine ⟨R.base, fun a o e => k _ _ (R.fr a o e), fun b y e => ?_⟩
  by_cases q : b = a
  · subst q
    rw [upd_self] at e; cases e
    refine ⟨?_, Nat.ne_of_gt (Nat.lt_of_lt_of_le (Nat.lt_trans (by decide) (R.big B)) ha), H⟩
    cases e : F b with
    | none => rfl
    | some o => exact absurd (Heap.lt_size (R.fr _ _ e)) (Nat.not_lt.mpr ha)
  · rw [upd_ne _ _ q] at e
    exact ⟨(R.own b y e).1, (R.own b y e).2.1, (R.own b y e).2.2.keep fun o q => k _ _ q⟩
theorem Rep.none_of (R : Rep C F σ h) {a : Addr} (ha : h.objs.size ≤ a) : σ a = none := by
  cases e : σ a with
  | none => rfl
  | some x => exact absurd (R.lt e) (Nat.not_lt.mpr ha)
theorem Rep.fnone_of (R : Rep C F σ h) {a : Addr} (ha : h.objs.size ≤ a) : F a = none := by
  cases e : F a with
  | none => rfl
  | some x => exact absurd (Heap.lt_size (R.fr _ _ e)) (Nat.not_lt.mpr ha)
theorem Rep.set (R : Rep C F σ h) {a : Addr} {x y : MO} (e : σ a = some x) (hs : Heap.ExtBut a h h') (H : Holds C h' a y) : Rep C F (upd σ a y) h' := by
  have A := R.own a x e
  refine ⟨R.base, fun b o q => hs _ _ (fun z => by rw [z, A.1] at q; cases q) (R.fr b o q), fun b z q => ?_⟩
  by_cases hb : b = a
  · subst hb
    rw [upd_self] at q; cases q
    exact ⟨A.1, A.2.1, H⟩
  · rw [upd_ne _ _ hb] at q
    exact ⟨(R.own b z q).1, (R.own b z q).2.1, (R.own b z q).2.2.keep fun o q => hs _ _ hb q⟩
/-- an object that we do not know of is put among those that stay -/
theorem Rep.keepObj (R : Rep C F σ h) {a : Addr} {o : Obj} (ho : h.get? a = some o) (hσ : σ a = none) : Rep C (upd F a o) σ h := by
  refine ⟨fun b x e => ?_, fun b x e => ?_, fun b x e => ?_⟩
  · by_cases q : b = a
    · subst q
      have := R.fr _ _ (R.base _ _ e)
      rw [upd_self, ← ho, this]
    · rw [upd_ne _ _ q]; exact R.base _ _ e
  · by_cases q : b = a
    · subst q; rw [upd_self] at e; cases e; exact ho
    · rw [upd_ne _ _ q] at e; exact R.fr _ _ e
  · have q : b ≠ a := fun q => by rw [q, hσ] at e; cases e
    rw [upd_ne _ _ q]; exact R.own b x e
theorem Rep.dropObj {a : Addr} {o : Obj} (R : Rep C (upd F a o) σ h) (hF : F a = none) (hb : C.h₀.get? a = none) : Rep C F σ h ∧ h.get? a = some o ∧ σ a = none := by
  refine ⟨⟨fun b x e => ?_, fun b x e => ?_, fun b x e => ?_⟩, R.fr _ _ (upd_self ..), ?_⟩
  · have q : b ≠ a := fun q => by rw [q, hb] at e; cases e
    have := R.base _ _ e
    rwa [upd_ne _ _ q] at this
  · have q : b ≠ a := fun q => by rw [q, hF] at e; cases e
    exact R.fr b x (by rw [upd_ne _ _ q]; exact e)
  · have q := (R.own b x e).1
    refine ⟨?_, (R.own b x e).2⟩
    by_cases z : b = a
    · rw [z]; exact hF
    · rwa [upd_ne _ _ z] at q
  · cases e : σ a with
    | none => rfl
    | some x => have := (R.own a x e).1; rw [upd_self] at this; cases this
end

/-! the around -/
structure AOk (k : Nat) (A : Around) : Prop where
  handled : A.handled = none
  depth : A.depth + 10 * k ≤ 900
  units : A.units + 100 * k ≤ 9000
theorem AOk.mono {k l : Nat} {A : Around} (x : AOk k A) (h : l ≤ k) : AOk l A := ⟨x.handled, by have := x.depth; omega, by have := x.units; omega⟩
theorem AOk.lt {k : Nat} {A : Around} (x : AOk k A) : A.depth < recursionLimit := by have := x.depth; show A.depth < 1000; omega
theorem AOk.cl {k : Nat} {A : Around} (x : AOk k A) : A.units < cLine := by have := x.units; show A.units < 9900; omega
theorem AOk.cl1 {k : Nat} {A : Around} (x : AOk k A) : A.in1.units < cLine := by have := x.units; show A.units + 1 < 9900; omega
theorem AOk.deeper {k : Nat} {A : Around} (x : AOk (k + 1) A) (env : Env) : AOk k (A.deeper env) :=
  ⟨x.handled, by have := x.depth; show A.depth + 1 + 10 * k ≤ 900; omega, by have := x.units; show A.units + 3 + 100 * k ≤ 9000; omega⟩

/-! the triples -/
noncomputable abbrev EF : Value → Shared → Prop := fun _ _ => False
noncomputable def W {α : Type} (C : Cx) (A : Around) (t : Sem α) (σ : Hp) (Q : α → Hp → Prop) : Prop :=
  ∀ F s, Ok C F σ s → wpAny (model C.prog C.w) A t (fun a s' => ∃ σ', Ok C F σ' s' ∧ Q a σ') EF s
noncomputable def Wc (C : Cx) (A : Around) (c : Code) (σ : Hp) (Q : Value → Hp → Prop) : Prop :=
  ∀ F s, Ok C F σ s → codeAny (model C.prog C.w) A c (fun r s' => match r with | .ok (.ret v) => ∃ σ', Ok C F σ' s' ∧ Q v σ' | _ => False) s
noncomputable def nfl : Flow → Flow
  | .ret v => .ret (norm v)
  | f => f

section
variable {α β : Type} {C : Cx} {A : Around} {σ : Hp}
theorem W.mono {t : Sem α} {Q Q' : α → Hp → Prop} (h : W C A t σ Q) (k : ∀ a σ', Q a σ' → Q' a σ') : W C A t σ Q' :=
  fun F s R => wpAny_mono (h F s R) (fun _ _ ⟨σ', R', q⟩ => ⟨σ', R', k _ _ q⟩) fun _ _ x => x
theorem W.bind {t : Sem α} {f : α → Sem β} {Q : β → Hp → Prop} (h : W C A t σ fun a σ' => W C A (f a) σ' Q) : W C A (t >>= f) σ Q :=
  fun F s R => wpAny_bind (wpAny_mono (h F s R) (fun _ _ ⟨_, R', q⟩ => q F _ R') fun _ _ x => x)
theorem W.pure {a : α} {Q : α → Hp → Prop} (h : Q a σ) : W C A (pure a) σ Q := fun _ _ R => wpAny_pure ⟨σ, R, h⟩
theorem W.call {f : Value} {pos : List Value} {kw : List (Str × Value)} {Q : Value → Hp → Prop} (h : Wc C A (.call f ⟨pos, kw⟩) σ Q) : W C A (PySem.call f pos kw) σ Q :=
  fun F s R => wpAny_call (codeAny_mono (h F s R) fun r s' q => by
    rcases r with e | (v | _ | _ | _) <;> first | exact q | exact q.elim)
theorem Wc.mono {c : Code} {Q Q' : Value → Hp → Prop} (h : Wc C A c σ Q) (k : ∀ a σ', Q a σ' → Q' a σ') : Wc C A c σ Q' :=
  fun F s R => codeAny_mono (h F s R) fun r s' q => by
    rcases r with e | (_ | _ | _ | v) <;> first | exact q.elim | (obtain ⟨σ', R', q⟩ := q; exact ⟨σ', R', k _ _ q⟩)
/-- a tree that the library's rule serves, whatever its end -/
theorem W.of {t : Sem α} {Q : α → Hp → Prop} (h : ∀ F s, Ok C F σ s → wpAny (model C.prog C.w) A t (fun a s' => ∃ σ', Ok C F σ' s' ∧ Q a σ') EF s) : W C A t σ Q := h
end


/-! frames -/
noncomputable abbrev Rho := Str → Option Value
noncomputable def setR (ρ : Rho) (x : Str) (v : Value) : Rho := fun y => if y = x then some v else ρ y
theorem setR_self (ρ : Rho) (x : Str) (v : Value) : setR ρ x v x = some v := if_pos rfl
theorem setR_ne (ρ : Rho) {x y : Str} (v : Value) (h : y ≠ x) : setR ρ x v y = ρ y := if_neg h
/-- the frame's places -/
noncomputable def FrA (env : Env) (a : Addr) : Prop := a = env.locals ∨ ∃ x, env.kindOf x = some .cell ∧ env.cells.lookup x = some a
structure Frame (env : Env) (fz : Bool) (F : Fm) (σ : Hp) (ρ : Rho) (h : Heap) : Prop where
  ns : ∃ m, h.Ns env.locals m ∧ ∀ x, env.kindOf x = some .local → (m x).map norm = ρ x
  cell : ∀ x, env.kindOf x = some .cell → ∃ c v, env.cells.lookup x = some c ∧ h.IsCell c v ∧ v.map norm = ρ x
  FL : F env.locals = none
  σL : σ env.locals = none
  cL : ∀ x c, env.kindOf x = some .cell → env.cells.lookup x = some c → c ≠ env.locals
  σc : ∀ x c, env.kindOf x = some .cell → env.cells.lookup x = some c → σ c = none
  Fc : fz = false → ∀ x c, env.kindOf x = some .cell → env.cells.lookup x = some c → F c = none
  cc : ∀ x y c, env.kindOf x = some .cell → env.kindOf y = some .cell → env.cells.lookup x = some c → env.cells.lookup y = some c → x = y
/-- what holds within a frame -/
noncomputable def OkF (C : Cx) (env : Env) (fz : Bool) (F : Fm) (σ : Hp) (ρ : Rho) (s : Shared) : Prop := Ok C F σ s ∧ Frame env fz F σ ρ s.heap
theorem Frame.there {env : Env} {fz : Bool} {F : Fm} {σ : Hp} {ρ : Rho} {h : Heap} (R : Frame env fz F σ ρ h) {a : Addr} (x : FrA env a) : ∃ o, h.get? a = some o := by
  rcases x with rfl | ⟨y, hy, hc⟩
  · obtain ⟨m, ⟨o, _, _, ho, _⟩, _⟩ := R.ns; exact ⟨o, ho⟩
  · refine e2a3 (R.cell y hy) fun c v hc' hN1_3 _ => ?_
    refine e1a2 hN1_3 fun o ho _ => ?_
    clear hN1_3
    rw [hc] at hc'; cases hc'; exact ⟨o, ho⟩
theorem Frame.σnone {env : Env} {fz : Bool} {F : Fm} {σ : Hp} {ρ : Rho} {h : Heap} (R : Frame env fz F σ ρ h) {a : Addr} (x : FrA env a) : σ a = none := by
  rcases x with rfl | ⟨y, hy, hc⟩
  · exact R.σL
  · exact R.σc y a hy hc
theorem Frame.keeps {env : Env} {fz : Bool} {F : Fm} {σ σ' : Hp} {ρ : Rho} {h h' : Heap} (R : Frame env fz F σ ρ h) (k : ∀ a o, FrA env a → h.get? a = some o → h'.get? a = some o) (kσ : ∀ a, FrA env a → σ' a = none) : Frame env fz F σ' ρ h' := by
  refine ⟨?_, fun x hx => ?_, R.FL, kσ _ (.inl rfl), R.cL, fun x c hx hc => kσ _ (.inr ⟨x, hx, hc⟩), R.Fc, R.cc⟩
  · refine e1a2 R.ns fun m hN3_1 r => ?_
    refine e3a2 hN3_1 fun o es ep ho q => ?_
    clear hN3_1
    exact ⟨m, ⟨o, es, ep, k _ _ (.inl rfl) ho, q⟩, r⟩
  · refine e2a3 (R.cell x hx) fun c v hc hN5_3 r => ?_
    refine e1a2 hN5_3 fun o ho q => ?_
    clear hN5_3
    exact ⟨c, v, hc, ⟨o, k _ _ (.inr ⟨x, hx, hc⟩) ho, q⟩, r⟩
open Classical in
/-- the frame's own objects, put among those that stay -/
noncomputable def frz (env : Env) (F : Fm) (h : Heap) : Fm := fun a => if FrA env a then h.get? a else F a
theorem OkF.freeze {C : Cx} {env : Env} {fz : Bool} {F : Fm} {σ : Hp} {ρ : Rho} {s : Shared} (X : OkF C env fz F σ ρ s) :
    Ok C (frz env F s.heap) σ s ∧ ∀ σ' s', Ok C (frz env F s.heap) σ' s' → OkF C env fz F σ' ρ s' := by
  refine e0a2 X fun hN7_0 Z => ?_
  clear X
  refine e0a3 hN7_0 fun R hg hos => ?_
  clear hN7_0
  refine ⟨⟨⟨fun a o e => ?_, fun a o e => ?_, fun a x e => ?_⟩, hg, hos⟩, fun σ' s' ⟨R', hg', hos'⟩ => ?_⟩
  · by_cases q : FrA env a
    · rw [frz, if_pos q]; exact R.fr _ _ (R.base _ _ e)
    · rw [frz, if_neg q]; exact R.base _ _ e
  · by_cases q : FrA env a
    · rw [frz, if_pos q] at e; exact e
    · rw [frz, if_neg q] at e; exact R.fr _ _ e
  · have q : ¬ FrA env a := fun q => by rw [Z.σnone q] at e; cases e
    rw [frz, if_neg q]; exact R.own a x e
  · have up : ∀ a o, F a = some o → frz env F s.heap a = some o := fun a o e => by
      by_cases q : FrA env a
      · rw [frz, if_pos q]; exact R.fr _ _ e
      · rw [frz, if_neg q]; exact e
    have off : ∀ a, FrA env a → σ' a = none := fun a q => by
      cases e : σ' a with
      | none => rfl
      | some x =>
        have := (R'.own a x e).1
        refine e1a1 (Z.there q) fun o ho => ?_
        rw [frz, if_pos q, ho] at this; cases this
    refine ⟨⟨⟨R.base, fun a o e => R'.fr a o (up a o e), fun a x e => ?_⟩, hg', hos'⟩, Z.keeps (fun a o q e => R'.fr a o (by rw [frz, if_pos q]; exact e)) off⟩
    have q : ¬ FrA env a := fun q => by rw [off a q] at e; cases e
    have := (R'.own a x e)
    rw [frz, if_neg q] at this; exact this

/-- an expression: the value's token struck -/
noncomputable def We (C : Cx) (A : Around) (env : Env) (fz : Bool) (e : Expr) (ρ : Rho) (σ : Hp) (Q : Value → Hp → Prop) : Prop :=
  ∀ F s, OkF C env fz F σ ρ s → wpAny (model C.prog C.w) A (eval e env) (fun v s' => ∃ σ', OkF C env fz F σ' ρ s' ∧ Q (norm v) σ') EF s
/-- any tree within a frame that leaves the frame as it was -/
noncomputable def Wf {α : Type} (C : Cx) (A : Around) (env : Env) (fz : Bool) (t : Sem α) (ρ : Rho) (σ : Hp) (Q : α → Hp → Prop) : Prop :=
  ∀ F s, OkF C env fz F σ ρ s → wpAny (model C.prog C.w) A t (fun v s' => ∃ σ', OkF C env fz F σ' ρ s' ∧ Q v σ') EF s
/-- a tree within a frame that may store names -/
noncomputable def Wr {α : Type} (C : Cx) (A : Around) (env : Env) (fz : Bool) (t : Sem α) (ρ : Rho) (σ : Hp) (Q : α → Rho → Hp → Prop) : Prop :=
  ∀ F s, OkF C env fz F σ ρ s → wpAny (model C.prog C.w) A t (fun v s' => ∃ σ' ρ', OkF C env fz F σ' ρ' s' ∧ Q v ρ' σ') EF s
section
variable {α β : Type} {C : Cx} {A : Around} {env : Env} {fz : Bool} {ρ : Rho} {σ : Hp}
theorem W.lift {t : Sem α} {Q : α → Hp → Prop} (h : W C A t σ Q) : Wf C A env fz t ρ σ Q := fun F s X =>
  wpAny_mono (h _ s X.freeze.1) (fun _ _ ⟨σ', R, q⟩ => ⟨σ', X.freeze.2 _ _ R, q⟩) fun _ _ x => x
theorem Wf.mono {t : Sem α} {Q Q' : α → Hp → Prop} (h : Wf C A env fz t ρ σ Q) (k : ∀ a σ', Q a σ' → Q' a σ') : Wf C A env fz t ρ σ Q' :=
  fun F s R => wpAny_mono (h F s R) (fun _ _ ⟨σ', R', q⟩ => ⟨σ', R', k _ _ q⟩) fun _ _ x => x
theorem Wf.bind {t : Sem α} {f : α → Sem β} {Q : β → Hp → Prop} (h : Wf C A env fz t ρ σ fun a σ' => Wf C A env fz (f a) ρ σ' Q) : Wf C A env fz (t >>= f) ρ σ Q :=
  fun F s R => wpAny_bind (wpAny_mono (h F s R) (fun _ _ ⟨_, R', q⟩ => q F _ R') fun _ _ x => x)
theorem Wf.pure {a : α} {Q : α → Hp → Prop} (h : Q a σ) : Wf C A env fz (pure a) ρ σ Q := fun _ _ R => wpAny_pure ⟨σ, R, h⟩
theorem Wr.mono {t : Sem α} {Q Q' : α → Rho → Hp → Prop} (h : Wr C A env fz t ρ σ Q) (k : ∀ a ρ' σ', Q a ρ' σ' → Q' a ρ' σ') : Wr C A env fz t ρ σ Q' :=
  fun F s R => wpAny_mono (h F s R) (fun _ _ ⟨σ', ρ', R', q⟩ => ⟨σ', ρ', R', k _ _ _ q⟩) fun _ _ x => x
theorem Wr.bind {t : Sem α} {f : α → Sem β} {Q : β → Rho → Hp → Prop} (h : Wr C A env fz t ρ σ fun a ρ' σ' => Wr C A env fz (f a) ρ' σ' Q) : Wr C A env fz (t >>= f) ρ σ Q :=
  fun F s R => wpAny_bind (wpAny_mono (h F s R) (fun _ _ ⟨_, _, R', q⟩ => q F _ R') fun _ _ x => x)
theorem Wr.pure {a : α} {Q : α → Rho → Hp → Prop} (h : Q a ρ σ) : Wr C A env fz (pure a) ρ σ Q := fun _ _ R => wpAny_pure ⟨σ, ρ, R, h⟩
theorem Wf.toR {t : Sem α} {Q : α → Rho → Hp → Prop} (h : Wf C A env fz t ρ σ fun a σ' => Q a ρ σ') : Wr C A env fz t ρ σ Q :=
  fun F s R => wpAny_mono (h F s R) (fun _ _ ⟨σ', R', q⟩ => ⟨σ', ρ, R', q⟩) fun _ _ x => x
end

end Mine
namespace Mine
section
variable {C : Cx} {F : Fm} {σ : Hp} {s : Shared} {A : Around}
theorem Ok.rep (X : Ok C F σ s) : Rep C F σ s.heap := X.1
theorem Ok.at (X : Ok C F σ s) {a : Addr} {x : MO} (e : σ a = some x) : Holds C s.heap a x := (X.1.own a x e).2.2
theorem Ok.ne1 (X : Ok C F σ s) {a : Addr} {x : MO} (e : σ a = some x) : (a == sysModules) = false := beq_eq_false_iff_ne.mpr (X.1.own a x e).2.1
theorem Ok.tok (X : Ok C F σ s) (k : Nat) : Ok C F σ { s with toks := k } := X
theorem Ok.heap (X : Ok C F σ s) {σ' : Hp} {h : Heap} {k : Nat} (R : Rep C F σ' h) : Ok C F σ' { s with heap := h, toks := k } := ⟨R, X.2⟩
theorem Ok.heap' (X : Ok C F σ s) {σ' : Hp} {h : Heap} (R : Rep C F σ' h) : Ok C F σ' { s with heap := h } := ⟨R, X.2⟩
theorem push_keeps (h : Heap) (o : Obj) : ∀ b x, h.get? b = some x → (h.push o).get? b = some x := fun _ _ e => Heap.get?_push_of_some _ e
/-- a new object behind the heap -/
theorem Ok.push (X : Ok C F σ s) (B : Bs C) {x : MO} {o : Obj} (H : Holds C (s.heap.push o) s.heap.objs.size x) : Ok C F (upd σ s.heap.objs.size x) { s with heap := s.heap.push o } :=
  X.heap' (X.1.new B (push_keeps _ _) H)
theorem Ok.pushList (X : Ok C F σ s) (B : Bs C) (vs : Array Value) (n : Nat) : Ok C F (upd σ s.heap.objs.size (.list (vs.toList.map norm))) { s with heap := s.heap.push { cls := .type "list", data := .seq vs n } } :=
  X.push B (x := .list _) ⟨vs, n, Heap.get?_push_size _ rfl, rfl⟩
theorem Ok.pushTup (X : Ok C F σ s) (B : Bs C) (vs : Array Value) (n : Nat) : Ok C F (upd σ s.heap.objs.size (.tup (vs.toList.map norm))) { s with heap := s.heap.push { cls := .type "tuple", data := .seq vs n } } :=
  X.push B (x := .tup _) ⟨vs, n, Heap.get?_push_size _ rfl, rfl⟩
theorem Ok.fresh (X : Ok C F σ s) : σ s.heap.objs.size = none := X.1.none_at
/-- all ints -/
noncomputable def allInt : List Value → Option (List Int)
  | [] => some []
  | .int i _ :: r => (allInt r).map (i :: ·)
  | _ :: _ => none
theorem allInt_cons {w : Value} {r : List Value} {l : List Int} (h : allInt (w :: r) = some l) : ∃ i t l', w = .int i t ∧ l = i :: l' ∧ allInt r = some l' := by
  cases w <;> first | exact no_some h | skip
  replace h : (allInt r).map _ = some l := h
  refine e1a2 (Option.map_eq_some_iff.mp h) fun l' hl hR => ?_
  exact ⟨_, _, l', rfl, hR.symm, hl⟩
theorem int_of_norm {v : Value} {l : List Int} {r : List Value} (h : allInt ((v :: r).map norm) = some l) : ∃ x t l', v = .int x t ∧ l = x :: l' ∧ allInt (r.map norm) = some l' := by
  refine e3a3 (allInt_cons h) fun x t l' h1 h2 h3 => ?_
  refine e1a1 (lt_of_norm h1) fun u hu => ?_
  exact ⟨x, u, l', hu, h2, h3⟩
theorem intsAre_of {vs : List Value} : ∀ {ns : List Int}, allInt (vs.map norm) = some ns → IntsAre vs ns := by
  induction vs with
  | nil => intro ns h; cases h; exact .nil
  | cons v r ih =>
    intro ns h
    refine e3a3 (int_of_norm h) fun x t l' h1 h2 h3 => ?_
    subst h1 h2
    exact .cons _ _ (ih h3)
theorem allInt_vi (ns : List Int) : allInt (ns.map vi) = some ns := by
  induction ns with
  | nil => rfl
  | cons n r ih => simp only [List.map_cons, allInt, ih]; rfl
end

/-! binary operators -/
noncomputable def addL (a b : Addr) (σ : Hp) (Q : Value → Hp → Prop) : Prop := ∃ xs ys, σ a = some (.list xs) ∧ σ b = some (.list ys) ∧ xs.length + ys.length ≤ 10000 ∧ ∀ c, σ c = none → Q (.ref c) (upd σ c (.list (xs ++ ys)))
noncomputable def binK (op : Operator) (a b : VK) (σ : Hp) (Q : Value → Hp → Prop) : Prop :=
  match op, a, b with
  | .Add, .int x, .int y => Q (vi (x + y)) σ
  | .Sub, .int x, .int y => Q (vi (x - y)) σ
  | .Mult, .int x, .int y => (-(2 ^ 64) < y ∧ y < 2 ^ 64) ∧ Q (vi (x * y)) σ
  | .FloorDiv, .int x, .int y => (y ≠ 0 ∧ y.natAbs < 1073741824) ∧ Q (vi (x.fdiv y)) σ
  | .Mod, .int x, .int y => y ≠ 0 ∧ Q (vi (x.fmod y)) σ
  | .RShift, .int _, .int y => 0 ≤ y ∧ ∀ r : Int, Q (vi r) σ
  | .BitAnd, .int _, .int _ => ∀ r : Int, Q (vi r) σ
  | .Add, .ref a, .ref b => Hold (addL a b σ Q)
  | _, _, _ => False
noncomputable def binP (op : Operator) (a b : Value) (σ : Hp) (Q : Value → Hp → Prop) : Prop := binK op (vk a) (vk b) σ Q
set_option maxHeartbeats 1000000 in
theorem binP_sound {C : Cx} (B : Bs C) {A : Around} {op : Operator} {a b : Value} {σ : Hp} {Q : Value → Hp → Prop} (h : binP op (norm a) (norm b) σ Q) :
    W C A (binaryOp op a b) σ (fun v => Q (norm v)) := by
  intro F s X
  refine hideG fun PG kG => ?_
  unfold binP at h
  revert h
  cases ha : vk (norm a) <;> cases hb : vk (norm b) <;> cases op <;> intro h <;> first | exact False.elim h | refine kG ?_
  · obtain ⟨t, rfl⟩ := vk_int ha; obtain ⟨u, rfl⟩ := vk_int hb; exact PyProof.Rows.add_int ⟨σ, X.tok _, h⟩
  · obtain ⟨t, rfl⟩ := vk_int ha; obtain ⟨u, rfl⟩ := vk_int hb; exact PyProof.Rows.sub_int ⟨σ, X.tok _, h⟩
  · obtain ⟨t, rfl⟩ := vk_int ha; obtain ⟨u, rfl⟩ := vk_int hb; exact PyProof.Rows.mul_int ⟨σ, X.tok _, h.2⟩ (IntMulOk.of_right (intBits_le_64 h.1.1 h.1.2))
  · obtain ⟨t, rfl⟩ := vk_int ha; obtain ⟨u, rfl⟩ := vk_int hb; exact PyProof.Rows.mod_int' h.1 ⟨σ, X.tok _, h.2⟩
  · obtain ⟨t, rfl⟩ := vk_int ha; obtain ⟨u, rfl⟩ := vk_int hb; exact PyProof.Rows.rshift_int h.1 ⟨σ, X.tok _, h.2 _⟩
  · obtain ⟨t, rfl⟩ := vk_int ha; obtain ⟨u, rfl⟩ := vk_int hb; exact PyProof.Rows.and_int ⟨σ, X.tok _, h _⟩
  · obtain ⟨t, rfl⟩ := vk_int ha; obtain ⟨u, rfl⟩ := vk_int hb; exact PyProof.Rows.floordiv_int h.1.1 ⟨σ, X.tok _, h.2⟩ (.inl (PyProof.noPylong_small h.1.2))
  · cases vk_ref ha; cases vk_ref hb
    replace h := h.out
    refine e2a4 h fun xs ys hx hy hl hq => ?_
    clear h
    refine e2a2 (X.at hx) fun vs n ho hR2_3 => ?_
    obtain rfl := hR2_3
    refine e2a2 (X.at hy) fun ws k ho' hR3_3 => ?_
    obtain rfl := hR3_3
    have Y := X.pushList B (vs ++ ws) 0
    rw [Array.toList_append, List.map_append] at Y
    refine PySem.P.add_list (n := n) (n2 := k) ho ho' ⟨_, Y, hq _ X.fresh⟩ ?_
    simp only [List.length_map, Array.length_toList] at hl; rw [sizeLine_eq]; omega

/-! comparisons -/
noncomputable def isSeqI (σ : Hp) (a : Addr) : Option (List Int) := match σ a with
  | some (.list xs) => allInt xs
  | some (.tup xs) => allInt xs
  | _ => none
noncomputable def hasK (kvs : List (Int × Value)) (k : Int) : Bool := kvs.any fun p => p.1 == k
noncomputable def inP (k : Int) (a : Addr) (σ : Hp) (Q : Bool → Prop) : Prop := match σ a with
  | some (.dict kvs _) => Q (hasK kvs k)
  | some (.list xs) => match allInt xs with | some ns => Q (ns.any (· == k)) | none => False
  | some (.tup xs) => match allInt xs with | some ns => Q (ns.any (· == k)) | none => False
  | _ => False
/-- two objects, equal or not -/
noncomputable def eqP (a b : Addr) (σ : Hp) (Q : Bool → Prop) : Prop := match σ a, σ b with
  | some (.list xs), some (.list ys) => match allInt xs, allInt ys with | some ns, some ms => Q (decide (ns = ms)) | _, _ => False
  | some (.dict kvs _), some (.dict [] _) => Q kvs.isEmpty
  | _, _ => False
noncomputable def ltT (a b : Addr) (σ : Hp) (Q : Bool → Prop) : Prop := (∃ x y, σ a = some (.tup [.bool false, vi x]) ∧ σ b = some (.tup [.bool false, vi y])) ∧ ∀ r, Q r
noncomputable def cmpK (op : CmpOp) (a b : VK) (σ : Hp) (Q : Bool → Prop) : Prop :=
  match op, a, b with
  | .Eq, .int x, .int y => Q (x == y)
  | .NotEq, .int x, .int y => Q (x != y)
  | .Lt, .int x, .int y => Q (decide (x < y))
  | .GtE, .int x, .int y => Q (decide (y ≤ x))
  | .Is, .none, .none => Q true
  | .Is, .ref _, .none => Q false
  | .In, .int k, .ref a => Hold (inP k a σ Q)
  | .NotIn, .int k, .ref a => Hold (inP k a σ fun b => Q (!b))
  | .Eq, .ref a, .ref b => Hold (eqP a b σ Q)
  | .NotEq, .ref a, .ref b => Hold (eqP a b σ fun b => Q (!b))
  | .Lt, .ref a, .ref b => Hold (ltT a b σ Q)
  | _, _, _ => False
noncomputable def cmpP (op : CmpOp) (a b : Value) (σ : Hp) (Q : Bool → Prop) : Prop := cmpK op (vk a) (vk b) σ Q
theorem valueAt_isSome {K : Type} [DecidableEq K] (l : List (K × Value)) (k : K) : (valueAt l k).isSome = l.any fun p => p.1 == k := by
  induction l with
  | nil => rfl
  | cons p r ih =>
    refine hideG fun PG kG => ?_
    obtain ⟨x, v⟩ := p
    refine kG ?_
    clear kG PG
    unfold valueAt at *
    by_cases h : x = k <;> simp_all
theorem hasK_nkv (l : List (Int × Value)) (k : Int) : hasK (nkv l) k = (valueAt l k).isSome := by
  rw [valueAt_isSome]; unfold hasK nkv
  rw [List.any_map]; rfl

theorem tup_lt {C : Cx} {A : Around} {E : Value → Shared → Prop} {s : Shared} {a b : Addr} {x y : Array Value} {n k : Nat} {i j : Int} {t u : Tok} {Q : Value → Shared → Prop}
    (ha : s.heap.get? a = some { cls := .type "tuple", data := .seq x n }) (hb : s.heap.get? b = some { cls := .type "tuple", data := .seq y k })
    (hx : x = #[.bool false, .int i t]) (hy : y = #[.bool false, .int j u]) (hu : A.units < cLine) (h : Q (.bool (decide (i < j))) s) : wpAny (model C.prog C.w) A (compareOp .Lt (.ref a) (.ref b)) Q E s := by
  subst hx hy
  refine wpAny_richCompare_same_room (op := .Lt) (T := "tuple") ⟨_, ha, rfl⟩ ⟨_, hb, rfl⟩ PySem.F.slot_tuple_lt (wpAny_call_entry PySem.F.slot_tuple_lt ⟨_, ha, rfl⟩ PySem.F.entry_tuple_lt ?_ (PySem.F.args_tuple_lt_2 _ _)) hu
  show wpAny _ _ (isInstance (.ref b) (.type "tuple") >>= _) _ _ s
  refine wpAny_bind (wpAny_isInstance (T := "tuple") ⟨_, hb, rfl⟩ PySem.F.sub_tuple_tuple ?_)
  simp only [Bool.not_true, Bool.false_eq_true, if_false]
  show wpAny _ _ (Builtin.Tuple.tupleItemsOf (.ref a) >>= _) _ _ s
  refine wpAny_bind (tupleItemsOf_ ⟨_, ha, rfl, _, rfl⟩ ?_)
  show wpAny _ _ (Builtin.Tuple.tupleItemsOf (.ref b) >>= _) _ _ s
  refine wpAny_bind (tupleItemsOf_ ⟨_, hb, rfl, _, rfl⟩ ?_)
  show wpAny _ _ ((forIn [(Value.bool false, Value.bool false), (Value.int i t, Value.int j u)] ((none, ()) : Option PySem.Fin × Unit) _) >>= _) _ _ s
  refine wpAny_bind ?_
  rw [List.forIn_cons]
  have e1 : eqBool (.bool false) (.bool false) = (rule "eq-bool.same-object" >>= fun _ => pure true) := by
    unfold eqBool; rw [if_pos (by decide)]; rfl
  refine wpAny_bind ?_
  dsimp only
  rw [e1]
  refine wpAny_bind (wpAny_bind (wpAny_rule (wpAny_pure ?_)))
  simp only [Bool.not_true, Bool.false_eq_true, if_false]
  refine wpAny_pure ?_
  dsimp only
  rw [List.forIn_cons]
  refine wpAny_bind (wpAny_bind (wpAny_eqBool_int ?_))
  cases hij : (i == j) with
  | true =>
    simp only [Bool.not_true, Bool.false_eq_true, if_false]
    refine wpAny_pure ?_
    dsimp only
    rw [List.forIn_nil]
    refine wpAny_pure (wpAny_pure ⟨_, rfl, nofun, ?_⟩)
    have : i = j := by simpa using hij
    subst this
    simpa [Builtin.Tuple.tupleCompareSizes] using h
  | false =>
    simp only [Bool.not_false, if_true]
    refine wpAny_bind (wpAny_rule (wpAny_bind ?_))
    refine PySem.P.lt_int (wpAny_bind (wpAny_pure (wpAny_pure ?_)))
    exact wpAny_pure (wpAny_pure ⟨_, rfl, nofun, h⟩)

theorem tup2_of {x : Array Value} {p : Bool} {i : Int} (h : x.toList.map norm = [vb p, vi i]) : ∃ t, x = #[.bool p, .int i t] := by
  refine e2a3 (map_norm_cons h) fun v r h1 h2 h3 => ?_
  refine e2a3 (map_norm_cons h3) fun v' r' hR6_2 h2' h3' => ?_
  obtain rfl := hR6_2
  cases map_norm_nil h3'
  cases norm_bool h2
  refine e1a1 (norm_int h2') fun u hR7_1 => ?_
  obtain rfl := hR7_1
  exact ⟨u, by rw [← Array.toArray_toList (xs := x), h1]⟩

theorem inP_sound {C : Cx} {A : Around} {k : Int} {t : Tok} {a : Addr} {σ : Hp} {Q : Value → Hp → Prop} (h : inP k a σ fun b => Q (vb b) σ) :
    W C A (compareOp .In (.int k t) (.ref a)) σ (fun v => Q (norm v)) := by
  intro F s X
  unfold inP at h
  split at h
  · rename_i kvs ep hσ
    refine e1a2 (X.at hσ) fun l hd hR8_2 => ?_
    obtain rfl := hR8_2
    rw [hasK_nkv] at h
    exact wpAny_in_of (intKind_is _ _ k t) (X.ne1 hσ) hd.dictOf.mapOf ⟨σ, X.tok _, h⟩
  · rename_i xs hσ
    split at h
    rotate_left
    · cases h
    rename_i ns hn
    refine e2a2 (X.at hσ) fun vs n ho hR9_3 => ?_
    obtain rfl := hR9_3
    exact in_list_ints (vs := vs.toList) ⟨_, ho, rfl, _, rfl⟩ (intsAre_of hn) ⟨σ, X, h⟩
  · rename_i xs hσ
    split at h
    rotate_left
    · cases h
    rename_i ns hn
    refine e2a2 (X.at hσ) fun vs n ho hR10_3 => ?_
    obtain rfl := hR10_3
    exact in_tuple_ints ⟨_, ho, rfl, _, rfl⟩ (intsAre_of hn) ⟨σ, X, h⟩
  · cases h
theorem notInP_sound {C : Cx} {A : Around} {k : Int} {t : Tok} {a : Addr} {σ : Hp} {Q : Value → Hp → Prop} (h : inP k a σ fun b => Q (vb !b) σ) :
    W C A (compareOp .NotIn (.int k t) (.ref a)) σ (fun v => Q (norm v)) := by
  intro F s X
  unfold inP at h
  split at h
  · rename_i kvs ep hσ
    refine e1a2 (X.at hσ) fun l hd hR11_2 => ?_
    obtain rfl := hR11_2
    rw [hasK_nkv] at h
    exact wpAny_notIn_of (intKind_is _ _ k t) (X.ne1 hσ) hd.dictOf.mapOf ⟨σ, X.tok _, h⟩
  · rename_i xs hσ
    split at h
    rotate_left
    · cases h
    rename_i ns hn
    refine e2a2 (X.at hσ) fun vs n ho hR12_3 => ?_
    obtain rfl := hR12_3
    exact notin_list_ints (vs := vs.toList) ⟨_, ho, rfl, _, rfl⟩ (intsAre_of hn) ⟨σ, X, h⟩
  · rename_i xs hσ
    split at h
    rotate_left
    · cases h
    rename_i ns hn
    refine e2a2 (X.at hσ) fun vs n ho hR13_3 => ?_
    obtain rfl := hR13_3
    exact notin_tuple_ints ⟨_, ho, rfl, _, rfl⟩ (intsAre_of hn) ⟨σ, X, h⟩
  · cases h
theorem nkv_nil {K : Type} {l : List (K × Value)} (h : nkv l = []) : l = [] := List.map_eq_nil_iff.mp h
theorem keq_empty {A : Around} {s : Shared} {ka : List (Int × Value)} (h : ka.length = ([] : List (Int × Value)).length) : KeqHits A s ([] : List (Int × Value)) ka true := by
  have : ka = [] := List.length_eq_zero_iff.mp h
  subst this; exact .nil
theorem eqP_sound {C : Cx} {k : Nat} {A : Around} (hA : AOk k A) {a b : Addr} {σ : Hp} {Q : Value → Hp → Prop} (h : eqP a b σ fun b => Q (vb b) σ) :
    W C A (compareOp .Eq (.ref a) (.ref b)) σ (fun v => Q (norm v)) := by
  intro F s X
  unfold eqP at h
  split at h
  · rename_i xs ys hσ hτ
    split at h
    rotate_left
    · cases h
    rename_i ns ms hn hm
    refine e2a2 (X.at hσ) fun vs n ho hR14_3 => ?_
    obtain rfl := hR14_3
    refine e2a2 (X.at hτ) fun ws n' ho' hR15_3 => ?_
    obtain rfl := hR15_3
    exact ke_eq_ints (xs := vs.toList) (ys := ws.toList) ⟨_, ho, rfl, _, rfl⟩ ⟨_, ho', rfl, _, rfl⟩ (intsAre_of hn) (intsAre_of hm) (by have := hA.units; rw [cLine_is]; omega) ⟨σ, X, h⟩
  · rename_i kvs ep ep' hσ hτ
    refine e1a2 (X.at hσ) fun l hd hR16_2 => ?_
    obtain rfl := hR16_2
    refine e1a2 (X.at hτ) fun l' hd' e => ?_
    cases nkv_nil e
    refine keq_eq (r := true) (X.ne1 hσ) (X.ne1 hτ) hd.dictOf hd'.dictOf hA.cl keq_empty ⟨σ, X, ?_⟩
    have e : ((l.length == ([] : List (Int × Value)).length) && true) = (nkv l).isEmpty := by cases l <;> simp [nkv]
    rw [e]; exact h
  · cases h
theorem neP_sound {C : Cx} {k : Nat} {A : Around} (hA : AOk k A) {a b : Addr} {σ : Hp} {Q : Value → Hp → Prop} (h : eqP a b σ fun b => Q (vb !b) σ) :
    W C A (compareOp .NotEq (.ref a) (.ref b)) σ (fun v => Q (norm v)) := by
  intro F s X
  unfold eqP at h
  split at h
  · rename_i xs ys hσ hτ
    split at h
    rotate_left
    · cases h
    rename_i ns ms hn hm
    refine e2a2 (X.at hσ) fun vs n ho hR18_3 => ?_
    obtain rfl := hR18_3
    refine e2a2 (X.at hτ) fun ws n' ho' hR19_3 => ?_
    obtain rfl := hR19_3
    exact ke_ne_ints (xs := vs.toList) (ys := ws.toList) ⟨_, ho, rfl, _, rfl⟩ ⟨_, ho', rfl, _, rfl⟩ (intsAre_of hn) (intsAre_of hm) (by have := hA.units; rw [cLine_is]; omega) ⟨σ, X, h⟩
  · rename_i kvs ep ep' hσ hτ
    refine e1a2 (X.at hσ) fun l hd hR20_2 => ?_
    obtain rfl := hR20_2
    refine e1a2 (X.at hτ) fun l' hd' e => ?_
    cases nkv_nil e
    refine keq_ne (r := true) (X.ne1 hσ) (X.ne1 hτ) hd.dictOf hd'.dictOf hA.cl keq_empty ⟨σ, X, ?_⟩
    have e : ((l.length == ([] : List (Int × Value)).length) && true) = (nkv l).isEmpty := by cases l <;> simp [nkv]
    rw [e]; exact h
  · cases h
theorem ltT_sound {C : Cx} {k : Nat} {A : Around} (hA : AOk k A) {a b : Addr} {σ : Hp} {Q : Value → Hp → Prop} (h : ltT a b σ fun b => Q (vb b) σ) : W C A (compareOp .Lt (.ref a) (.ref b)) σ (fun v => Q (norm v)) := by
  intro F s X
  refine e0a2 h fun hN22_0 h => ?_
  refine e2a2 hN22_0 fun x y h1 h2 => ?_
  clear hN22_0
  refine e2a2 (X.at h1) fun vs n ho e1 => ?_
  refine e2a2 (X.at h2) fun ws n' ho' e2 => ?_
  refine e1a1 (tup2_of e1) fun t hR26_1 => ?_
  obtain rfl := hR26_1
  refine e1a1 (tup2_of e2) fun u hR27_1 => ?_
  obtain rfl := hR27_1
  exact tup_lt ho ho' rfl rfl hA.cl ⟨σ, X, h _⟩
set_option maxHeartbeats 1000000 in
theorem cmpP_sound {C : Cx} {k : Nat} {A : Around} (hA : AOk k A) {op : CmpOp} {a b : Value} {σ : Hp} {Q : Value → Hp → Prop} (h : cmpP op (norm a) (norm b) σ fun b => Q (vb b) σ) :
    W C A (compareOp op a b) σ (fun v => Q (norm v)) := by
  intro F s X
  refine hideG fun PG kG => ?_
  unfold cmpP at h
  revert h
  cases ha : vk (norm a) <;> cases hb : vk (norm b) <;> cases op <;> intro h <;> first | exact False.elim h | refine kG ?_
  · obtain ⟨t, rfl⟩ := vk_int ha; obtain ⟨u, rfl⟩ := vk_int hb; exact PySem.P.eq_int ⟨σ, X, h⟩
  · obtain ⟨t, rfl⟩ := vk_int ha; obtain ⟨u, rfl⟩ := vk_int hb; exact PySem.P.ne_int ⟨σ, X, h⟩
  · obtain ⟨t, rfl⟩ := vk_int ha; obtain ⟨u, rfl⟩ := vk_int hb; exact PySem.P.lt_int ⟨σ, X, h⟩
  · obtain ⟨t, rfl⟩ := vk_int ha; obtain ⟨u, rfl⟩ := vk_int hb; exact PySem.P.ge_int ⟨σ, X, h⟩
  · obtain ⟨t, rfl⟩ := vk_int ha; cases vk_ref hb; exact inP_sound h.out F s X
  · obtain ⟨t, rfl⟩ := vk_int ha; cases vk_ref hb; exact notInP_sound h.out F s X
  · cases vk_ref ha; cases vk_ref hb; exact eqP_sound hA h.out F s X
  · cases vk_ref ha; cases vk_ref hb; exact neP_sound hA h.out F s X
  · cases vk_ref ha; cases vk_ref hb; exact ltT_sound hA h.out F s X
  · cases vk_ref ha; cases vk_none hb; exact is_none ⟨σ, X, h⟩
  · cases vk_none ha; cases vk_none hb; exact is_none ⟨σ, X, h⟩
end Mine
namespace Mine
section
variable {C : Cx} {F : Fm} {σ : Hp} {s : Shared} {A : Around} {E : Value → Shared → Prop}
theorem Ok.frag (X : Ok C F σ s) (B : Bs C) : C.K.In s.heap := B.X.keeps fun a o e => X.1.fr a o (X.1.base a o e)
noncomputable def plainV : Value → Bool
  | .builtin _ => false
  | _ => true
theorem handed_of {v : Value} (h : plainV (norm v) = true) : handedIn v = true := by
  cases v <;> first | rfl | cases h
theorem strKeys_noRef {es : Array DictEntry} (hk : StrKeys es) : es.any (·.refKey) = false := by
  rw [Array.any_eq_false']; intro e he; obtain ⟨n, t, h⟩ := hk e he; simp [DictEntry.refKey, h]
theorem lookIn_att {o : Obj} {es : Array DictEntry} {ep : Nat} (hd : o.data = .dict es ep) (hk : StrKeys es) (x : Str) : lookIn x o = some (nsFind es x) := by
  unfold lookIn
  rw [hd]; dsimp only
  have e : nsFind es x = (es.toList.find? (·.key.isStr x)).map (·.val) := by
    unfold nsFind findBy; rw [← Array.find?_toList]
  rw [e]
  cases es.toList.find? (·.key.isStr x) with
  | some e => rfl
  | none =>
    dsimp only
    rw [Array.any_toList, strKeys_noRef hk]; rfl
theorem inst_at (X : Ok C F σ s) {a Ca D : Addr} {m : Str → Option Value} {n : Nat} (h1 : σ a = some (.inst Ca D)) (h2 : σ D = some (.att m n)) :
    ∃ o es ep, InstAt s.heap a (instObj Ca D) Ca (some o) ∧ s.heap.get? D = some o ∧ o.data = .dict es ep ∧ StrKeys es ∧ es.size ≤ n ∧ ∀ x, (nsFind es x).map norm = m x := by
  have H1 : s.heap.get? a = some (instObj Ca D) := X.at h1
  refine e3a5 (X.at h2) fun o es ep ho hd hk hz hm => ?_
  exact ⟨o, es, ep, ⟨H1, rfl, rfl, ho⟩, ho, hd, hk, hz, hm⟩
noncomputable def attrP (o : Value) (x : Str) (σ : Hp) (Q : Value → Hp → Prop) : Prop := match o with
  | .ref a => match σ a with
    | some (.inst Ca D) => (isCls Ca = true ∧ (fldOf Ca).contains x = true) ∧ match σ D with
      | some (.att m _) => match m x with
        | some v => plainV v = true ∧ Q v σ
        | none => False
      | _ => False
    | _ => False
  | _ => False
theorem fld_find {K : Frag} {od : Obj} {es : Array DictEntry} {ep : Nat} {a : Addr} {x : Str} {v : Value} (hh : hasDictIn K a = true) (hf : findIn K (.ref a) x = some none) (hd : od.data = .dict es ep) (hk : StrKeys es) (hv : nsFind es x = some v) :
    findObj K a (some od) x = some (.value v) :=
  findObj_own hh hf rfl (by rw [lookIn_att hd hk, hv])
theorem attrP_sound (B : Bs C) {o : Value} {x : Str} {e : Bool} {Q : Value → Hp → Prop} (h : attrP (norm o) x σ Q) : W C A (getAttr o x e) σ (fun v => Q (norm v)) := by
  intro F s X
  unfold attrP at h
  split at h
  · rename_i a ha
    cases norm_ref ha
    split at h
    · rename_i Ca D h1
      refine e0a2 h fun hN1_0 h => ?_
      refine e0a2 hN1_0 fun hc hf => ?_
      clear hN1_0
      split at h
      · rename_i m n h2
        split at h
        · rename_i v hv
          refine e3a6 (inst_at X h1 h2) fun o es ep I ho hd hk hz hm => ?_
          have := hm x
          rw [hv] at this
          refine e1a2 (Option.map_eq_some_iff.mp this) fun v' hv' hR4_2 => ?_
          obtain rfl := hR4_2
          exact get_value (X.frag B) I (B.cls _ hc).ga (fld_find (B.cls _ hc).hd (B.fld _ _ hf) hd hk hv') (handed_of h.1) ⟨σ, X.tok _, h.2⟩
        · cases h
      · cases h
    · cases h
  · cases h

/-! fields stored -/
noncomputable def setattrP (o : Value) (x : Str) (v : Value) (σ : Hp) (Q : Hp → Prop) : Prop := match o with
  | .ref a => match σ a with
    | some (.inst Ca D) => (isCls Ca = true ∧ (fldOf Ca).contains x = true) ∧ match σ D with
      | some (.att m n) => n ≤ 100 ∧ Q (upd σ D (.att (setR m x v) (n + if (m x).isSome then 0 else 1)))
      | _ => False
    | _ => False
  | _ => False
theorem putName_att {o : Obj} {es : Array DictEntry} {ep n : Nat} {name : Str} {hh : Int} {t : Tok} {v : Value} {m : Str → Option Value} (hd : o.data = .dict es ep) (hk : StrKeys es) (hz : es.size ≤ n) (hm : ∀ x, (nsFind es x).map norm = m x) (hs : hh = PyData.keyHash P name) :
    ∃ es' ep', (Obj.putName name hh (.str name t) v o).data = .dict es' ep' ∧ StrKeys es' ∧ es'.size ≤ n + (if (m name).isSome then 0 else 1) ∧ ∀ x, (nsFind es' x).map norm = setR m name (norm v) x := by
  refine hideG fun PG kG => ?_
  obtain ⟨c, d, dt, sl⟩ := o
  refine kG ?_
  clear kG PG
  subst hd
  cases hi : es.findIdx? (·.key.isStr name) with
  | some i =>
    refine ⟨es.modify i fun e => { e with val := v }, ep, by simp only [Obj.putName_eq, Obj.putNameByArray, hi], hk.modify _ _, ?_, fun x => ?_⟩
    · rw [Array.size_modify]; exact Nat.le_trans hz (Nat.le_add_right _ _)
    · have e := findBy_modify (fun n v => v.isStr n) Value.isStr_inj es name x v i hi
      show (findBy _ _ x).map norm = _
      rw [e]
      unfold setR
      by_cases q : x = name
      · rw [if_pos q, if_pos q]; rfl
      · rw [if_neg q, if_neg q]; exact hm x
  | none =>
    refine ⟨es.push ⟨hh, .str name t, v⟩, ep + 1, by simp only [Obj.putName_eq, Obj.putNameByArray, hi], ?_, ?_, fun x => ?_⟩
    · exact hk.push _ _ _ _
    · rw [Array.size_push]
      have : m name = none := by
        rw [← hm name]
        unfold nsFind findBy
        rw [Array.findIdx?_eq_none_iff] at hi
        have : es.find? (fun e => e.key.isStr name) = none := by
          rw [Array.find?_eq_none]; intro e he; simpa using hi e he
        rw [this]; rfl
      rw [this]; simpa using hz
    · have e := findBy_push (fun n v => v.isStr n) es name x hh (.str name t) v (fun y => by
        show (name == y) = decide (y = name)
        by_cases h : y = name
        · subst h; simp
        · have : ¬ name = y := fun e => h e.symm
          simp [h, this]) hi
      show (findBy _ _ x).map norm = _
      rw [e]
      unfold setR
      by_cases q : x = name
      · rw [if_pos q, if_pos q]; rfl
      · rw [if_neg q, if_neg q]; exact hm x
theorem taker_of {K : Frag} {a : Addr} {x : Str} (hf : findIn K (.ref a) x = some none) : takerIn K a x = some none := by
  unfold takerIn; rw [hf]; rfl
theorem setattrP_sound (B : Bs C) {o : Value} {x : Str} {v : Value} {Q : Hp → Prop} (h : setattrP (norm o) x (norm v) σ Q) : W C A (setAttr o x v) σ (fun _ => Q) := by
  intro F s X
  unfold setattrP at h
  split at h
  · rename_i a ha
    cases norm_ref ha
    split at h
    · rename_i Ca D h1
      refine e0a2 h fun hN6_0 h => ?_
      refine e0a2 hN6_0 fun hc hf => ?_
      clear hN6_0
      split at h
      · rename_i m n h2
        refine e3a6 (inst_at X h1 h2) fun o es ep I ho hd hk hz hm => ?_
        have K := B.cls _ hc
        refine e1a2 (any_some K.hd) fun cd hcd hd' => ?_
        have X' := X.frag B
        refine set_plain X' I K.sa (osa_open (s := { s with toks := s.toks + 1 }) X' I K.po (taker_of (B.fld _ _ hf)) fun b => ?_)
        have hx : s.heap.get? a = some (instObj Ca D) := X.at h1
        refine wpAny_bind (wpAny_pure (wpAny_bind (wpAny_bind (wpAny_loadPart hx (wpAny_bind (looks_clsIn X' hcd _ _ _ _ (fun _ _ e => e) ?_))))))
        rw [hd']
        refine wpAny_pure (a := some D) (wpAny_bind (wpAny_pure (wpAny_bind ?_)))
        unfold nsSet
        refine wpAny_bind (wpAny_bind (wpAny_askSetting (wpAny_pure (wpAny_bind (wpAny_mkText (wpAny_bind (wpAny_loadPart ho ?_)))))))
        rw [hd]; dsimp only
        rw [aRefKeyMayBeTheName_eq]
        have hno : aRefKeyMayBeTheNameByArray x es = false := by
          unfold aRefKeyMayBeTheNameByArray; rw [strKeys_noRef hk, Bool.and_false]
        rw [hno]
        refine wpAny_updatePart ho ?_
        refine e2a4 (putName_att (name := x) (hh := PyData.keyHash C.w.params x) (t := s.toks + 1) (v := v) hd hk hz hm rfl) fun es' ep' hd2 hk2 hz2 hm2 => ?_
        have ho' : (s.heap.update D (Obj.putName x (PyData.keyHash C.w.params x) (.str x (s.toks + 1)) v)).get? D = some (Obj.putName x (PyData.keyHash C.w.params x) (.str x (s.toks + 1)) v o) := Heap.get?_update_self _ ho (by revert hd2; generalize Obj.putName x (PyData.keyHash C.w.params x) (.str x (s.toks + 1)) v o = z; intro hd2; obtain ⟨_, _, dd, _⟩ := z; cases hd2; rfl)
        refine wpAny_bind (wpAny_lookBehind ho' (by rw [hd2]; exact pastItsLine_dict (by rw [sizeLine_eq]; have := h.1; have : (n + if (m x).isSome then 0 else 1) ≤ n + 1 := by split <;> omega
                                                                                         omega)) ?_)
        refine wpAny_pure ⟨_, X.heap (X.1.set (y := .att (setR m x (norm v)) (n + if (m x).isSome then 0 else 1)) h2 (Heap.SameBut.update ..).extBut ⟨_, _, _, ho', hd2, hk2, hz2, hm2⟩), h.2⟩
      · cases h
    · cases h
  · cases h

/-! methods -/
noncomputable def callSpec : Type := Value → List Value → Hp → (Value → Hp → Prop) → Prop
/-- the method that an object bears -/
noncomputable def methP (o : Value) (x : Str) (σ : Hp) : Option Value := match o with
  | .ref a => match σ a with
    | some (.inst Ca D) => match σ D with
      | some (.att m _) => match m x, isCls Ca with
        | none, true => ((methOf Ca).lookup x).map .ref
        | _, _ => none
      | _ => none
    | some (.list _) => if x = "append" then some (.builtin "list.append") else if x = "pop" then some (.builtin "list.pop") else if x = "extend" then some (.builtin "list.extend") else if x = "remove" then some (.builtin "list.remove") else none
    | some (.dict _ _) => if x = "get" then some (.builtin "dict.get") else if x = "pop" then some (.builtin "dict.pop") else if x = "update" then some (.builtin "dict.update") else if x = "items" then some (.builtin "dict.items") else if x = "values" then some (.builtin "dict.values") else none
    | _ => none
  | _ => none
theorem dict_noDict {kvs : List (Int × Value)} {ep : Nat} {h : Heap} {a : Addr} (H : Holds C h a (.dict kvs ep)) : ∀ b, Value.ref a = .ref b → ∃ ob, h.get? b = some ob ∧ ob.dict = none := by
  refine e1a2 H fun l hd _ => ?_
  clear H
  exact hd.dictOf.mapOf.noDict
theorem methP_sound (B : Bs C) {o f : Value} {x : Str} {pl : Sem Bool} {Q : Value × List Value → Hp → Prop} (h : methP (norm o) x σ = some f) (q : Q (f, [o]) σ) : W C A (getMethod o x pl) σ Q := by
  intro F s X
  unfold methP at h
  split at h
  · rename_i a ha
    cases norm_ref ha
    split at h
    · rename_i Ca D h1
      split at h
      · rename_i m n h2
        split at h
        · rename_i hm0 hc0
          have hc : isCls Ca = true ∧ m x = none := ⟨hc0, hm0⟩
          refine e1a2 (Option.map_eq_some_iff.mp h) fun f' hf' hR12_2 => ?_
          obtain rfl := hR12_2
          refine e3a6 (inst_at X h1 h2) fun o es ep I ho hd hk hz hm => ?_
          have K := B.cls _ hc.1
          have M := B.meth _ _ _ hf'
          refine method_fn (X.frag B) I K.ga K.gt M.1 M.2 ?_ ⟨σ, X, q⟩
          have e := hm x
          rw [hc.2] at e
          show (lookIn x o).map _ = _
          rw [lookIn_att hd hk, Option.map_eq_none_iff.mp e]; rfl
        · cases h
      · cases h
    · rename_i xs h1
      refine e2a2 (X.at h1) fun vs n ho _ => ?_
      have tp : s.TypeIs (.ref a) "list" := ⟨_, ho, rfl⟩
      have nd : ∀ b, Value.ref a = .ref b → ∃ ob, s.heap.get? b = some ob ∧ ob.dict = none := fun b e => by cases e; exact ⟨_, ho, rfl⟩
      repeat' split at h
      all_goals first | (rename_i e; subst e; cases h) | cases h
      · exact getMethod_builtin tp PySem.F.plainAttrs_list PySem.F.slot_list_append PySem.F.type_list_append nd ⟨σ, X, q⟩
      · exact getMethod_builtin tp PySem.F.plainAttrs_list PySem.F.slot_list_pop PySem.F.type_list_pop nd ⟨σ, X, q⟩
      · exact getMethod_builtin tp PySem.F.plainAttrs_list PySem.F.slot_list_extend PySem.F.type_list_extend nd ⟨σ, X, q⟩
      · exact getMethod_builtin tp PySem.F.plainAttrs_list PySem.F.slot_list_remove PySem.F.type_list_remove nd ⟨σ, X, q⟩
    · rename_i kvs ep h1
      have nd := dict_noDict (X.at h1)
      refine e1a2 (X.at h1) fun l hd _ => ?_
      have tp := hd.dictOf.typeIs
      repeat' split at h
      all_goals first | (rename_i e; subst e; cases h) | cases h
      · exact getMethod_builtin tp PySem.F.plainAttrs_dict PySem.F.slot_dict_get PySem.F.type_dict_get nd ⟨σ, X, q⟩
      · exact getMethod_builtin tp PySem.F.plainAttrs_dict PySem.F.slot_dict_pop PySem.F.type_dict_pop nd ⟨σ, X, q⟩
      · exact getMethod_builtin tp PySem.F.plainAttrs_dict PySem.F.slot_dict_update PySem.F.type_dict_update nd ⟨σ, X, q⟩
      · exact getMethod_builtin tp PySem.F.plainAttrs_dict PySem.F.slot_dict_items PySem.F.type_dict_items nd ⟨σ, X, q⟩
      · exact getMethod_builtin tp PySem.F.plainAttrs_dict PySem.F.slot_dict_values PySem.F.type_dict_values nd ⟨σ, X, q⟩
    · cases h
  · cases h
end
end Mine
namespace Mine
/-! pure facts of key lists -/
theorem nkv_stored {K : Type} [DecidableEq K] (l : List (K × Value)) (k : K) (v : Value) : nkv (stored l k v) = stored (nkv l) k (norm v) := by
  unfold stored nkv
  rw [List.any_map]
  have e : ((fun kv : K × Value => decide (kv.1 = k)) ∘ fun p : K × Value => (p.1, norm p.2)) = fun kv => decide (kv.1 = k) := rfl
  rw [e]
  split
  · rw [List.map_map, List.map_map]
    refine List.map_congr_left fun p _ => ?_
    simp only [Function.comp]
    split <;> rfl
  · rw [List.map_append]; rfl
theorem nkv_valueAt {K : Type} [DecidableEq K] (l : List (K × Value)) (k : K) : valueAt (nkv l) k = (valueAt l k).map norm := by
  unfold valueAt nkv
  rw [List.find?_map]
  have e : ((fun kv : K × Value => decide (kv.1 = k)) ∘ fun p : K × Value => (p.1, norm p.2)) = fun kv => decide (kv.1 = k) := rfl
  rw [e]
  cases List.find? _ l <;> rfl
theorem nkv_without {K : Type} [DecidableEq K] (l : List (K × Value)) (k : K) : nkv (without l k) = without (nkv l) k := by
  unfold without nkv
  rw [List.filter_map]; rfl
theorem nkv_merged {K : Type} [DecidableEq K] (more : List (K × Value)) : ∀ (l : List (K × Value)), nkv (merged l more) = merged (nkv l) (nkv more) := by
  unfold merged
  induction more with
  | nil => intro l; rfl
  | cons p r ih =>
    intro l
    rw [List.foldl_cons, ih]
    simp only [nkv, List.map_cons, List.foldl_cons]
    have := nkv_stored l p.1 p.2
    unfold nkv at this
    rw [this]
theorem nkv_length {K : Type} (l : List (K × Value)) : (nkv l).length = l.length := List.length_map ..
theorem nkv_keys {K : Type} (l : List (K × Value)) : (nkv l).map (·.1) = l.map (·.1) := by unfold nkv; rw [List.map_map]; rfl
theorem ls_of_norm {v : Value} {i : Str} {t : Tok} (h : norm v = .str i t) : ∃ u, v = .str i u := by
  cases v <;> cases h <;> exact ⟨_, rfl⟩
theorem ints_norm {vs : List Value} {ns : List Int} (h : IntsAre vs ns) : vs.map norm = ns.map vi := by
  induction h with
  | nil => rfl
  | cons n t r ih => simp only [List.map_cons, ih]; rfl
theorem norm_map_get {vs : Array Value} {i : Nat} {v : Value} (h : (vs.toList.map norm)[i]? = some v) : ∃ v', vs[i]? = some v' ∧ norm v' = v := by
  rw [List.getElem?_map] at h
  refine e1a2 (Option.map_eq_some_iff.mp h) fun v' hv hR0_2 => ?_
  obtain rfl := hR0_2
  exact ⟨v', by rw [← Array.getElem?_toList]; exact hv, rfl⟩
section
variable {C : Cx} {F : Fm} {σ : Hp} {s : Shared} {A : Around} {E : Value → Shared → Prop}
theorem Ok.new' (X : Ok C F σ s) (B : Bs C) {a : Addr} {x : MO} {h' : Heap} {k : Nat} (kp : ∀ b o, s.heap.get? b = some o → h'.get? b = some o) (ha : s.heap.objs.size ≤ a) (H : Holds C h' a x) : Ok C F (upd σ a x) { s with heap := h', toks := k } :=
  X.heap (X.1.new' B kp ha H)
theorem Ok.none_of (X : Ok C F σ s) {a : Addr} (ha : s.heap.objs.size ≤ a) : σ a = none := X.1.none_of ha
theorem Ok.setDict (X : Ok C F σ s) {a : Addr} {x : MO} (e : σ a = some x) {h' : Heap} {k : Nat} (hs : Heap.SameBut a s.heap h') {l : List (Int × Value)} (hd : h'.DictOf (intKind C.prog C.w) a l) :
    ∃ ep, Ok C F (upd σ a (.dict (nkv l) ep)) { s with heap := h', toks := k } :=
  let ⟨ep, hd'⟩ := hd.dictAt
  ⟨ep, X.heap (X.1.set (y := .dict (nkv l) ep) e hs.extBut ⟨l, hd', rfl⟩)⟩
theorem Ok.setSd (X : Ok C F σ s) {a : Addr} {x : MO} (e : σ a = some x) {h' : Heap} {k : Nat} (hs : Heap.SameBut a s.heap h') {l : List (Str × Value)} (hd : h'.DictOf (strKind C.prog C.w) a l) :
    Ok C F (upd σ a (.sd (nkv l))) { s with heap := h', toks := k } := X.heap (X.1.set (y := .sd (nkv l)) e hs.extBut ⟨l, hd, rfl⟩)
theorem Ok.setList (X : Ok C F σ s) {a : Addr} {x : MO} (e : σ a = some x) {h' : Heap} {k : Nat} (hs : Heap.SameBut a s.heap h') {vs : Array Value} {n : Nat} (hd : h'.get? a = some { cls := .type "list", data := .seq vs n }) :
    Ok C F (upd σ a (.list (vs.toList.map norm))) { s with heap := h', toks := k } := X.heap (X.1.set (y := .list (vs.toList.map norm)) e hs.extBut ⟨vs, n, hd, rfl⟩)
theorem Ok.newDict (X : Ok C F σ s) (B : Bs C) {a : Addr} {h' : Heap} {k : Nat} (kp : ∀ b o, s.heap.get? b = some o → h'.get? b = some o) (ha : s.heap.objs.size ≤ a) {l : List (Int × Value)} (hd : h'.DictOf (intKind C.prog C.w) a l) :
    ∃ ep, Ok C F (upd σ a (.dict (nkv l) ep)) { s with heap := h', toks := k } :=
  let ⟨ep, hd'⟩ := hd.dictAt
  ⟨ep, X.new' B (x := .dict (nkv l) ep) kp ha ⟨l, hd', rfl⟩⟩
theorem Ok.newList (X : Ok C F σ s) (B : Bs C) {a : Addr} {h' : Heap} {k : Nat} (kp : ∀ b o, s.heap.get? b = some o → h'.get? b = some o) (ha : s.heap.objs.size ≤ a) {vs : Array Value} {n : Nat} (hd : h'.get? a = some { cls := .type "list", data := .seq vs n }) :
    Ok C F (upd σ a (.list (vs.toList.map norm))) { s with heap := h', toks := k } := X.new' B (x := .list (vs.toList.map norm)) kp ha ⟨vs, n, hd, rfl⟩

/-! items read -/
noncomputable def getP (o i : Value) (σ : Hp) (Q : Value → Hp → Prop) : Prop := match o, i with
  | .ref a, .int k _ => match σ a with
    | some (.list xs) => (0 ≤ k ∧ k < 2 ^ 63) ∧ match xs[k.toNat]? with | some v => Q v σ | none => False
    | some (.tup xs) => (0 ≤ k ∧ k < 2 ^ 63) ∧ match xs[k.toNat]? with | some v => Q v σ | none => False
    | some (.dict kvs _) => match valueAt kvs k with | some v => Q v σ | none => False
    | _ => False
  | .ref a, .str x _ => match σ a with
    | some (.sd kvs) => match valueAt kvs x with | some v => Q v σ | none => False
    | _ => False
  | _, _ => False
noncomputable def notSlice3 : Expr → Bool
  | .Slice _ _ none _ => false
  | _ => true
theorem subscripted_plain {slice : Expr} (h : notSlice3 slice = true) (o i : Value) : subscripted slice false o i = operate [o, i] (getItem o i) := by
  unfold subscripted
  split
  · cases h
  · rename_i e; cases e
  · rfl
theorem seqIndex_pos {k : Int} {n : Nat} (h0 : 0 ≤ k) (h : k.toNat < n) : seqIndex? k n = some k.toNat := by
  unfold seqIndex?
  have h1 : ¬ k < 0 := by omega
  have h2 : k < (n : Int) := by omega
  simp [h1, h0, h2]
theorem getP_sound {value slice : Expr} {o i : Value} {Q : Value → Hp → Prop} (hs : notSlice3 slice = true) (h : getP (norm o) (norm i) σ Q) : W C A (subscriptTail value slice o i) σ (fun v => Q (norm v)) := by
  intro F s X
  unfold getP at h
  split at h
  · rename_i a k _ ha hi
    cases norm_ref ha
    refine e1a1 (lt_of_norm hi) fun t hR1_1 => ?_
    obtain rfl := hR1_1
    split at h
    · rename_i xs e
      refine e0a2 h fun hN2_0 h => ?_
      refine e0a2 hN2_0 fun h0 h1 => ?_
      clear hN2_0
      split at h
      rotate_left
      · cases h
      rename_i v hv
      refine e2a2 (X.at e) fun vs n ho hR4_3 => ?_
      obtain rfl := hR4_3
      refine e1a2 (norm_map_get hv) fun v' hv' hR5_2 => ?_
      obtain rfl := hR5_2
      exact tail_any (T := "list") ⟨_, ho, rfl⟩ slot_list_getitem.lookup (wpAny_getItem_list ⟨_, ho, rfl, _, rfl⟩ h0 h1 hv' ⟨σ, X, h⟩) (subscripted_plain hs _ _)
    · rename_i xs e
      refine e0a2 h fun hN6_0 h => ?_
      refine e0a2 hN6_0 fun h0 h1 => ?_
      clear hN6_0
      split at h
      rotate_left
      · cases h
      rename_i v hv
      refine e2a2 (X.at e) fun vs n ho hR8_3 => ?_
      obtain rfl := hR8_3
      refine e1a2 (norm_map_get hv) fun v' hv' hR9_2 => ?_
      obtain rfl := hR9_2
      refine tail_any (T := "tuple") ⟨_, ho, rfl⟩ slot_tuple_getitem.lookup (getItem_tuple ⟨_, ho, rfl, _, rfl⟩ (by omega) h1 (seqIndex_pos h0 ?_) hv' ⟨σ, X, h⟩) (subscripted_plain hs _ _)
      exact (Array.getElem?_eq_some_iff.mp hv').1
    · rename_i kvs ep e
      split at h
      rotate_left
      · cases h
      rename_i v hv
      refine e1a2 (X.at e) fun l hd hR10_2 => ?_
      obtain rfl := hR10_2
      rw [nkv_valueAt] at hv
      refine e1a2 (Option.map_eq_some_iff.mp hv) fun v' hv' hR11_2 => ?_
      obtain rfl := hR11_2
      exact tail_any (T := "dict") hd.dictOf.typeIs PySem.F.slot_dict_getitem.lookup (wpAny_getItem_of (intKind_is _ _ k t) hd.dictOf.mapOf hv' ⟨σ, X.tok _, h⟩) (subscripted_plain hs _ _)
    · cases h
  · rename_i a x _ ha hi
    cases norm_ref ha
    refine e1a1 (ls_of_norm hi) fun t hR12_1 => ?_
    obtain rfl := hR12_1
    split at h
    · rename_i kvs e
      split at h
      rotate_left
      · cases h
      rename_i v hv
      refine e1a2 (X.at e) fun l hd hR13_2 => ?_
      obtain rfl := hR13_2
      rw [nkv_valueAt] at hv
      refine e1a2 (Option.map_eq_some_iff.mp hv) fun v' hv' hR14_2 => ?_
      obtain rfl := hR14_2
      exact tail_any (T := "dict") hd.typeIs PySem.F.slot_dict_getitem.lookup (wpAny_getItem_of (strKind_is _ _ x t) hd.mapOf hv' ⟨σ, X.tok _, h⟩) (subscripted_plain hs _ _)
    · cases h
  · cases h

/-! items stored -/
noncomputable def setP (o i v : Value) (σ : Hp) (Q : Hp → Prop) : Prop := match o, i with
  | .ref a, .int k _ => match σ a with
    | some (.dict kvs _) => kvs.length ≤ 10000 ∧ ∀ ep, Q (upd σ a (.dict (stored kvs k v) ep))
    | _ => False
  | .ref a, .str x _ => match σ a with
    | some (.sd kvs) => kvs.length ≤ 10000 ∧ Q (upd σ a (.sd (stored kvs x v)))
    | _ => False
  | _, _ => False
theorem setP_sound {o i v : Value} {Q : Hp → Prop} (h : setP (norm o) (norm i) (norm v) σ Q) : W C A (setItem o i v) σ (fun _ => Q) := by
  intro F s X
  unfold setP at h
  split at h
  · rename_i a k _ ha hi
    cases norm_ref ha
    refine e1a1 (lt_of_norm hi) fun t hR15_1 => ?_
    obtain rfl := hR15_1
    split at h
    · rename_i kvs ep e
      refine e1a2 (X.at e) fun l hd hR16_2 => ?_
      obtain rfl := hR16_2
      refine wpAny_setItem_pairs (intKind_is _ _ k t) hd.dictOf (fun h' hd' hs => ?_) (by have := h.1; rw [nkv_length] at this; rw [sizeLine_eq]; omega)
      refine e1a1 (X.setDict (k := s.toks + 1) e hs hd') fun ep' Y => ?_
      rw [nkv_stored] at Y
      exact ⟨_, Y, h.2 ep'⟩
    · cases h
  · rename_i a x _ ha hi
    cases norm_ref ha
    refine e1a1 (ls_of_norm hi) fun t hR18_1 => ?_
    obtain rfl := hR18_1
    split at h
    · rename_i kvs e
      refine e1a2 (X.at e) fun l hd hR19_2 => ?_
      obtain rfl := hR19_2
      refine wpAny_setItem_pairs (strKind_is _ _ x t) hd (fun h' hd' hs => ?_) (by have := h.1; rw [nkv_length] at this; rw [sizeLine_eq]; omega)
      have Y := X.setSd (k := s.toks + 1) e hs hd'
      rw [nkv_stored] at Y
      exact ⟨_, Y, h.2⟩
    · cases h
  · cases h
end
end Mine
namespace Mine
theorem map_eraseIdx' {α β : Type} (f : α → β) (l : List α) (i : Nat) : (l.eraseIdx i).map f = (l.map f).eraseIdx i := by
  rw [List.eraseIdx_eq_take_drop_succ, List.eraseIdx_eq_take_drop_succ, List.map_append, List.map_take, List.map_drop]
section
variable {C : Cx} {F : Fm} {σ : Hp} {s : Shared} {A : Around} {E : Value → Shared → Prop}
/-! methods of lists -/
noncomputable def appendP (a : Addr) (v : Value) (σ : Hp) (Q : Value → Hp → Prop) : Prop := match σ a with
  | some (.list xs) => xs.length ≤ 10000 ∧ Q .none (upd σ a (.list (xs ++ [v])))
  | _ => False
theorem appendP_sound {a : Addr} {v : Value} {Q : Value → Hp → Prop} (h : appendP a (norm v) σ Q) : W C A (call (.builtin "list.append") [.ref a, v]) σ (fun r => Q (norm r)) := by
  intro F s X
  unfold appendP at h
  split at h
  · rename_i xs e
    refine e2a2 (X.at e) fun vs n ho hR0_3 => ?_
    obtain rfl := hR0_3
    refine append_at ho (fun h' hs hd => ?_) (by have := h.1; rw [List.length_map, Array.length_toList] at this; rw [sizeLine_eq]; omega)
    have Y := X.setList (k := s.toks) e hs hd
    rw [Array.toList_push, List.map_append] at Y
    exact ⟨_, Y, h.2⟩
  · cases h
noncomputable def popP (a : Addr) (σ : Hp) (Q : Value → Hp → Prop) : Prop := match σ a with
  | some (.list xs) => xs.length ≤ 10000 ∧ ∃ ys y, xs = ys ++ [y] ∧ Q y (upd σ a (.list ys))
  | _ => False
theorem popP_sound {a : Addr} {Q : Value → Hp → Prop} (h : popP a σ Q) : W C A (call (.builtin "list.pop") [.ref a]) σ (fun r => Q (norm r)) := by
  intro F s X
  unfold popP at h
  split at h
  · rename_i xs e
    refine e2a2 (X.at e) fun vs n ho hR1_3 => ?_
    obtain rfl := hR1_3
    refine hideG fun PG kG => ?_
    obtain ⟨hz, ys, y, hv, h⟩ := h
    refine kG ?_
    clear kG PG
    have hl : vs.size = ys.length + 1 := by
      have := congrArg List.length hv
      simpa using this
    have hg : (vs.toList.map norm)[vs.size - 1]? = some y := by rw [hv, hl]; simp
    refine e1a2 (norm_map_get hg) fun v' hv' hR3_2 => ?_
    obtain rfl := hR3_2
    refine call_meets PySem.F.slot_list_pop ⟨_, ho, rfl⟩ PySem.F.entry_list_pop (PySem.F.args_list_pop_1 _) (MeetsSeq.list_pop_last a vs n v' hv' (by rw [List.length_map, Array.length_toList] at hz; rw [sizeLine_eq]; omega)) ⟨ho, ?_⟩
    have Y := X.setList (k := s.toks) e (Heap.SameBut.update ..) (PySem.IsL.update ho fun xs => xs.eraseIdxIfInBounds (vs.size - 1))
    have e2 : ((vs.eraseIdxIfInBounds (vs.size - 1)).toList.map norm) = ys := by
      have q : vs.size - 1 < vs.size := by omega
      unfold Array.eraseIdxIfInBounds
      rw [dif_pos q, Array.toList_eraseIdx, map_eraseIdx', hv, hl]
      rw [Nat.add_sub_cancel, List.eraseIdx_append_of_length_le (Nat.le_refl _), Nat.sub_self]; simp
    rw [e2] at Y
    exact ⟨_, Y, h⟩
  · cases h
noncomputable def extendP (a b : Addr) (σ : Hp) (Q : Value → Hp → Prop) : Prop := match σ a, σ b with
  | some (.list xs), some (.list ys) => xs.length + ys.length ≤ 10000 ∧ Q .none (upd σ a (.list (xs ++ ys)))
  | _, _ => False
theorem extendP_sound {a b : Addr} {Q : Value → Hp → Prop} (h : extendP a b σ Q) : W C A (call (.builtin "list.extend") [.ref a, .ref b]) σ (fun r => Q (norm r)) := by
  intro F s X
  unfold extendP at h
  split at h
  · rename_i xs ys e e'
    refine e2a2 (X.at e) fun vs n ho hR4_3 => ?_
    obtain rfl := hR4_3
    refine e2a2 (X.at e') fun ws n' ho' hR5_3 => ?_
    obtain rfl := hR5_3
    have hz : vs.size + ws.size ≤ 10000 := by simpa using h.1
    refine call_meets PySem.F.slot_list_extend ⟨_, ho, rfl⟩ PySem.F.entry_list_extend (PySem.F.args_list_extend_2 _ _) (PySem.AutoSeq1.list_extend_list_list_0 a vs n b ws n' ?_ (by rw [sizeLine_eq]; omega) (by rw [sizeLine_eq]; omega)) ⟨ho, ho', ?_⟩
    · simp only [Builtin.List.listTooLong, Bool.and_eq_true, not_and]
      intro _; rw [sizeLine_eq]; simp; omega
    · have Y := X.setList (k := s.toks) e (Heap.SameBut.update ..) (PySem.IsL.update ho fun xs => xs ++ ws)
      rw [Array.toList_append, List.map_append] at Y
      exact ⟨_, Y, h.2⟩
  · cases h
theorem ints_back {vs : List Value} {ns : List Int} (h : vs.map norm = ns.map vi) : IntsAre vs ns := intsAre_of (by rw [h]; exact allInt_vi ns)
theorem ints_get {vs : List Value} {ns : List Int} (h : vs.map norm = ns.map vi) {i : Nat} (hi : i < vs.length) (hj : i < ns.length) : ∃ t, vs[i] = .int ns[i] t := by
  have e : (vs.map norm)[i]? = (ns.map vi)[i]? := by rw [h]
  rw [List.getElem?_map, List.getElem?_map, List.getElem?_eq_getElem hi, List.getElem?_eq_getElem hj] at e
  exact lt_of_norm (Option.some.inj e)
noncomputable def removeP (a : Addr) (k : Int) (σ : Hp) (Q : Value → Hp → Prop) : Prop := match σ a with
  | some (.list xs) => ∃ ns : List Int, xs = ns.map vi ∧ ns.length ≤ 10000 ∧ k ∈ ns ∧ Q .none (upd σ a (.list ((ns.erase k).map vi)))
  | _ => False
theorem removeP_sound {a : Addr} {k : Int} {t : Tok} {Q : Value → Hp → Prop} (h : removeP a k σ Q) : W C A (call (.builtin "list.remove") [.ref a, .int k t]) σ (fun r => Q (norm r)) := by
  intro F s X
  unfold removeP at h
  split at h
  · rename_i xs e
    refine e2a2 (X.at e) fun vs n ho hR6_3 => ?_
    obtain rfl := hR6_3
    refine e1a4 h fun ns hv hz hk h => ?_
    have hl : vs.size = ns.length := by simpa using congrArg List.length hv
    have hj : ns.idxOf k < ns.length := List.idxOf_lt_length_of_mem hk
    have key : ∀ m (hm : m < vs.size), isInt k vs[m] = (ns[m]'(hl ▸ hm) == k) := fun m hm => by
      refine e1a1 (ints_get hv (i := m) (by simpa using hm) (hl ▸ hm)) fun u hu => ?_
      rw [Array.getElem_toList] at hu
      rw [hu]; rfl
    refine call_meets PySem.F.slot_list_remove ⟨_, ho, rfl⟩ PySem.F.entry_list_remove (PySem.F.args_list_remove_2 _ _)
      (MeetsSeq.list_remove a vs n (.int k t) (isInt k) (fun y hy => eq_isInt k t (ints_back hv) y (by simpa using hy)) (ns.idxOf k) (hl ▸ hj) ?_ (fun m hm hlt => ?_) (by rw [sizeLine_eq]; omega)) ⟨ho, ?_⟩
    · rw [key]; simp
    · rw [key]; exact List.not_of_lt_findIdx hlt
    · have Y := X.setList (k := s.toks) e (Heap.SameBut.update ..) (PySem.IsL.update ho fun xs => xs.eraseIdxIfInBounds (ns.idxOf k))
      have e2 : ((vs.eraseIdxIfInBounds (ns.idxOf k)).toList.map norm) = (ns.erase k).map vi := by
        have q : ns.idxOf k < vs.size := hl ▸ hj
        unfold Array.eraseIdxIfInBounds
        rw [dif_pos q, Array.toList_eraseIdx, map_eraseIdx', hv, List.erase_eq_eraseIdx_of_idxOf rfl, map_eraseIdx']
      rw [e2] at Y
      exact ⟨_, Y, h⟩
  · cases h

/-! methods of dicts -/
noncomputable def dgetP (a : Addr) (k : Int) (v : Value) (σ : Hp) (Q : Value → Hp → Prop) : Prop := match σ a with
  | some (.dict kvs _) => Q ((valueAt kvs k).getD v) σ
  | _ => False
theorem dgetP_sound {a : Addr} {k : Int} {t : Tok} {v : Value} {Q : Value → Hp → Prop} (h : dgetP a k (norm v) σ Q) : W C A (call (.builtin "dict.get") [.ref a, .int k t, v]) σ (fun r => Q (norm r)) := by
  intro F s X
  unfold dgetP at h
  split at h
  · rename_i kvs ep e
    refine e1a2 (X.at e) fun l hd hR9_2 => ?_
    obtain rfl := hR9_2
    refine call_meetsIn PySem.F.slot_dict_get hd.dictOf.typeIs PySem.F.entry_dict_get (PySem.F.args_dict_get_3 _ _ _) (meets_dict_get_default (intKind C.prog C.w) a (intKind_is _ _ k t) (X.ne1 e) v) ⟨_, hd.dictOf.mapOf, ⟨σ, X.tok _, ?_⟩⟩
    have e2 : norm ((valueAt l k).getD v) = (valueAt (nkv l) k).getD (norm v) := by
      rw [nkv_valueAt]; cases valueAt l k <;> rfl
    show Q (norm _) σ
    rw [e2]; exact h
  · cases h
noncomputable def dpopP (a : Addr) (k : Int) (σ : Hp) (Q : Value → Hp → Prop) : Prop := match σ a with
  | some (.dict kvs _) => kvs.length ≤ 10000 ∧ match valueAt kvs k with | some v => ∀ ep, Q v (upd σ a (.dict (without kvs k) ep)) | none => False
  | _ => False
theorem dpopP_sound {a : Addr} {k : Int} {t : Tok} {Q : Value → Hp → Prop} (h : dpopP a k σ Q) : W C A (call (.builtin "dict.pop") [.ref a, .int k t]) σ (fun r => Q (norm r)) := by
  intro F s X
  unfold dpopP at h
  split at h
  · rename_i kvs ep e
    refine e1a2 (X.at e) fun l hd hR10_2 => ?_
    obtain rfl := hR10_2
    refine e0a2 h fun hz h => ?_
    split at h
    rotate_left
    · cases h
    rename_i v hv
    rw [nkv_valueAt] at hv
    refine e1a2 (Option.map_eq_some_iff.mp hv) fun v' hv' hR12_2 => ?_
    obtain rfl := hR12_2
    refine call_meetsIn PySem.F.slot_dict_pop hd.dictOf.typeIs PySem.F.entry_dict_pop (PySem.F.args_dict_pop_2 _ _) (meets_dict_pop_there (intKind C.prog C.w) a (intKind_is _ _ k t) [] (.inl rfl) rfl)
      ⟨l, v', hd.dictOf, by rw [nkv_length] at hz; rw [sizeLine_eq]; omega, hv', fun h' hd' hs => ?_⟩
    refine e1a1 (X.setDict (k := s.toks + 1) e hs hd') fun ep' Y => ?_
    rw [nkv_without] at Y
    exact ⟨_, Y, h ep'⟩
  · cases h
noncomputable def dupdP (a b : Addr) (σ : Hp) (Q : Value → Hp → Prop) : Prop := match σ a, σ b with
  | some (.dict kvs _), some (.dict more _) => a ≠ b ∧ kvs.length + more.length ≤ 10000 ∧ ∀ ep, Q .none (upd σ a (.dict (merged kvs more) ep))
  | _, _ => False
theorem dupdP_sound {a b : Addr} {Q : Value → Hp → Prop} (h : dupdP a b σ Q) : W C A (call (.builtin "dict.update") [.ref a, .ref b]) σ (fun r => Q (norm r)) := by
  intro F s X
  unfold dupdP at h
  split at h
  · rename_i kvs ep more ep' e e'
    refine e1a2 (X.at e) fun l hd hR14_2 => ?_
    obtain rfl := hR14_2
    refine e1a2 (X.at e') fun l' hd' hR15_2 => ?_
    obtain rfl := hR15_2
    refine e0a3 h fun hne hz h => ?_
    refine call_meetsIn PySem.F.slot_dict_update hd.dictOf.typeIs PySem.F.entry_dict_update (PySem.F.args_dict_update_2 _ _) (meets_dict_update (intKind C.prog C.w) a b hne (X.ne1 e'))
      ⟨l, l', hd.dictOf, hd'.dictOf, by rw [nkv_length, nkv_length] at hz; rw [sizeLine_eq]; omega, fun h' hm _ hs => ?_⟩
    refine e1a1 (X.setDict (k := s.toks) e hs hm) fun ep' Y => ?_
    rw [nkv_merged] at Y
    exact ⟨_, Y, h ep'⟩
  · cases h
noncomputable def isDict (σ : Hp) (a : Addr) : Prop := match σ a with
  | some (.dict _ _) => True
  | _ => False
noncomputable def itemsP (a : Addr) (σ : Hp) (Q : Value → Hp → Prop) : Prop := isDict σ a ∧ ∀ c, σ c = none → Q (.ref c) (upd σ c (.items a))
theorem itemsP_sound (B : Bs C) {a : Addr} {Q : Value → Hp → Prop} (h : itemsP a σ Q) : W C A (call (.builtin "dict.items") [.ref a]) σ (fun r => Q (norm r)) := by
  intro F s X
  refine e0a2 h fun h0 h => ?_
  unfold isDict at h0
  split at h0
  · rename_i kvs ep e
    refine e1a2 (X.at e) fun l hd hR19_2 => ?_
    obtain rfl := hR19_2
    exact call_meetsIn PySem.F.slot_dict_items hd.dictOf.typeIs PySem.F.entry_dict_items (PySem.F.args_dict_items_1 _) (meets_dict_items (intKind C.prog C.w) a (X.ne1 e)) ⟨⟨_, hd.dictOf⟩,
      ⟨_, X.push B (x := .items a) ⟨_, Heap.get?_push_size _ rfl, rfl, rfl⟩, h _ X.fresh⟩⟩
  · cases h0
noncomputable def valuesP (a : Addr) (σ : Hp) (Q : Value → Hp → Prop) : Prop := isDict σ a ∧ ∀ c, σ c = none → Q (.ref c) (upd σ c (.vals a))
theorem valuesP_sound (B : Bs C) {a : Addr} {Q : Value → Hp → Prop} (h : valuesP a σ Q) : W C A (call (.builtin "dict.values") [.ref a]) σ (fun r => Q (norm r)) := by
  intro F s X
  refine e0a2 h fun h0 h => ?_
  unfold isDict at h0
  split at h0
  · rename_i kvs ep e
    refine e1a2 (X.at e) fun l hd hR21_2 => ?_
    obtain rfl := hR21_2
    exact call_meetsIn PySem.F.slot_dict_values hd.dictOf.typeIs PySem.F.entry_dict_values (PySem.F.args_dict_values_1 _) (meets_dict_values (intKind C.prog C.w) a (X.ne1 e)) ⟨⟨_, hd.dictOf⟩,
      ⟨_, X.push B (x := .vals a) ⟨_, Heap.get?_push_size _ rfl, rfl, rfl⟩, h _ X.fresh⟩⟩
  · cases h0
end
end Mine
namespace Mine
section
variable {C : Cx} {F : Fm} {σ : Hp} {s : Shared} {A : Around} {E : Value → Shared → Prop}
/-! built-in functions -/
noncomputable def lenP (a : Addr) (σ : Hp) (Q : Value → Hp → Prop) : Prop := match σ a with
  | some (.list xs) => xs.length ≤ 10000 ∧ Q (vi xs.length) σ
  | some (.dict kvs _) => kvs.length ≤ 10000 ∧ Q (vi kvs.length) σ
  | _ => False
theorem lenP_sound {a : Addr} {Q : Value → Hp → Prop} (h : lenP a σ Q) : W C A (call (.builtin "len") [.ref a]) σ (fun r => Q (norm r)) := by
  intro F s X
  unfold lenP at h
  split at h
  · rename_i xs e
    refine e2a2 (X.at e) fun vs n ho hR0_3 => ?_
    obtain rfl := hR0_3
    rw [List.length_map, Array.length_toList] at h
    exact Calls.call_len_list ⟨_, ho, rfl, _, rfl⟩ (by have := h.1; omega) ⟨σ, X.tok _, h.2⟩
  · rename_i kvs ep e
    refine e1a2 (X.at e) fun l hd hR1_2 => ?_
    obtain rfl := hR1_2
    rw [nkv_length] at h
    exact call_len_dict (X.ne1 e) hd.dictOf (by have := h.1; omega) ⟨σ, X.tok _, h.2⟩
  · cases h
noncomputable def rangeP (n : Int) (σ : Hp) (Q : Value → Hp → Prop) : Prop := 0 ≤ n ∧ n ≤ 10000 ∧ ∀ c, σ c = none → Q (.ref c) (upd σ c (.rng n.toNat))
theorem rangeP_sound (B : Bs C) {n : Int} {t : Tok} {Q : Value → Hp → Prop} (h : rangeP n σ Q) : W C A (call (.type "range") [.int n t]) σ (fun r => Q (norm r)) := by
  intro F s X
  refine e0a3 h fun h0 _ h => ?_
  refine call_range_1 ⟨_, X.new' B (x := .rng n.toNat) (push_keeps _ _) (Nat.le_refl _) ⟨s.toks, t, s.toks + 1, ?_⟩, h _ X.fresh⟩
  rw [Int.toNat_of_nonneg h0]; exact IsRange.new ..
/-- the ints of a range -/
noncomputable def upN (n : Nat) : List Int := (List.range n).map Int.ofNat
noncomputable def rangeL (n : Nat) : List Value := (upN n).map vi
noncomputable def listP (a : Addr) (σ : Hp) (Q : Value → Hp → Prop) : Prop := match σ a with
  | some (.list xs) => xs.length ≤ 10000 ∧ ∀ c, σ c = none → Q (.ref c) (upd σ c (.list xs))
  | some (.tup xs) => xs.length ≤ 10000 ∧ ∀ c, σ c = none → Q (.ref c) (upd σ c (.list xs))
  | some (.dict kvs _) => kvs.length ≤ 10000 ∧ ∀ c, σ c = none → Q (.ref c) (upd σ c (.list (kvs.map fun p => vi p.1)))
  | some (.rng n) => n ≤ 10000 ∧ ∀ c, σ c = none → Q (.ref c) (upd σ c (.list (rangeL n)))
  | _ => False
theorem items_norm {P : Nat → Value → Prop} {acc : Array Value} {n : Nat} (h : ItemsOf P acc n) {xs : List Value} (hl : xs.length = n) (e : ∀ i v x, P i v → xs[i]? = some x → norm v = x) : acc.toList.map norm = xs := by
  apply List.ext_getElem?
  intro i
  rw [List.getElem?_map]
  by_cases hi : i < n
  · have h1 : i < acc.size := h.1 ▸ hi
    have h2 : i < xs.length := hl ▸ hi
    rw [List.getElem?_eq_getElem h2, Array.getElem?_toList, Array.getElem?_eq_getElem h1]
    exact congrArg some (e i _ _ (h.2 i _ (Array.getElem?_eq_getElem h1)) (List.getElem?_eq_getElem h2))
  · rw [List.getElem?_eq_none (l := xs) (by omega), List.getElem?_eq_none (l := acc.toList) (by rw [Array.length_toList, h.1]; omega)]; rfl
theorem listP_sound (B : Bs C) {k : Nat} (hA : AOk k A) {a : Addr} {Q : Value → Hp → Prop} (h : listP a σ Q) : W C A (call (.type "list") [.ref a]) σ (fun r => Q (norm r)) := by
  intro F s X
  unfold listP at h
  split at h
  · rename_i xs e
    refine e2a2 (X.at e) fun vs n ho hR3_3 => ?_
    obtain rfl := hR3_3
    refine e0a2 h fun hz h => ?_
    refine call_list_seq a (.inl rfl) ho rfl rfl (fun h' c' kp hd => ⟨_, X.newList (k := s.toks) B kp (Nat.le_refl _) hd, h _ X.fresh⟩) (by rw [List.length_map, Array.length_toList] at hz; rw [sizeLine_eq]; omega)
  · rename_i xs e
    refine e2a2 (X.at e) fun vs n ho hR5_3 => ?_
    obtain rfl := hR5_3
    refine e0a2 h fun hz h => ?_
    refine call_list_seq a (.inr rfl) ho rfl rfl (fun h' c' kp hd => ⟨_, X.newList (k := s.toks) B kp (Nat.le_refl _) hd, h _ X.fresh⟩) (by rw [List.length_map, Array.length_toList] at hz; rw [sizeLine_eq]; omega)
  · rename_i kvs ep e
    refine e1a2 (X.at e) fun l hd hR7_2 => ?_
    obtain rfl := hR7_2
    refine e0a2 h fun hz h => ?_
    rw [nkv_length] at hz
    refine kdl_call (kdl_dict (knd := intKind C.prog C.w) (X.ne1 e)) hA.handled hd (by rw [sizeLine_eq]; omega) fun h' tk acc' c' kp hd' hi => ?_
    have Y := X.newList (k := tk) B kp (Nat.le_refl _) hd'
    have e2 : acc'.toList.map norm = (nkv l).map fun p => vi p.1 := by
      refine items_norm hi (by rw [List.length_map, nkv_length]) fun i v x ⟨k, y, hk, hv⟩ hx => ?_
      rw [List.getElem?_map, nkv, List.getElem?_map, hk] at hx
      cases hx
      cases v <;> simp only [intKind, Value.isInt] at hv <;> first | cases hv | skip
      simp only [beq_iff_eq] at hv
      subst hv; rfl
    rw [e2] at Y
    exact ⟨_, Y, h _ X.fresh⟩
  · rename_i n e
    refine e3a1 (X.at e) fun t u v hr => ?_
    refine e0a2 h fun hz h => ?_
    refine call_list_range (n := n) hA.handled hr (small_one (by decide) (by decide) (by omega) (by omega)) (by rw [rangeSize_one]; split <;> omega) (by omega) fun h' tk acc' c' kp hd' hi => ?_
    have Y := X.newList (k := tk) B kp (Nat.le_refl _) hd'
    have e2 : acc'.toList.map norm = rangeL n := by
      refine items_norm hi (by simp [rangeL, upN]) fun i v x ⟨t, ht⟩ hx => ?_
      simp only [rangeL, upN, List.getElem?_map] at hx
      refine e1a2 (Option.map_eq_some_iff.mp hx) fun y hy hR11_2 => ?_
      obtain rfl := hR11_2
      refine e1a2 (Option.map_eq_some_iff.mp hy) fun z hz hR12_2 => ?_
      obtain rfl := hR12_2
      refine e1a1 (List.getElem?_eq_some_iff.mp hz) fun hlt hR13_1 => ?_
      obtain rfl := hR13_1
      rw [ht, List.getElem_range]; simp [norm]
    rw [e2] at Y
    exact ⟨_, Y, h _ X.fresh⟩
  · cases h
noncomputable def dictP (a : Addr) (σ : Hp) (Q : Value → Hp → Prop) : Prop := match σ a with
  | some (.dict kvs _) => kvs.length ≤ 10000 ∧ ∀ c ep, σ c = none → Q (.ref c) (upd σ c (.dict kvs ep))
  | _ => False
theorem dictP_sound (B : Bs C) {a : Addr} {Q : Value → Hp → Prop} (h : dictP a σ Q) : W C A (call (.type "dict") [.ref a]) σ (fun r => Q (norm r)) := by
  intro F s X
  unfold dictP at h
  split at h
  · rename_i kvs ep e
    refine e1a2 (X.at e) fun l hd hR14_2 => ?_
    obtain rfl := hR14_2
    refine e0a2 h fun hz h => ?_
    rw [nkv_length] at hz
    refine kt_call_dict (X.ne1 e) hd.dictOf (by rw [sizeLine_eq]; omega) fun h' hd' hs => ?_
    refine e1a1 (X.newDict (k := s.toks) B (fun b o q => hs.extBut b o (Nat.ne_of_lt (Heap.lt_size q)) (push_keeps _ _ b o q)) (Nat.le_refl _) hd') fun ep' Y => ?_
    exact ⟨_, Y, h _ _ X.fresh⟩
  · cases h
noncomputable def sortedP (a : Addr) (σ : Hp) (Q : Value → Hp → Prop) : Prop := match σ a with
  | some (.list xs) => match allInt xs with
    | some ns => ns.length < 64 ∧ ∀ ms : List Int, ms.Perm ns → ms.Pairwise (· ≤ ·) → ∀ c, σ c = none → Q (.ref c) (upd σ c (.list (ms.map vi)))
    | none => False
  | _ => False
theorem sortedP_sound (B : Bs C) {a : Addr} {Q : Value → Hp → Prop} (h : sortedP a σ Q) : W C A (call (.builtin "sorted") [.ref a]) σ (fun r => Q (norm r)) := by
  intro F s X
  unfold sortedP at h
  split at h
  · rename_i xs e
    refine e2a2 (X.at e) fun vs n ho hR17_3 => ?_
    obtain rfl := hR17_3
    split at h
    rotate_left
    · cases h
    rename_i ns hn
    refine e0a2 h fun hz h => ?_
    have hI := intsAre_of hn
    refine sorted_ints (vs := vs.toList) ⟨_, ho, rfl, _, rfl⟩ hI (by rw [← hI.length] at hz; exact hz) fun out ms hm hp hs => ?_
    refine e1a1 (sortedAll_at s.heap vs.toList out) fun c hc => ?_
    have Y := X.newList (k := s.toks) B (fun b o => sortedAll_old) (Nat.le_succ _) hc
    rw [ints_norm hm] at Y
    exact ⟨_, Y, h ms hp hs _ (X.none_of (Nat.le_succ _))⟩
  · cases h
/-- any call of a built-in by a name -/
noncomputable def callB (id : String) (args : List Value) (σ : Hp) (Q : Value → Hp → Prop) : Prop :=
  if id = "len" then (match args with | [.ref a] => Hold (lenP a σ Q) | _ => False)
  else if id = "sorted" then (match args with | [.ref a] => Hold (sortedP a σ Q) | _ => False)
  else if id = "list.append" then (match args with | [.ref a, v] => Hold (appendP a v σ Q) | _ => False)
  else if id = "list.pop" then (match args with | [.ref a] => Hold (popP a σ Q) | _ => False)
  else if id = "list.extend" then (match args with | [.ref a, .ref b] => Hold (extendP a b σ Q) | _ => False)
  else if id = "list.remove" then (match args with | [.ref a, .int k _] => Hold (removeP a k σ Q) | _ => False)
  else if id = "dict.get" then (match args with | [.ref a, .int k _, v] => Hold (dgetP a k v σ Q) | _ => False)
  else if id = "dict.pop" then (match args with | [.ref a, .int k _] => Hold (dpopP a k σ Q) | _ => False)
  else if id = "dict.update" then (match args with | [.ref a, .ref b] => Hold (dupdP a b σ Q) | _ => False)
  else if id = "dict.items" then (match args with | [.ref a] => Hold (itemsP a σ Q) | _ => False)
  else if id = "dict.values" then (match args with | [.ref a] => Hold (valuesP a σ Q) | _ => False)
  else False
noncomputable def callT (id : String) (args : List Value) (σ : Hp) (Q : Value → Hp → Prop) : Prop :=
  if id = "range" then (match args with | [.int n _] => Hold (rangeP n σ Q) | _ => False)
  else if id = "list" then (match args with | [.ref a] => Hold (listP a σ Q) | _ => False)
  else if id = "dict" then (match args with | [.ref a] => Hold (dictP a σ Q) | _ => False)
  else if id = "int" then (match args with | [.int n _] => Q (vi n) σ | _ => False)
  else False
theorem nm1 {vs : List Value} {a : Addr} (h : vs.map norm = [.ref a]) : vs = [.ref a] := by
  refine e2a3 (map_norm_cons h) fun v r hR20_2 h1 h2 => ?_
  obtain rfl := hR20_2
  cases norm_ref h1; cases map_norm_nil h2; rfl
theorem nm1i {vs : List Value} {n : Int} {u : Tok} (h : vs.map norm = [.int n u]) : ∃ t, vs = [.int n t] := by
  refine e2a3 (map_norm_cons h) fun v r hR21_2 h1 h2 => ?_
  obtain rfl := hR21_2
  obtain ⟨t, rfl⟩ := lt_of_norm h1; cases map_norm_nil h2; exact ⟨t, rfl⟩
theorem nm2 {vs : List Value} {a : Addr} {w : Value} (h : vs.map norm = [.ref a, w]) : ∃ v, vs = [.ref a, v] ∧ norm v = w := by
  refine e2a3 (map_norm_cons h) fun v r hR22_2 h1 h2 => ?_
  obtain rfl := hR22_2
  refine e2a3 (map_norm_cons h2) fun v' r' hR23_2 h1' h2' => ?_
  obtain rfl := hR23_2
  cases norm_ref h1; cases map_norm_nil h2'; exact ⟨_, rfl, h1'⟩
theorem nm3 {vs : List Value} {a : Addr} {k : Int} {u : Tok} {w : Value} (h : vs.map norm = [.ref a, .int k u, w]) : ∃ t v, vs = [.ref a, .int k t, v] ∧ norm v = w := by
  refine e2a3 (map_norm_cons h) fun v r hR24_2 h1 h2 => ?_
  obtain rfl := hR24_2
  refine e2a3 (map_norm_cons h2) fun v' r' hR25_2 h1' h2' => ?_
  obtain rfl := hR25_2
  refine e2a3 (map_norm_cons h2') fun v'' r'' hR26_2 h1'' h2'' => ?_
  obtain rfl := hR26_2
  cases norm_ref h1; cases map_norm_nil h2''; obtain ⟨t, rfl⟩ := lt_of_norm h1'; exact ⟨_, _, rfl, h1''⟩
theorem callB_sound (B : Bs C) {id : String} {vs : List Value} {Q : Value → Hp → Prop} (h : callB id (vs.map norm) σ Q) : W C A (call (.builtin id) vs) σ (fun r => Q (norm r)) := by
  unfold callB at h
  split at h
  · rename_i e; subst e; split at h
    · rename_i e; cases nm1 e; exact lenP_sound h.out
    · cases h
  split at h
  · rename_i e; subst e; split at h
    · rename_i e; cases nm1 e; exact sortedP_sound B h.out
    · cases h
  split at h
  · rename_i e; subst e; split at h
    · rename_i e; obtain ⟨v, rfl, rfl⟩ := nm2 e; exact appendP_sound h.out
    · cases h
  split at h
  · rename_i e; subst e; split at h
    · rename_i e; cases nm1 e; exact popP_sound h.out
    · cases h
  split at h
  · rename_i e; subst e; split at h
    · rename_i e; obtain ⟨v, rfl, e2⟩ := nm2 e; cases norm_ref e2; exact extendP_sound h.out
    · cases h
  split at h
  · rename_i e; subst e; split at h
    · rename_i e; obtain ⟨v, rfl, e2⟩ := nm2 e; obtain ⟨t, rfl⟩ := lt_of_norm e2; exact removeP_sound h.out
    · cases h
  split at h
  · rename_i e; subst e; split at h
    · rename_i e; obtain ⟨t, v, rfl, rfl⟩ := nm3 e; exact dgetP_sound h.out
    · cases h
  split at h
  · rename_i e; subst e; split at h
    · rename_i e; obtain ⟨v, rfl, e2⟩ := nm2 e; obtain ⟨t, rfl⟩ := lt_of_norm e2; exact dpopP_sound h.out
    · cases h
  split at h
  · rename_i e; subst e; split at h
    · rename_i e; obtain ⟨v, rfl, e2⟩ := nm2 e; cases norm_ref e2; exact dupdP_sound h.out
    · cases h
  split at h
  · rename_i e; subst e; split at h
    · rename_i e; cases nm1 e; exact itemsP_sound B h.out
    · cases h
  split at h
  · rename_i e; subst e; split at h
    · rename_i e; cases nm1 e; exact valuesP_sound B h.out
    · cases h
  · cases h
theorem callT_sound (B : Bs C) {k : Nat} (hA : AOk k A) {id : String} {vs : List Value} {Q : Value → Hp → Prop} (h : callT id (vs.map norm) σ Q) : W C A (call (.type id) vs) σ (fun r => Q (norm r)) := by
  unfold callT at h
  split at h
  · rename_i e; subst e; split at h
    · rename_i e; obtain ⟨t, rfl⟩ := nm1i e; exact rangeP_sound B h.out
    · cases h
  split at h
  · rename_i e; subst e; split at h
    · rename_i e; cases nm1 e; exact listP_sound B hA h.out
    · cases h
  split at h
  · rename_i e; subst e; split at h
    · rename_i e; cases nm1 e; exact dictP_sound B h.out
    · cases h
  split at h
  · rename_i e; subst e; split at h
    · rename_i e; obtain ⟨t, rfl⟩ := nm1i e; intro F s X; exact call_int_int ⟨σ, X, h⟩
    · cases h
  · cases h
end
end Mine
namespace Mine
/-! calls of the text's own functions -/
/-- at every depth that k leaves: called with these values, in σ, it comes back with Q -/
structure Sp (C : Cx) (k : Nat) (f : Value) (vs : List Value) (σ : Hp) (Q : Value → Hp → Prop) : Prop where
  keep : keepIn C.K f = true
  run : ∀ A, AOk k A → ∀ vs', vs'.map norm = vs → Wc C A (.call f ⟨vs', []⟩) σ fun r => Q (norm r)
theorem Sp.mono {C : Cx} {k : Nat} {f : Value} {vs : List Value} {σ : Hp} {Q Q' : Value → Hp → Prop} (h : Sp C k f vs σ Q) (i : ∀ v σ', Q v σ' → Q' v σ') : Sp C k f vs σ Q' :=
  ⟨h.1, fun A hA vs' e => (h.2 A hA vs' e).mono fun _ σ' => i _ σ'⟩
theorem Sp.deep {C : Cx} {k l : Nat} {f : Value} {vs : List Value} {σ : Hp} {Q : Value → Hp → Prop} (h : Sp C k f vs σ Q) (i : k ≤ l) : Sp C l f vs σ Q :=
  ⟨h.1, fun A hA vs' e => h.2 A (hA.mono i) vs' e⟩
noncomputable def bindR : List (Str × Value) → Rho → Rho
  | [], ρ => ρ
  | (n, v) :: r, ρ => bindR r (setR ρ n (norm v))
noncomputable def bindV : List Str → List Value → Rho → Rho
  | n :: r, v :: s, ρ => bindV r s (setR ρ n v)
  | _, _, ρ => ρ
theorem bindR_zip : ∀ (ns : List Str) (vs : List Value) (ρ : Rho), bindR (ns.zip vs) ρ = bindV ns (vs.map norm) ρ
  | [], _, _ => by cases ‹List Value› <;> rfl
  | _ :: _, [], _ => rfl
  | n :: r, v :: s, ρ => by
    show bindR (r.zip s) _ = bindV r (s.map norm) _
    exact bindR_zip r s _
theorem bindL_R {κ : Str → Option NameKind} {x : Str} (hx : κ x = some .local) : ∀ (bs : List (Str × Value)) (m ρ : Str → Option Value), (m x).map norm = ρ x → (bindL κ bs m x).map norm = bindR bs ρ x
  | [], _, _, h => h
  | (n, v) :: r, m, ρ, h => by
    unfold bindL bindR
    refine bindL_R hx r _ _ ?_
    by_cases q : x = n
    · subst q; rw [if_pos hx, setR_self]; simp
    · rw [setR_ne _ _ q]
      split
      · dsimp only; rw [if_neg q]; exact h
      · exact h
theorem bindC_R {κ : Str → Option NameKind} {x : Str} (hx : κ x = some .cell) : ∀ (bs : List (Str × Value)) (m ρ : Str → Option Value), (m x).map norm = ρ x → (bindC κ bs m x).map norm = bindR bs ρ x
  | [], _, _, h => h
  | (n, v) :: r, m, ρ, h => by
    unfold bindC bindR
    refine bindC_R hx r _ _ ?_
    by_cases q : x = n
    · subst q; rw [if_neg (by rw [hx]; decide), setR_self]; simp
    · rw [setR_ne _ _ q]
      split
      · exact h
      · dsimp only; rw [if_neg q]; exact h
theorem cellsFrom_mono {x : Str} : ∀ (names : List (Str × NameKind)) (n : Nat) (acc : List (Str × Addr)), (acc.lookup x).isSome = true → ((cellsFrom n names acc).lookup x).isSome = true
  | [], _, _, h => h
  | (name, kind) :: r, n, acc, h => by
    unfold cellsFrom
    split
    · refine cellsFrom_mono r _ _ ?_
      rw [List.lookup_cons]; split <;> first | rfl | exact h
    · exact cellsFrom_mono r _ _ h
theorem cellsFrom_has {x : Str} : ∀ (names : List (Str × NameKind)) (n : Nat) (acc : List (Str × Addr)), names.lookup x = some .cell → ((cellsFrom n names acc).lookup x).isSome = true
  | [], _, _, h => by cases h
  | (name, kind) :: r, n, acc, h => by
    rw [List.lookup_cons] at h
    unfold cellsFrom
    cases hb : x == name with
    | true =>
      rw [hb] at h; cases h
      rw [if_pos (by decide)]
      exact cellsFrom_mono r _ _ (by rw [List.lookup_cons, hb]; rfl)
    | false =>
      rw [hb] at h
      split
      · exact cellsFrom_has r _ _ h
      · exact cellsFrom_has r _ _ h
structure EnvOk (env : Env) (sc : Scope) : Prop where
  scope : env.scope = sc
  fn : sc.kind = .function
  glob : env.globals = mainGlobals
  blt : env.builtins = builtinsNs
theorem EnvOk.kind {env : Env} {sc : Scope} (h : EnvOk env sc) (x : Str) : env.kindOf x = sc.names.lookup x := by unfold Env.kindOf; rw [h.scope]
theorem EnvOk.fn' {env : Env} {sc : Scope} (h : EnvOk env sc) : env.scope.kind = .function := by rw [h.scope]; exact h.fn
noncomputable def valOf : Flow → Value
  | .ret v => v
  | _ => .none
/-- a function of the text -/
structure FnAt (C : Cx) (a : Addr) (sc : Scope) (ps : List Str) (body : List Stmt) : Prop where
  at_ : ∃ o fd, C.K.lookup a = some o ∧ o.data = .func fd ∧ fd.body = .stmts body ∧ fd.closure = [] ∧ fd.scope = sc ∧ fd.globals = mainGlobals ∧ fd.builtins = builtinsNs ∧ codeIn C.K fd.code fd.qualname = true ∧
    (∀ vs : List Value, vs.length = ps.length → bindArgs fd ⟨vs, []⟩ = pure (ps.zip vs))
  kind : sc.kind = .function
  co : sc.isCoroutine = false
  gen : sc.isGenerator = false
  par : ∀ p ∈ ps, sc.names.lookup p = some .local ∨ sc.names.lookup p = some .cell
theorem call_fn {C : Cx} (B : Bs C) {k : Nat} {a : Addr} {sc : Scope} {ps : List Str} {body : List Stmt} {vs : List Value} {σ : Hp} {Q : Value → Hp → Prop} (H : FnAt C a sc ps body) (hl : vs.length = ps.length)
    (h : ∀ A env, AOk k A → EnvOk env sc → Wr C A env false (execs body env) (bindV ps vs fun _ => none) σ fun f _ σ' => Q (norm (valOf f)) σ') : Sp C (k + 1) (.ref a) vs σ Q := by
  refine e2a9 H.at_ fun o fd hk hd hb hcl hs hg hbl hcode hbind => ?_
  refine ⟨by unfold keepIn; dsimp only; rw [hk]; obtain ⟨_, _, _, _⟩ := o; cases hd; rfl, ?_⟩
  intro A hA vs' e F s X
  subst e
  have X' := X.frag B
  refine e2a1 B.T fun p loose T => ?_
  have hlim : s.heap.NoLimit := T.nolimit.keeps fun b o q => X.1.fr _ _ (X.1.base _ _ q)
  rw [List.length_map] at hl
  have hfn := H.kind
  have hmem : ∀ x ∈ ps.zip vs', x.1 ∈ ps := fun x hx => List.of_mem_zip (b := x.2) hx |>.1
  refine codeAny_call_cells (fd := fd) (body := body) (binds := ps.zip vs') hA.lt (X' _ _ hk) hd hlim (codeRec_of X' hcode) hb (hbind _ hl) hcl (fun x hx => ?_) (fun s₁ I => ?_) (by rw [hs]; exact H.co) (by rw [hs]; exact H.gen) (by rw [hs]; exact hfn)
  · rw [hs]
    rcases H.par _ (hmem x hx) with q | q
    · exact .inl q
    · exact .inr ⟨q, cellsFrom_has _ _ _ q⟩
  · have hE : EnvOk (callEnvC fd s.heap.objs.size a) sc := ⟨hs, hfn, hg, hbl⟩
    have hR : OkF C (callEnvC fd s.heap.objs.size a) false F σ (bindR (ps.zip vs') fun _ => none) s₁ := by
      refine e2a1 I.toInCall.same fun h₁ tk hR2_2 => ?_
      obtain rfl := hR2_2
      have kp := I.toInCall.keep
      have lt_of : ∀ a', s.heap.objs.size ≤ a' → σ a' = none ∧ F a' = none := fun a' ha => ⟨X.1.none_of ha, X.1.fnone_of ha⟩
      have habove : ∀ x c, (callEnvC fd s.heap.objs.size a).cells.lookup x = some c → s.heap.objs.size < c := fun x c hc => I.above x c (mem_of_lookup hc)
      refine ⟨X.heap (X.1.keeps kp), ⟨⟨_, I.toInCall.ns, fun x hx => ?_⟩, fun x hx => ?_, (lt_of _ (Nat.le_refl _)).2, (lt_of _ (Nat.le_refl _)).1, fun x c _ hc => Nat.ne_of_gt (habove x c hc), fun x c _ hc => (lt_of _ (Nat.le_of_lt (habove x c hc))).1, fun _ x c _ hc => (lt_of _ (Nat.le_of_lt (habove x c hc))).2, fun x y c _ _ hc hc' => name_of_addr I.apart (mem_of_lookup hc) (mem_of_lookup hc')⟩⟩
      · exact bindL_R hx _ _ _ rfl
      · have := cellsFrom_has (x := x) sc.names (s.heap.objs.size + 1) [] (by rw [← hE.kind]; exact hx)
        have e2 : (callEnvC fd s.heap.objs.size a).cells = cellsFrom (s.heap.objs.size + 1) sc.names [] := by rw [← hs]; rfl
        refine e1a1 (Option.isSome_iff_exists.mp this) fun c hc => ?_
        rw [← e2] at hc
        exact ⟨c, _, hc, I.cell x c hc, bindC_R hx _ _ _ rfl⟩
    rw [bindR_zip] at hR
    refine wpAny_mono (h (A.deeper (callEnvC fd s.heap.objs.size a)) _ (hA.deeper _) hE F s₁ hR) (fun f s' rP => e2a2 rP fun σ' ρ' R' q => ?_) fun _ _ x => x.elim
    refine ⟨σ', R'.1, ?_⟩
    cases f <;> exact q

theorem AOk.make {k : Nat} {A : Around} (x : AOk (k + 1) A) (a : Addr) (vs : List Value) : AOk k (A.under (.builtin "type.__call__" ⟨.ref a :: vs, []⟩)) := by
  have hw : (Code.builtin "type.__call__" ⟨.ref a :: vs, []⟩).weight ≤ 5 := by
    have : (Code.builtin "type.__call__" ⟨.ref a :: vs, []⟩).weight = 1 := by rfl
    omega
  have hu : (Code.builtin "type.__call__" ⟨.ref a :: vs, []⟩).cUnits ≤ 5 := by
    have : (Code.builtin "type.__call__" ⟨.ref a :: vs, []⟩).cUnits = 1 := by rfl
    omega
  refine ⟨x.handled, ?_, ?_⟩
  · have := x.depth; show A.depth + (Code.builtin "type.__call__" ⟨.ref a :: vs, []⟩).weight + 10 * k ≤ 900; omega
  · have := x.units; show A.units + (Code.builtin "type.__call__" ⟨.ref a :: vs, []⟩).cUnits + 100 * k ≤ 9000; omega
theorem call_cls' {C : Cx} (B : Bs C) {k : Nat} {a : Addr} (hc : isCls a = true) {vs : List Value} {σ : Hp} {Q : Value → Hp → Prop}
    (h : ∀ x D, σ x = none → σ D = none → x ≠ D → Sp C k (.ref (initOf a)) (.ref x :: vs) (upd (upd σ D (.att (fun _ => none) 0)) x (.inst a D)) fun v σ' => v = .none ∧ Q (.ref x) σ') : Sp C (k + 1) (.ref a) vs σ Q := by
  have K := B.cls _ hc
  have hkeep : keepIn C.K (.ref a) = true := by
    have m := K.mks
    unfold makesIn at m
    split at m
    · rename_i ho
      simp only [Bool.and_eq_true, beq_iff_eq] at m
      unfold keepIn
      dsimp only
      rw [ho]
      simpa using m.1.2
    · cases m
  refine ⟨hkeep, ?_⟩
  intro A hA vs' e F s X
  subst e
  have X' := X.frag B
  have R := X.1
  refine hideG fun PG kG => ?_
  obtain ⟨hh, g, d, t, os⟩ := s
  refine kG ?_
  clear kG PG
  have hD : σ hh.objs.size = none := R.none_of (Nat.le_refl _)
  have hx : σ (hh.objs.size + 1) = none := R.none_of (Nat.le_succ _)
  refine make_core (makes_of X' K.mks) (looks_findIn X' K.it) (fun self => bind_fn X' self K.fi) (.inl rfl) ?_
  have R1 : Rep C F (upd σ hh.objs.size (.att (fun _ => none) 0)) (hh.push emptyDict) :=
    R.new' B (x := .att (fun _ => none) 0) (push_keeps _ _) (Nat.le_refl _) ⟨emptyDict, #[], 0, Heap.get?_push_size _ rfl, rfl, fun e he => by cases he <;> contradiction, Nat.le_refl _, fun x => rfl⟩
  have R2 : Rep C F (upd (upd σ hh.objs.size (.att (fun _ => none) 0)) (hh.objs.size + 1) (.inst a hh.objs.size)) ((hh.push emptyDict).push (instObj a hh.objs.size)) := by
    refine R1.new' B (x := .inst a hh.objs.size) (push_keeps _ _) (by rw [Heap.size_push]; exact Nat.le_refl _) ?_
    show ((hh.push emptyDict).push (instObj a hh.objs.size)).get? (hh.objs.size + 1) = _
    rw [← Heap.size_push (h := hh) (o := emptyDict)]
    exact Heap.get?_push_size _ rfl
  refine codeAny_mono ((h (hh.objs.size + 1) hh.objs.size hx hD (Nat.ne_of_gt (Nat.lt_succ_self _))).2 _ (hA.make a vs') (.ref (hh.objs.size + 1) :: vs') rfl F _ ⟨R2, X.2⟩) fun r s' q => ?_
  rcases r with e | (_ | _ | _ | v) <;> first | exact q.elim | skip
  refine e1a3 q fun σ' R' e q => ?_
  exact ⟨norm_none e, σ', R', q⟩
end Mine
namespace Mine
/-! what a text asks, reckoned along its tree -/
noncomputable abbrev Ns := List (Str × NameKind)
structure Px where
  C : Cx
  k : Nat
  ns : Ns
  fz : Bool
noncomputable abbrev EQ := Value → Hp → Prop
noncomputable abbrev TQ := Bool → Hp → Prop
noncomputable abbrev SQ := Flow → Rho → Hp → Prop
noncomputable def locP (x : Str) (ρ : Rho) (σ : Hp) (Q : EQ) : Prop := match ρ x with | some v => Q v σ | none => False
noncomputable def nameP (P : Px) (x : Str) (ρ : Rho) (σ : Hp) (Q : EQ) : Prop := match P.ns.lookup x with
  | some .globalImplicit => match gtab.lookup x with | some v => Q v σ | none => False
  | some .local => Hold (locP x ρ σ Q)
  | some .cell => Hold (locP x ρ σ Q)
  | _ => False
/-- a name stored -/
noncomputable def asg (P : Px) (x : Str) (v : Value) (ρ : Rho) (Q : Rho → Prop) : Prop := match P.ns.lookup x with
  | some .local => Q (setR ρ x v)
  | some .cell => P.fz = false ∧ Q (setR ρ x v)
  | _ => False
noncomputable def constP (c : Const) (σ : Hp) (Q : EQ) : Prop := match c with
  | .none => Q .none σ
  | .bool b => Q (.bool b) σ
  | .int i => Q (vi i) σ
  | .str x => Q (.str x 0) σ
  | _ => False
inductive SliceK where
  | plain | upto (u : Expr) | rev | bad
noncomputable def unOf : Expr → Option (UnaryOp × Expr × Pos)
  | .UnaryOp op x p => some (op, x, p)
  | _ => none
noncomputable def conOf : Expr → Option (Const × Nat × Pos)
  | .Constant c k p => some (c, k, p)
  | _ => none
theorem unOf_is {e : Expr} {r : UnaryOp × Expr × Pos} (h : unOf e = some r) : e = .UnaryOp r.1 r.2.1 r.2.2 := by
  cases e <;> first | exact no_some h | (cases h; rfl)
theorem conOf_is {e : Expr} {r : Const × Nat × Pos} (h : conOf e = some r) : e = .Constant r.1 r.2.1 r.2.2 := by
  cases e <;> first | exact no_some h | (cases h; rfl)
noncomputable def isM1 (e : Expr) : Bool := match unOf e with
  | some (.USub, x, _) => (match conOf x with | some (.int i, _) => i == 1 | _ => false)
  | _ => false
noncomputable def sliceK : Expr → SliceK
  | .Slice none (some u) none _ => .upto u
  | .Slice none none (some e) _ => if isM1 e then .rev else .bad
  | .Slice .. => .bad
  | _ => .plain
noncomputable def isCallE : Expr → Bool
  | .Call .. => true
  | _ => false
noncomputable def isCompE : Expr → Bool
  | .ListComp .. | .SetComp .. | .DictComp .. => true
  | _ => false
/-- [:u] of a list -/
noncomputable def uptoP (C : Cx) (o i : Value) (σ : Hp) (Q : EQ) : Prop := match o, i with
  | .ref a, .int k _ => (match σ a with
    | some (.list xs) => 0 ≤ k ∧ xs.length ≤ 10000 ∧ ∀ c, σ c = none → Q (.ref c) (upd σ c (.list (xs.take k.toNat)))
    | _ => False) ∨ ∃ vs, C.h₀.IsList a vs ∧ 0 ≤ k ∧ vs.size ≤ 10000 ∧ ∀ c, σ c = none → Q (.ref c) (upd σ c (.list ((vs.toList.map norm).take k.toNat)))
  | _, _ => False
/-- [::-1] of a list -/
noncomputable def revP (o : Value) (σ : Hp) (Q : EQ) : Prop := match o with
  | .ref a => match σ a with
    | some (.list xs) => xs.length ≤ 10000 ∧ ∀ c, σ c = none → Q (.ref c) (upd σ c (.list xs.reverse))
    | _ => False
  | _ => False
/-- sorted over tuples of ints -/
noncomputable def intTup (σ : Hp) (v : Value) : Prop := match v with
  | .ref a => match σ a with
    | some (.tup xs) => ∃ i ns, allInt xs = some (i :: ns)
    | _ => False
  | _ => False
noncomputable def sortedT (a : Addr) (σ : Hp) (Q : EQ) : Prop := match σ a with
  | some (.list xs) => xs.length ≤ 3 ∧ (∀ v ∈ xs, intTup σ v) ∧ ∀ ys : List Value, ys.Perm xs → ∀ c, σ c = none → Q (.ref c) (upd σ c (.list ys))
  | _ => False
/-- a call of whatever -/
noncomputable def callV (P : Px) (f : Value) (vs : List Value) (σ : Hp) (Q : EQ) : Prop := match f with
  | .builtin id => if id = "sorted" then (match vs with | [.ref a] => Hold (sortedP a σ Q ∨ sortedT a σ Q) | _ => False) else callB id vs σ Q
  | .type id => callT id vs σ Q
  | .ref a => Sp P.C P.k (.ref a) vs σ Q
  | _ => False
noncomputable def evsW (f : Expr → Hp → EQ → Prop) : List Expr → Hp → (List Value → Hp → Prop) → Prop
  | [], σ, Q => Q [] σ
  | e :: r, σ, Q => f e σ fun v σ => evsW f r σ fun vs σ => Q (v :: vs) σ
noncomputable def isStarE : Expr → Bool
  | .Starred .. => true
  | _ => false
noncomputable def boolW (f : Expr → Hp → EQ → Prop) (op : BoolOp) : List Expr → Hp → EQ → Prop
  | [], _, _ => False
  | [e], σ, Q => f e σ Q
  | e :: r, σ, Q => f e σ fun v σ => match v with
    | .bool b => match op, b with
      | .And, false => Q (.bool false) σ
      | .Or, true => Q (.bool true) σ
      | _, _ => boolW f op r σ Q
    | _ => False
noncomputable def allW (f : Expr → Hp → TQ → Prop) (op : BoolOp) : List Expr → Hp → TQ → Prop
  | [], σ, Q => Q (op == .And) σ
  | e :: r, σ, Q => f e σ fun b σ => match op, b with
    | .And, false => Q false σ
    | .Or, true => Q true σ
    | _, _ => allW f op r σ Q
noncomputable def keyOf (k : Option Expr) : Option Str := match k with
  | some e => (match conOf e with | some (.str x, _) => some x | _ => none)
  | none => none
noncomputable def dictW (f : Expr → Hp → EQ → Prop) : List (Option Expr) → List Expr → Hp → (List (Str × Value) → Hp → Prop) → Prop
  | [], [], σ, Q => Q [] σ
  | k :: ks, v :: vs, σ, Q => match keyOf k with
    | some x => f v σ fun w σ => dictW f ks vs σ fun l σ => Q ((x, w) :: l) σ
    | none => False
  | _, _, _, _ => False
/-- what an iterable gives -/
noncomputable def seqV (σ : Hp) (a : Addr) : Option (List Value) := match σ a with
  | some (.list xs) => some xs
  | some (.tup xs) => some xs
  | some (.dict kvs _) => some (kvs.map fun p => vi p.1)
  | some (.rng n) => some (rangeL n)
  | some (.vals d) => match σ d with
    | some (.dict kvs _) => some (kvs.map (·.2))
    | _ => none
  | _ => none
/-- it stands as it stood -/
noncomputable def stay (a : Addr) (σ₀ σ : Hp) : Prop := σ a = σ₀ a ∧ match σ₀ a with
  | some (.vals d) => σ d = σ₀ d
  | some (.items d) => σ d = σ₀ d
  | _ => True
noncomputable def nameE : Expr → Option Str
  | .Name x _ => some x
  | _ => none
theorem nameE_is {e : Expr} {x : Str} (h : nameE e = some x) : ∃ p, e = .Name x p := by
  cases e <;> first | exact no_some h | (cases h; exact ⟨_, rfl⟩)
noncomputable def asgs (P : Px) : List Expr → List Value → Rho → (Rho → Prop) → Prop
  | [], [], ρ, Q => Q ρ
  | e :: r, v :: vs, ρ, Q => match nameE e with
    | some x => asg P x v ρ fun ρ => asgs P r vs ρ Q
    | none => False
  | _, _, _, _ => False
theorem asgs_inv {P : Px} {e : Expr} {r : List Expr} {vs : List Value} {ρ : Rho} {Q : Rho → Prop} (h : asgs P (e :: r) vs ρ Q) : ∃ x p v vs', e = .Name x p ∧ vs = v :: vs' ∧ asg P x v ρ fun ρ => asgs P r vs' ρ Q := by
  cases vs with
  | nil => exact False.elim h
  | cons v vs =>
    replace h : (match nameE e with | some x => asg P x v ρ fun ρ => asgs P r vs ρ Q | none => False) := h
    revert h
    cases hn : nameE e with
    | none => exact False.elim
    | some x => exact fun h => e1a1 (nameE_is hn) fun p hp => ⟨x, p, v, vs, hp, rfl, h⟩
noncomputable def tupA (P : Px) (ts : List Expr) (v : Value) (ρ : Rho) (σ : Hp) (K : Rho → Prop) : Prop := match v with
  | .ref a => match σ a with
    | some (.tup xs) => asgs P ts xs ρ K
    | _ => False
  | _ => False
/-- a target of a for: a name, or names in brackets -/
noncomputable def tgtP (P : Px) (t : Expr) (v : Value) (ρ : Rho) (σ : Hp) (Q : Rho → Prop) : Prop := match t with
  | .Name x _ => asg P x v ρ Q
  | .Tuple es _ _ => Hold (tupA P es v ρ σ Q)
  | _ => False
noncomputable def testsW (f : Expr → Hp → TQ → Prop) : List Expr → Hp → TQ → Prop
  | [], σ, Q => Q true σ
  | e :: r, σ, Q => f e σ fun b σ => match b with | true => testsW f r σ Q | false => Q false σ
noncomputable def compL (P : Px) (tgt : Expr) (ifs : List Expr) (elt : Expr) (fe : Expr → Rho → Hp → EQ → Prop) (ft : Expr → Rho → Hp → TQ → Prop) (it : Addr) (σ₀ : Hp) (acc : Addr) : List Value → Rho → Hp → (Hp → Prop) → Prop
  | [], _, σ, Q => stay it σ₀ σ ∧ Q σ
  | x :: xs, ρ, σ, Q => stay it σ₀ σ ∧ tgtP P tgt x ρ σ fun ρ => testsW (fun e => ft e ρ) ifs σ fun ok σ => match ok with
    | true => fe elt ρ σ fun v σ => Hold (appendP acc v σ fun _ σ => compL P tgt ifs elt fe ft it σ₀ acc xs ρ σ Q)
    | false => compL P tgt ifs elt fe ft it σ₀ acc xs ρ σ Q
noncomputable def relN (s ns : Ns) : Ns := s.map fun (n, k) => if (k == .free && ns.lookup n == some .cell) then (n, .cell) else (n, k)
noncomputable def compR (s ns : Ns) (ρ : Rho) : Rho := fun x => match s.lookup x with
  | some .free => if ns.lookup x = some .cell then ρ x else none
  | _ => none
/-- the comprehension's names: no cell of its own, no name twice among its locals -/
noncomputable def compOk (s : Scope) (ns : Ns) : Bool := s.kind == .function && (s.names.all fun p => p.2 != .free || ns.lookup p.1 == some .cell) && s.names.lookup ("__debug__" : Str) == none && s.names.all fun p => p.2 != .cell && (p.2 != .local || s.names.lookup p.1 == some .local) && (p.2 != .free || s.names.lookup p.1 == some .free)
noncomputable def isSetE : Expr → Bool
  | .Set .. => true
  | _ => false
noncomputable def isSlotM (args : List Expr) : Bool := args.all fun e => !isStarE e
noncomputable def methK (v : Value) (m : Str) (σ : Hp) (K : Value → Prop) : Prop := match methP v m σ with
  | some f => K f
  | none => False
noncomputable def compS (P : Px) (x : Str) (px : Pos) (ifs : List Expr) (elt : Expr) (sc : Scope) (fe : Expr → Rho → Hp → EQ → Prop) (ft : Expr → Rho → Hp → TQ → Prop) (ρ : Rho) (v : Value) (σ₀ : Hp) (Q : EQ) : Prop := match v with
  | .ref it => match seqV σ₀ it with
    | some xs => xs.length ≤ 10000 ∧ ∀ acc, σ₀ acc = none →
        compL { P with ns := relN sc.names P.ns, fz := true } (.Name x px) ifs elt fe ft it σ₀ acc xs (compR sc.names P.ns ρ) (upd σ₀ acc (.list [])) fun σ => Q (.ref acc) σ
    | none => False
  | _ => False
mutual
noncomputable def ev (P : Px) : Nat → Expr → Rho → Hp → EQ → Prop
  | 0, _, _, _, _ => False
  | n + 1, e, ρ, σ, Q => match e with
    | .Constant c _ _ => constP c σ Q
    | .Name x _ => nameP P x ρ σ Q
    | .BinOp l op r _ => ev P n l ρ σ fun a σ => ev P n r ρ σ fun b σ => binP op a b σ Q
    | .UnaryOp .USub x _ => ev P n x ρ σ fun v σ => match v with | .int i _ => Q (vi (-i)) σ | _ => False
    | .BoolOp op es _ => boolW (fun e σ Q => ev P n e ρ σ Q) op es σ Q
    | .Compare l [op] [r] _ => behindInMarks op r = false ∧ ev P n l ρ σ fun a σ => ev P n r ρ σ fun b σ => cmpP op a b σ fun c => Q (.bool c) σ
    | .IfExp t a b _ => tst P n t ρ σ fun c σ => match c with | true => ev P n a ρ σ Q | false => ev P n b ρ σ Q
    | .Attribute o x _ => isCallE o = false ∧ ev P n o ρ σ fun v σ => Hold (attrP v x σ Q)
    | .Subscript v i _ => match sliceK i with
      | .plain => ev P n v ρ σ fun a σ => ev P n i ρ σ fun b σ => Hold (getP a b σ Q)
      | .upto u => ev P n v ρ σ fun a σ => ev P n u ρ σ fun b σ => Hold (uptoP P.C a b σ Q)
      | .rev => ev P n v ρ σ fun a σ => Hold (revP a σ Q)
      | .bad => False
    | .Dict [] [] _ => ∀ d ep, σ d = none → Q (.ref d) (upd σ d (.dict [] ep))
    | .Dict (k :: ks) vs _ => ((k :: ks).length ≤ 15 ∧ (k :: ks).all (·.isSome) = true ∧ (k :: ks).length = vs.length) ∧ ∀ d, σ d = none → dictW (fun e σ Q => ev P n e ρ σ Q) (k :: ks) vs (upd σ d (.sd [])) fun l σ =>
        σ d = some (.sd []) ∧ (l.map (·.1)).Nodup ∧ Q (.ref d) (upd σ d (.sd l))
    | .List es _ => (isSlotM es = true ∧ es.length ≤ 20) ∧ evsW (fun e σ Q => ev P n e ρ σ Q) es σ fun vs σ => ∀ c, σ c = none → Q (.ref c) (upd σ c (.list vs))
    | .Tuple es _ _ => (isSlotM es = true ∧ es.length ≤ 20) ∧ evsW (fun e σ Q => ev P n e ρ σ Q) es σ fun vs σ => ∀ c, σ c = none → Q (.ref c) (upd σ c (.tup vs))
    | .ListComp elt [⟨.Name x px, iter, ifs, k⟩] sc _ => (k = 0 ∧ compOk sc P.ns = true ∧ isSetE iter = false) ∧ ev P n iter ρ σ fun v σ => Hold (compS P x px ifs elt sc (ev { P with ns := relN sc.names P.ns, fz := true } n) (tst { P with ns := relN sc.names P.ns, fz := true } n) ρ v σ Q)
    | .Call (.Attribute o m ap) args [] pos => (isCallE o = false ∧ isSlotM args = true ∧ args.length ≤ 20 ∧ ap.endLine = pos.line) ∧ ev P n o ρ σ fun v σ => Hold (methK v m σ fun f => evsW (fun e σ Q => ev P n e ρ σ Q) args σ fun vs σ => callV P f (v :: vs) σ Q)
    | .Call (.Name f p) args [] _ => (isSlotM args = true ∧ args.length ≤ 20) ∧ nameP P f ρ σ fun fv σ => evsW (fun e σ Q => ev P n e ρ σ Q) args σ fun vs σ => callV P fv vs σ Q
    | _ => False
noncomputable def tst (P : Px) : Nat → Expr → Rho → Hp → TQ → Prop
  | 0, _, _, _, _ => False
  | n + 1, e, ρ, σ, Q => match e with
    | .BoolOp op es _ => allW (fun e σ Q => tst P n e ρ σ Q) op es σ Q
    | .Compare l [op] [r] _ => behindInMarks op r = false ∧ ev P n l ρ σ fun a σ => ev P n r ρ σ fun b σ => cmpP op a b σ fun c => Q c σ
    | .Name x _ => nameP P x ρ σ fun v σ => match v with | .bool b => Q b σ | _ => False
    | .Call f args kws pos => ev P n (.Call f args kws pos) ρ σ fun v σ => match v with | .bool b => Q b σ | _ => False
    | _ => False
end

/-! statements -/
noncomputable def forL (P : Px) (tgt : Expr) (body : Rho → Hp → SQ → Prop) (it : Addr) (σ₀ : Hp) : List Value → Rho → Hp → SQ → Prop
  | [], ρ, σ, Q => stay it σ₀ σ ∧ Q .next ρ σ
  | x :: xs, ρ, σ, Q => stay it σ₀ σ ∧ tgtP P tgt x ρ σ fun ρ => body ρ σ fun f ρ σ => match f with
    | .next => forL P tgt body it σ₀ xs ρ σ Q
    | .cont => forL P tgt body it σ₀ xs ρ σ Q
    | .brk => Q .next ρ σ
    | .ret v => Q (.ret v) ρ σ
noncomputable def forI (P : Px) (tgt : List Expr) (body : Rho → Hp → SQ → Prop) (it : Addr) (σ₀ : Hp) : List (Int × Value) → Rho → Hp → SQ → Prop
  | [], ρ, σ, Q => stay it σ₀ σ ∧ Q .next ρ σ
  | (k, v) :: xs, ρ, σ, Q => stay it σ₀ σ ∧ asgs P tgt [vi k, v] ρ fun ρ => body ρ σ fun f ρ σ => match f with
    | .next => forI P tgt body it σ₀ xs ρ σ Q
    | .cont => forI P tgt body it σ₀ xs ρ σ Q
    | .brk => Q .next ρ σ
    | .ret v => Q (.ret v) ρ σ
noncomputable def forP (P : Px) (tgt : Expr) (body : Rho → Hp → SQ → Prop) (v : Value) (ρ : Rho) (σ : Hp) (Q : SQ) : Prop := match v with
  | .ref it => match σ it with
    | some (.items d) => match tgt, σ d with
      | .Tuple es _ _, some (.dict kvs _) => kvs.length ≤ 10000 ∧ forI P es body it σ kvs ρ σ Q
      | _, _ => False
    | _ => match seqV σ it with
      | some xs => xs.length ≤ 10000 ∧ forL P tgt body it σ xs ρ σ Q
      | none => False
  | _ => False
noncomputable def whP (test : Rho → Hp → TQ → Prop) (body : Rho → Hp → SQ → Prop) : Nat → Rho → Hp → SQ → Prop
  | 0, _, _, _ => False
  | m + 1, ρ, σ, Q => test ρ σ fun c σ => match c with
    | true => body ρ σ fun f ρ σ => match f with
      | .next => whP test body m ρ σ Q
      | .cont => whP test body m ρ σ Q
      | .brk => Q .next ρ σ
      | .ret v => Q (.ret v) ρ σ
    | false => Q .next ρ σ
noncomputable def nxt (g : Rho → Hp → SQ → Prop) (Q : SQ) : SQ := fun fl ρ σ => match fl with
  | .next => g ρ σ Q
  | .cont => Q .cont ρ σ
  | .brk => Q .brk ρ σ
  | .ret v => Q (.ret v) ρ σ
noncomputable def exsW (f : Stmt → Rho → Hp → SQ → Prop) : List Stmt → Rho → Hp → SQ → Prop
  | [], ρ, σ, Q => Q .next ρ σ
  | st :: r, ρ, σ, Q => f st ρ σ (nxt (exsW f r) Q)
noncomputable def notRef : Value → Bool
  | .ref _ => false
  | _ => true
/-- no tuple of expressions that are constants together and not each -/
noncomputable def tupOk : Expr → Bool
  | .Tuple vs _ _ => vs.all (foldedForSure 8) || !(vs.all (constantsAlone 8))
  | _ => true
noncomputable def namesT : List Expr → List Str
  | .Name x _ :: r => x :: namesT r
  | _ => []
noncomputable def ex (P : Px) : Nat → Stmt → Rho → Hp → SQ → Prop
  | 0, _, _, _, _ => False
  | n + 1, st, ρ, σ, Q => match st with
    | .Expr e _ => isCompE e = false ∧ ev P n e ρ σ fun v σ => notRef v = true ∧ Q .next ρ σ
    | .Assign [.Name x _] e _ => ev P n e ρ σ fun v σ => asg P x v ρ fun ρ => Q .next ρ σ
    | .Assign [.Attribute o x _] e _ => (isSlotM [] = true ∧ isCallE o = false) ∧ ev P n e ρ σ fun v σ => ev P n o ρ σ fun ov σ => Hold (setattrP ov x v σ fun σ => Q .next ρ σ)
    | .Assign [.Subscript o i _] e _ => (isCompE e = false ∧ notSlice3 i = true) ∧ ev P n e ρ σ fun v σ => ev P n o ρ σ fun ov σ => ev P n i ρ σ fun iv σ => Hold (setP ov iv v σ fun σ => Q .next ρ σ)
    | .Assign [.Tuple ts _ _] e _ => (isCompE e = false ∧ tupOk e = true ∧ (namesT ts).Nodup) ∧ ev P n e ρ σ fun v σ => Hold (tupA P ts v ρ σ fun ρ => Q .next ρ σ)
    | .If t b o _ => tst P n t ρ σ fun c σ => match c with | true => exsW (ex P n) b ρ σ Q | false => exsW (ex P n) o ρ σ Q
    | .Return (some e) _ => ev P n e ρ σ fun v σ => Q (.ret v) ρ σ
    | .Continue _ => Q .cont ρ σ
    | .While t b [] _ => ∃ m, whP (tst P n t) (exsW (ex P n) b) m ρ σ Q
    | .For tgt iter b [] _ => isSetE iter = false ∧ ev P n iter ρ σ fun v σ => Hold (forP P tgt (exsW (ex P n) b) v ρ σ Q)
    | _ => False
end Mine
namespace Mine
/-! sorted over tuples of ints: some order of theirs -/
theorem ints_all {vs : List Value} : ∀ {l : List Int}, allInt (vs.map norm) = some l → ∀ v ∈ vs, ∃ x t, v = .int x t := by
  induction vs with
  | nil => intro _ _ v hv; cases hv
  | cons u r ih =>
    intro l h v hv
    refine e3a3 (int_of_norm h) fun x t l' hR1_3 hR1_4 h' => ?_
    obtain rfl := hR1_3
    obtain rfl := hR1_4
    rcases List.mem_cons.mp hv with rfl | hv
    · exact ⟨x, t, rfl⟩
    · exact ih h' v hv
section
variable {prog : Program} {w : World} {A : Around} {E : Value → Shared → Prop} {s : Shared}
theorem kat_ints {b fin : Bool} {Q : Bool → Shared → Prop} (h : ∀ c, Q c s) : ∀ (l : List (Value × Value)) (i : Nat), (∀ p ∈ l, ∃ x t y u, p = (Value.int x t, Value.int y u)) → KatLex prog w A b fin Q l i s
  | [], i, _ => kat_nil (h _)
  | p :: r, i, hl => by
    refine e4a1 (hl p (List.mem_cons_self ..)) fun x t y u hR2_4 => ?_
    obtain rfl := hR2_4
    refine kat_cons (wpAny_eqBool_int (kat_go (fun _ => kat_yes (kat_ints h r (i + 1) fun p hp => hl p (List.mem_cons_of_mem _ hp))) fun _ => kat_no ?_))
    cases b && i == 0
    · exact kat_one _ _ (PySem.P.lt_int (h _))
    · exact oneLt_int (h _)
/-- each end of a tree of questions, whatever the answers -/
noncomputable def leavesB (n : Nat) (P : Array Nat → Bool) : KasT (Array Nat) → Bool
  | .ret a => P a
  | .ask i j k => decide (i < n) && decide (j < n) && leavesB n P (k true) && leavesB n P (k false)
theorem kas_leaves {n : Nat} {P : Array Nat → Bool} {cmp : Nat → Nat → (Bool → Shared → Prop) → Shared → Prop} {Q : Array Nat → Shared → Prop} (hc : ∀ i j C, i < n → j < n → (∀ c, C c s) → cmp i j C s) (hq : ∀ a, P a = true → Q a s)
    (t : KasT (Array Nat)) (h : leavesB n P t = true) : t.kasWp cmp Q s := by
  induction t with
  | ret a => exact hq a h
  | ask i j k ih =>
    have h' : (decide (i < n) && decide (j < n) && leavesB n P (k true) && leavesB n P (k false)) = true := h
    rw [Bool.and_eq_true, Bool.and_eq_true, Bool.and_eq_true, decide_eq_true_eq, decide_eq_true_eq] at h'
    have h1 : (k true).kasWp cmp Q s := ih true h'.1.2
    have h2 : (k false).kasWp cmp Q s := ih false h'.2
    exact hc i j (fun b s' => (k b).kasWp cmp Q s') h'.1.1.1 h'.1.1.2 fun c => match c with
      | true => h1
      | false => h2
theorem leaves2 : leavesB 2 (fun p => p.toList.isPerm (List.range 2)) (kas_sort 2) = true := by decide +kernel
theorem leaves3 : leavesB 3 (fun p => p.toList.isPerm (List.range 3)) (kas_sort 3) = true := by decide +kernel
theorem leavesN {n : Nat} (h : n = 2 ∨ n = 3) : leavesB n (fun p => p.toList.isPerm (List.range n)) (kas_sort n) = true := by
  rcases h with rfl | rfl
  · exact leaves2
  · exact leaves3
theorem range_getD (us : List Value) : (List.range us.length).map (fun i => us.getD i Value.none) = us := by
  apply List.ext_getElem?
  intro i
  rw [List.getElem?_map]
  by_cases h : i < us.length
  · rw [List.getElem?_range h, List.getElem?_eq_getElem h]; simp [h]
  · rw [List.getElem?_eq_none (by simpa using h), List.getElem?_eq_none (by simpa using h)]; rfl
/-- the tuples' first ints -/
theorem tups_of {h : Heap} : ∀ us : List Value, (∀ v ∈ us, ∃ b ws m i is, v = .ref b ∧ h.get? b = some { cls := .type "tuple", data := .seq ws m } ∧ allInt (ws.toList.map norm) = some (i :: is)) → ∃ fs, KatTups h us fs ∧ fs.length = us.length ∧ ∀ v ∈ fs, ∃ x t, v = Value.int x t
  | [], _ => ⟨[], .nil, rfl, nofun⟩
  | u :: r, H => by
    refine e1a3 (tups_of r fun v hv => H v (List.mem_cons_of_mem _ hv)) fun fs h1 h2 h3 => ?_
    refine e5a3 (H u (List.mem_cons_self ..)) fun b ws m i is hR4_5 hb hi => ?_
    obtain rfl := hR4_5
    cases hw : ws.toList with
    | nil => rw [hw] at hi; cases hi
    | cons f q =>
      rw [hw] at hi
      refine e3a3 (int_of_norm hi) fun x t l' hR5_3 _ _ => ?_
      obtain rfl := hR5_3
      refine ⟨.int x t :: fs, .cons hb rfl rfl ?_ h1, by simp [h2], fun v hv => ?_⟩
      · rw [← Array.toArray_toList (xs := ws), hw]; rfl
      · rcases List.mem_cons.mp hv with rfl | hv
        · exact ⟨x, t, rfl⟩
        · exact h3 v hv
/-- sorted, of one thing or none -/
theorem sorted_short {l : Addr} {vs : List Value} {Q : Value → Shared → Prop} (hl : s.heap.IsList l vs.toArray) (h1 : vs.length < 2)
    (h : Q (.ref (s.heap.objs.size + 1)) { s with heap := sortedAll s.heap vs vs.toArray }) : wpAny (model prog w) A (call (.builtin "sorted") [.ref l]) Q E s := by
  rcases vs with _ | ⟨v, _ | ⟨v', r⟩⟩
  · refine sorted_ints hl (ns := []) .nil (by decide) fun out ns' a1 a2 _ => ?_
    cases List.perm_nil.mp a2
    have : out = #[] := by
      cases e : out.toList with
      | nil => exact Array.toList_inj.mp e
      | cons v r => rw [e] at a1; cases a1
    subst this; exact h
  · clear h1
    refine Calls.call_function_entry kind_sorted plain_sorted entry_sorted (args_sorted1 _) ?_
    unfold Builtin.«sorted»
    refine wpAny_bind (m := checkCount "sorted" 1 1 _) (wpAny_pure ?_)
    refine wpAny_bind (collect_list hl ?_)
    refine wpAny_bind (wpAny_newList ?_)
    have hsz : ((s.heap.push (seqObj "list" #[] 0)).update s.heap.objs.size (Obj.mapSeq (· ++ [v].toArray))).objs.size = s.heap.objs.size + 1 := by
      rw [Heap.size_update, size_push']
    have hoL : (((s.heap.push (seqObj "list" #[] 0)).update s.heap.objs.size (Obj.mapSeq (· ++ [v].toArray))).push (seqObj "list" [v].toArray 0)).get? (s.heap.objs.size + 1) = some (seqObj "list" [v].toArray 0) := by
      rw [← hsz]; exact Heap.get?_push_size _ rfl
    show wpAny _ _ _ _ _ { s with heap := ((s.heap.push (seqObj "list" #[] 0)).update s.heap.objs.size (Obj.mapSeq (· ++ [v].toArray))).push (seqObj "list" [v].toArray 0) }
    rw [hsz]
    generalize hH : ((s.heap.push (seqObj "list" #[] 0)).update s.heap.objs.size (Obj.mapSeq (· ++ [v].toArray))).push (seqObj "list" [v].toArray 0) = H at hoL ⊢
    refine wpAny_bind (wpAny_holding (wpAny_call_entry slot_list_sort ⟨_, hoL, rfl⟩ entry_list_sort ?_ (args_list_sort _)))
    rw [list_sort_plain]
    refine wpAny_bind (listItems_at hoL rfl ?_)
    refine wpAny_bind (listUpdate_at hoL rfl ?_)
    have ha : s.heap.objs.size + 1 < H.objs.size := Heap.lt_size hoL
    obtain ⟨e1, ho1⟩ : ∃ e1, (H.update (s.heap.objs.size + 1) (Obj.mapSeq fun _ => #[])).get? (s.heap.objs.size + 1) = some (seqObj "list" #[] e1) := ⟨_, get?_update_seq hoL (fun _ => #[])⟩
    refine wpAny_bind (seqEpoch_at ho1 rfl ?_)
    refine wpAny_bind (wpAny_newTuple ?_)
    refine wpAny_bind (wpAny_newList ?_)
    refine wpAny_holding ?_
    have ho6 : (((H.update (s.heap.objs.size + 1) (Obj.mapSeq fun _ => #[])).push (seqObj "tuple" [v].toArray 0)).push (seqObj "list" #[] 0)).get? (s.heap.objs.size + 1) = some (seqObj "list" #[] e1) := by
      rw [Heap.get?_push_ne _ _ _ (by rw [size_push', Heap.size_update]; exact Nat.ne_of_lt (Nat.lt_succ_of_lt ha)), Heap.get?_push_ne _ _ _ (by rw [Heap.size_update]; exact Nat.ne_of_lt ha)]
      exact ho1
    show wpAny (model prog w) _ _ _ E { s with heap := ((H.update (s.heap.objs.size + 1) (Obj.mapSeq fun _ => #[])).push (seqObj "tuple" [v].toArray 0)).push (seqObj "list" #[] 0) }
    dsimp only
    rw [if_pos (show [v].toArray.size < 2 by simp), if_pos (show [v].toArray.size < 2 by simp)]
    refine wpAny_bind (wpAny_pure ?_)
    rw [StateT.run_pure]
    refine wpAny_bind (wpAny_pure ?_)
    dsimp only
    refine wpAny_bind (seqEpoch_at ho6 rfl ?_)
    have earr : (arrOf (SortSt.mk' general' ([v].toArray.zip [v].toArray) #[] 7 none)).map (·.2) = #[v] := by
      show (#[v].zip #[v]).map (·.2) = #[v]
      simp
    rw [earr]
    refine wpAny_bind (listUpdate_at ho6 rfl ?_)
    simp only [bne_self_eq_false, Bool.false_eq_true, if_false]
    refine wpAny_pure ⟨_, rfl, wpAny_pure ⟨_, rfl, ?_⟩⟩
    rw [← hH]
    exact h
  · exact absurd h1 (by simp)
end
/-- all objects of a heap, but for one -/
theorem all_objs (h : Heap) (L : Addr) : ∃ l : List (Addr × Obj), (∀ p ∈ l, h.get? p.1 = some p.2 ∧ p.1 ≠ L) ∧ ∀ a o, h.get? a = some o → a ≠ L → (a, o) ∈ l := by
  refine ⟨(List.range h.objs.size).filterMap fun a => if a = L then none else (h.get? a).map fun o => (a, o), fun p hp => ?_, fun a o e ha => ?_⟩
  · refine e1a2 (List.mem_filterMap.mp hp) fun a _ e => ?_
    by_cases q : a = L
    · rw [if_pos q] at e; cases e
    · rw [if_neg q] at e
      refine e1a2 (Option.map_eq_some_iff.mp e) fun o ho hR7_2 => ?_
      obtain rfl := hR7_2
      exact ⟨ho, q⟩
  · refine List.mem_filterMap.mpr ⟨a, List.mem_range.mpr (Heap.lt_size e), ?_⟩
    rw [if_neg ha, e]; rfl
section
variable {P : Px} {env : Env} {A : Around} {ρ : Rho} {σ : Hp}
/-- the frame, found again behind a tree that keeps all but the frame's own object -/
theorem OkF.back {C : Cx} {fz : Bool} {F : Fm} {s : Shared} {m : Str → Option Value} {h' : Heap} {D : Addr} {x : MO} (X : OkF C env fz F σ ρ s) (hmr : ∀ x, env.kindOf x = some .local → (m x).map norm = ρ x) (hn : h'.Ns env.locals m)
    (k : ∀ a o, a ≠ env.locals → s.heap.get? a = some o → h'.get? a = some o) (hD : ∀ a o, a ≠ env.locals → s.heap.get? a = some o → a < D) (hDL : D ≠ env.locals) (h3 : 1 < D) (hx : Holds C h' D x) : σ D = none ∧ OkF C env fz F (upd σ D x) ρ { s with heap := h' } := by
  refine e0a2 X fun hN8_0 Z => ?_
  clear X
  refine e0a3 hN8_0 fun R hg hos => ?_
  clear hN8_0
  have FL : ∀ {a : Addr} {o : Obj}, F a = some o → a ≠ env.locals := fun e q => by rw [q, Z.FL] at e; cases e
  have sL : ∀ {a : Addr} {x : MO}, σ a = some x → a ≠ env.locals := fun e q => by rw [q, Z.σL] at e; cases e
  have sD : σ D = none := by
    cases e : σ D with
    | none => rfl
    | some y =>
      refine e1a1 ((R.own D y e).2.2.there) fun o ho => ?_
      exact absurd (hD D o hDL ho) (Nat.lt_irrefl _)
  have fD : F D = none := by
    cases e : F D with
    | none => rfl
    | some o => exact absurd (hD D o hDL (R.fr _ _ e)) (Nat.lt_irrefl _)
  have cD : ∀ {x : Str} {c : Addr}, env.kindOf x = some .cell → env.cells.lookup x = some c → c < D := fun {x c} hx hc => by
    refine e2a3 (Z.cell x hx) fun c' v hc' hN11_3 _ => ?_
    refine e1a2 hN11_3 fun o ho _ => ?_
    clear hN11_3
    rw [hc] at hc'; cases hc'
    exact hD c o (Z.cL x c hx hc) ho
  refine ⟨sD, ⟨⟨R.base, fun a o e => k a o (FL e) (R.fr a o e), fun a y e => ?_⟩, hg, hos⟩, ⟨⟨m, hn, hmr⟩, fun x hx => ?_, Z.FL, ?_, Z.cL, fun x c hx hc => ?_, Z.Fc, Z.cc⟩⟩
  · by_cases q : a = D
    · subst q
      rw [upd_self] at e; cases e
      exact ⟨fD, Nat.ne_of_gt h3, hx⟩
    · rw [upd_ne _ _ q] at e
      exact ⟨(R.own a y e).1, (R.own a y e).2.1, (R.own a y e).2.2.keep fun o ho => k a o (sL e) ho⟩
  · refine e2a3 (Z.cell x hx) fun c v hc hN13_3 r => ?_
    refine e1a2 hN13_3 fun o ho q => ?_
    clear hN13_3
    exact ⟨c, v, hc, ⟨o, k c o (Z.cL x c hx hc) ho, q⟩, r⟩
  · rw [upd_ne _ _ (Ne.symm hDL)]; exact Z.σL
  · rw [upd_ne _ _ (Nat.ne_of_lt (cD hx hc))]; exact Z.σc x c hx hc
theorem sortedT_sound' (B : Bs P.C) {a : Addr} {Q : EQ} (h : sortedT a σ Q) : Wf P.C A env P.fz (call (.builtin "sorted") [.ref a]) ρ σ fun v => Q (norm v) := by
  intro F s X
  unfold sortedT at h
  split at h
  rotate_left
  · cases h
  rename_i xs e
  refine e0a3 h fun h3 ht hq => ?_
  clear h
  refine e2a2 (X.1.at e) fun vs n ho hR16_3 => ?_
  obtain rfl := hR16_3
  have hl : s.heap.IsList a vs.toList.toArray := ⟨_, ho, rfl, _, rfl⟩
  rw [List.length_map] at h3
  have tups : ∀ v ∈ vs.toList, ∃ b ws m i is, v = .ref b ∧ s.heap.get? b = some { cls := .type "tuple", data := .seq ws m } ∧ allInt (ws.toList.map norm) = some (i :: is) ∧ b ≠ env.locals := fun v hv => by
    have := ht _ (List.mem_map_of_mem hv)
    unfold intTup at this
    split at this
    rotate_left
    · cases this
    rename_i b hb
    split at this
    rotate_left
    · cases this
    rename_i ys eb
    refine e2a1 this fun i is hi => ?_
    clear this
    refine e2a2 (X.1.at eb) fun ws m hw hR18_3 => ?_
    obtain rfl := hR18_3
    exact ⟨b, ws, m, i, is, norm_ref hb, hw, hi, fun q => by rw [q, X.2.σL] at eb; cases eb⟩
  by_cases h2 : vs.toList.length < 2
  · refine sorted_short (vs := vs.toList) hl h2 ?_
    refine e1a1 (sortedAll_at s.heap vs.toList vs.toList.toArray) fun c hc => ?_
    refine ⟨_, X.freeze.2 _ { s with heap := sortedAll s.heap vs.toList vs.toList.toArray } (X.freeze.1.new' B (x := .list (vs.toList.map norm)) (fun b o => sortedAll_old) (Nat.le_succ _) ⟨_, c, hc, by simp⟩), ?_⟩
    exact hq _ (List.Perm.refl _) _ (X.1.1.none_of (Nat.le_succ _))
  · generalize hvs : vs.toList = us at *
    refine e1a2 X.2.ns fun m hm hmr => ?_
    refine e1a2 (all_objs s.heap env.locals) fun news N1 N2 => ?_
    have F0 : PyProof.Rows.Fr ({} : Heap) env.locals s.heap m := ⟨hm, fun b o e => by simp [Heap.get?] at e, Nat.zero_le _⟩
    have N0 : PyProof.Rows.News ({} : Heap) env.locals s.heap news := fun p hp => ⟨(N1 p hp).1, (N1 p hp).2, by simp [Heap.get?]⟩
    have inN : ∀ a o, a ≠ env.locals → s.heap.get? a = some o → (a, o) ∈ news := fun a o ha e => N2 a o e ha
    refine kat_sorted F0 N0 hl (by omega) (by omega) fun D e1 h' F' N' hlt => ?_
    have DL : D ≠ env.locals := (N' _ (List.mem_cons_self ..)).2.1
    have D1 : 1 < D := by
      refine e1a1 B.three fun o e3 => ?_
      have e3 := X.1.1.base _ _ (B.X _ _ e3)
      have := hlt _ (inN _ _ (fun q => by rw [q, X.2.FL] at e3; cases e3) (X.1.1.fr _ _ e3))
      exact Nat.lt_trans (show 1 < (3 : Nat) by decide) this
    have keep' : ∀ a o, a ≠ env.locals → s.heap.get? a = some o → h'.get? a = some o := fun a o ha e => (N' _ (List.mem_cons_of_mem _ (inN a o ha e))).1
    have tups' : ∀ v ∈ us, ∃ b ws m i is, v = .ref b ∧ h'.get? b = some { cls := .type "tuple", data := .seq ws m } ∧ allInt (ws.toList.map norm) = some (i :: is) := fun v hv => by
      refine e5a4 (tups v hv) fun b ws m i is q1 q2 q3 q4 => ?_
      exact ⟨b, ws, m, i, is, q1, keep' _ _ q4 q2, q3⟩
    refine e1a3 (tups_of us tups') fun fs t1 t2 t3 => ?_
    refine kat_kind (s := { s with heap := h' }) (T := .type "int") t1 (by omega) (fun v hv => ?_) (by rfl) ?_
    · refine e2a1 (t3 v hv) fun x t hR25_2 => ?_
      obtain rfl := hR25_2
      exact Looks.of_pure rfl
    · refine kas_leaves (n := us.length) (P := fun p => p.toList.isPerm (List.range us.length)) (fun i j K hi hj hK => ?_) (fun p hp => ?_) _ (leavesN (by omega))
      · refine e5a3 (tups' us[i] (List.getElem_mem hi)) fun b1 ws1 m1 i1 is1 q1 q2 q3 => ?_
        refine e5a3 (tups' us[j] (List.getElem_mem hj)) fun b2 ws2 m2 i2 is2 r1 r2 r3 => ?_
        have g1 : us.getD i Value.none = .ref b1 := by rw [← q1]; simp [hi]
        have g2 : us.getD j Value.none = .ref b2 := by rw [← r1]; simp [hj]
        unfold kas_ask
        rw [g1, g2]
        refine kat_lt (s := { s with heap := h' }) q2 rfl r2 rfl (kat_ints hK _ 0 fun p hp => ?_)
        have hp' := List.of_mem_zip (a := p.1) (b := p.2) hp
        refine e2a1 (ints_all q3 _ hp'.1) fun x t e1 => ?_
        refine e2a1 (ints_all r3 _ hp'.2) fun y u e2 => ?_
        exact ⟨x, t, y, u, by rw [← e1, ← e2]⟩
      · refine KasFin.intro F' N' (UpdF.head fun p hp => Nat.ne_of_lt (hlt p hp)) fun h'' c F'' N'' => ?_
        have hp' := (List.isPerm_iff.mp hp).map (fun i => us.getD i Value.none)
        rw [range_getD] at hp'
        refine e0a2 (OkF.back (x := .list ((p.toList.map fun i => us.getD i Value.none).map norm)) X hmr F''.ns (fun a o ha e => (N'' _ (List.mem_cons_of_mem _ (inN a o ha e))).1) (fun a o ha e => hlt _ (inN a o ha e)) DL D1 ⟨_, c, (N'' _ (List.mem_cons_self ..)).1, by simp⟩) fun sD Y => ?_
        exact ⟨_, Y, hq _ (hp'.map norm) _ sD⟩
end
end Mine
namespace Mine
structure EnvP (P : Px) (env : Env) : Prop where
  fn : env.scope.kind = .function
  kind : ∀ x, env.kindOf x = P.ns.lookup x
  glob : env.globals = mainGlobals
  blt : env.builtins = builtinsNs
  dbg : P.ns.lookup ("__debug__" : Str) = none
section
variable {P : Px} {env : Env} {A : Around} {ρ : Rho} {σ : Hp}
noncomputable abbrev WF {α : Type} (P : Px) (A : Around) (env : Env) (t : Sem α) (ρ : Rho) (σ : Hp) (Q : α → Hp → Prop) : Prop := Wf P.C A env P.fz t ρ σ Q
theorem WF.c_int {i : Int} {Q : EQ} (h : Q (vi i) σ) : WF P A env (constValue env (.int i)) ρ σ fun v => Q (norm v) := fun _ _ X => wpAny_mkInt ⟨σ, X, h⟩
theorem constP_sound {c : Const} {Q : EQ} (h : constP c σ Q) : WF P A env (constValue env c) ρ σ fun v => Q (norm v) := by
  unfold constP at h
  split at h
  · exact fun _ _ X => wpAny_pure ⟨σ, X, h⟩
  · exact fun _ _ X => wpAny_pure ⟨σ, X, h⟩
  · exact WF.c_int h
  · exact fun _ _ X => wpAny_mkText ⟨σ, X, h⟩
  · cases h
theorem nameP_sound (B : Bs P.C) (hE : EnvP P env) {x : Str} {pos : Pos} {Q : EQ} (h : nameP P x ρ σ Q) : WF P A env (eval (.Name x pos) env) ρ σ fun v => Q (norm v) := by
  intro F s X
  have hd : (x == ("__debug__" : Str)) = false := by
    cases e : x == ("__debug__" : Str) with
    | false => rfl
    | true =>
      rw [beq_iff_eq.mp e] at h
      unfold nameP at h
      rw [hE.dbg] at h; cases h
  refine wpAny_Name ?_ hd
  unfold nameP at h
  split at h
  · rename_i hk
    rw [← hE.kind] at hk
    rw [loadName_read hE.fn hk]
    split at h
    · rename_i v hv
      have X' := X.1.frag B
      rcases B.glob _ _ hv with ⟨v', h1, rfl⟩ | ⟨h1, h2, h3, h4⟩
      · unfold loadGlobal
        rw [hE.glob]
        refine wpAny_bind (looks_nsIn X' h1 _ _ _ _ (fun _ _ e => e) ?_)
        exact wpAny_pure ⟨σ, X, h⟩
      · refine e2a1 B.T fun p loose T => ?_
        have T' := T.keeps (h' := s.heap) fun b o q => X.1.1.fr _ _ (X.1.1.base _ _ q)
        unfold loadGlobal
        rw [hE.glob, hE.blt]
        refine wpAny_bind (looks_nsIn X' h1 _ _ _ _ (fun _ _ e => e) ?_)
        refine wpAny_bind (wpAny_nsGet T'.b ?_)
        rw [T'.builtins x h3, h2]
        exact wpAny_pure ⟨σ, X, by show Q (norm v) σ; rw [h4]; exact h⟩
    · cases h
  · rename_i hk
    rw [← hE.kind] at hk
    replace h := h.out
    unfold locP at h
    split at h
    · rename_i v hv
      refine e1a2 X.2.ns fun m hm hr => ?_
      have e := hr x hk
      rw [hv] at e
      refine e1a2 (Option.map_eq_some_iff.mp e) fun v' hv' hR2_2 => ?_
      obtain rfl := hR2_2
      exact wpAny_loadName_local hE.fn hk hm hv' ⟨σ, X, h⟩
    · cases h
  · rename_i hk
    rw [← hE.kind] at hk
    replace h := h.out
    unfold locP at h
    split at h
    · rename_i v hv
      refine e2a3 (X.2.cell x hk) fun c w hc hcell hr => ?_
      rw [hv] at hr
      refine e1a2 (Option.map_eq_some_iff.mp hr) fun v' hR4_1 hR4_2 => ?_
      obtain rfl := hR4_1
      obtain rfl := hR4_2
      exact wpAny_loadName_cell hE.fn hk hc hcell ⟨σ, X, h⟩
    · cases h
  · cases h
/-- a name stored -/
theorem asg_sound (hE : EnvP P env) {x : Str} {v : Value} {Q : Rho → Prop} (h : asg P x (norm v) ρ Q) : Wr P.C A env P.fz (storeName env x v) ρ σ fun _ ρ' σ' => Q ρ' ∧ σ' = σ := by
  intro F s X
  unfold asg at h
  split at h
  · rename_i hk
    rw [← hE.kind] at hk
    refine e1a2 X.2.ns fun m hm hr => ?_
    refine wpAny_storeName_local hk hm (fun h' hn hs => ⟨σ, _, ⟨X.1.heap (X.1.1.other hs.extBut X.2.FL X.2.σL), ?_⟩, h, rfl⟩) (by rw [hE.fn]; rfl)
    refine ⟨⟨_, hn, fun y hy => ?_⟩, fun y hy => ?_, X.2.FL, X.2.σL, X.2.cL, X.2.σc, X.2.Fc, X.2.cc⟩
    · unfold setR
      by_cases q : y = x
      · rw [if_pos q, if_pos q]; rfl
      · rw [if_neg q, if_neg q]; exact hr y hy
    · refine e2a3 (X.2.cell y hy) fun c w hc hcell hw => ?_
      have q : y ≠ x := fun q => by rw [q, hk] at hy; cases hy
      exact ⟨c, w, hc, hcell.sameBut hs (X.2.cL y c hy hc), by rw [setR_ne _ _ q]; exact hw⟩
  · rename_i hk
    rw [← hE.kind] at hk
    refine e0a2 h fun hz h => ?_
    refine e2a3 (X.2.cell x hk) fun c w hc hcell hw => ?_
    refine wpAny_storeName_cell hE.fn hk hc hcell fun h' hn hs => ⟨σ, _, ⟨X.1.heap' (X.1.1.other hs.extBut (X.2.Fc hz x c hk hc) (X.2.σc x c hk hc)), ?_⟩, h, rfl⟩
    refine e1a2 X.2.ns fun m hm hr => ?_
    refine ⟨⟨m, hm.sameBut hs (Ne.symm (X.2.cL x c hk hc)), fun y hy => ?_⟩, fun y hy => ?_, X.2.FL, X.2.σL, X.2.cL, X.2.σc, X.2.Fc, X.2.cc⟩
    · have q : y ≠ x := fun q => by rw [q, hk] at hy; cases hy
      rw [setR_ne _ _ q]; exact hr y hy
    · by_cases q : y = x
      · subst q
        exact ⟨c, _, hc, hn, by rw [setR_self]; rfl⟩
      · refine e2a3 (X.2.cell y hy) fun c' w' hc' hcell' hw' => ?_
        have : c' ≠ c := fun e => q (X.2.cc y x c' hy hk hc' (e ▸ hc))
        exact ⟨c', w', hc', hcell'.sameBut hs this, by rw [setR_ne _ _ q]; exact hw'⟩
  · cases h

/-! expressions -/
theorem WF.binop {l r : Expr} {op : Operator} {pos : Pos} {Q : EQ} (h : WF P A env (eval l env) ρ σ fun a σ => WF P A env (eval r env) ρ σ fun b σ => WF P A env (binaryOp op a b) ρ σ fun v => Q (norm v)) :
    WF P A env (eval (.BinOp l op r pos) env) ρ σ fun v => Q (norm v) := fun F s X =>
  wpAny_BinOp (wpAny_mono (h F s X) (fun _ _ rP => e1a2 rP fun _ X1 q1 => wpAny_mono (q1 F _ X1) (fun _ _ rP => e1a2 rP fun _ X2 q2 => q2 F _ X2) fun _ _ x => x) fun _ _ x => x)
theorem WF.cmp {l r : Expr} {op : CmpOp} {pos : Pos} {Q : EQ} (hm : behindInMarks op r = false) (h : WF P A env (eval l env) ρ σ fun a σ => WF P A env (eval r env) ρ σ fun b σ => WF P A env (compareOp op a b) ρ σ fun v => Q (norm v)) :
    WF P A env (eval (.Compare l [op] [r] pos) env) ρ σ fun v => Q (norm v) := fun F s X =>
  wpAny_Compare1 (wpAny_mono (h F s X) (fun _ _ rP => e1a2 rP fun _ X1 q1 => wpAny_mono (q1 F _ X1) (fun _ _ rP => e1a2 rP fun _ X2 q2 => q2 F _ X2) fun _ _ x => x) fun _ _ x => x) hm
theorem WF.tcmp {l r : Expr} {op : CmpOp} {pos : Pos} {whole : Sem Value} {Q : TQ} (hm : behindInMarks op r = false)
    (h : WF P A env (eval l env) ρ σ fun a σ => WF P A env (eval r env) ρ σ fun b σ => WF P A env (compareOp op a b) ρ σ fun v σ => ∃ b, v = .bool b ∧ Q b σ) :
    WF P A env (isTrue (.Compare l [op] [r] pos) env whole) ρ σ Q := fun F s X =>
  wpAny_isTrue_Compare1 (wpAny_mono (h F s X) (fun _ _ rP => e1a2 rP fun _ X1 q1 => wpAny_mono (q1 F _ X1) (fun _ _ rP => e1a2 rP fun _ X2 q2 => wpAny_mono (q2 F _ X2) (fun _ _ ⟨_, X3, b, e, q3⟩ => by
    subst e; exact wpAny_truthy_bool ⟨_, X3, q3⟩) fun _ _ x => x) fun _ _ x => x) fun _ _ x => x) hm
noncomputable def boolQ (Q : TQ) : Value → Hp → Prop
  | .bool b, σ => Q b σ
  | _, _ => False
/-- cmpP's answer is a bool -/
theorem cmpP_bool {k : Nat} (hA : AOk k A) {op : CmpOp} {a b : Value} {Q : TQ} (h : cmpP op (norm a) (norm b) σ fun b => Q b σ) :
    W P.C A (compareOp op a b) σ (fun v σ => ∃ b, v = .bool b ∧ Q b σ) :=
  W.mono (cmpP_sound (C := P.C) (σ := σ) hA (op := op) (a := a) (b := b) (Q := boolQ Q) h) fun v σ' q => by
    cases v <;> first | exact ⟨_, rfl, q⟩ | exact False.elim q
theorem WF.usub {x : Expr} {pos : Pos} {Q : EQ} (h : WF P A env (eval x env) ρ σ fun v σ => match norm v with | .int i _ => Q (vi (-i)) σ | _ => False) :
    WF P A env (eval (.UnaryOp .USub x pos) env) ρ σ fun v => Q (norm v) := fun F s X => by
  show wpAny _ A (do let v ← eval x env; standAt pos; holding [v] (unaryOp .USub v)) _ _ s
  refine wpAny_bind (wpAny_mono (h F s X) (fun v s1 rP => e1a2 rP fun σ1 X1 q1 => wpAny_bind (wpAny_standAt (wpAny_holding ?_))) fun _ _ x => x)
  dsimp only at q1
  split at q1
  · rename_i i _ e
    refine e1a1 (lt_of_norm e) fun u hR11_1 => ?_
    obtain rfl := hR11_1
    exact PySem.P.neg_int ⟨σ1, X1, q1⟩
  · cases q1
theorem WF.ifexp {t a b : Expr} {pos : Pos} {Q : Value → Hp → Prop} (h : WF P A env (isTrue t env (eval t env)) ρ σ fun c σ => match c with | true => WF P A env (eval a env) ρ σ Q | false => WF P A env (eval b env) ρ σ Q) :
    WF P A env (eval (.IfExp t a b pos) env) ρ σ Q := fun F s X => by
  show wpAny _ A (do if ← isTrue t env (eval t env) then eval a env else eval b env) _ _ s
  refine wpAny_bind (wpAny_mono (h F s X) (fun c s1 rP => e1a2 rP fun σ1 X1 q1 => ?_) fun _ _ x => x)
  cases c
  · simp only [Bool.false_eq_true, if_false]; exact q1 F s1 X1
  · simp only [if_true]; exact q1 F s1 X1
theorem attributeBase_plain {o : Expr} {x : Str} {whole : Sem Value} (h : isCallE o = false) : attributeBase o x env whole = whole := by
  cases o <;> first | exact tf h | exact Eq.refl whole
theorem WF.attr {o : Expr} {x : Str} {pos : Pos} {Q : Value → Hp → Prop} (ho : isCallE o = false) (h : WF P A env (eval o env) ρ σ fun v σ => WF P A env (getAttr v x true) ρ σ Q) :
    WF P A env (eval (.Attribute o x pos) env) ρ σ Q := fun F s X => by
  show wpAny _ A (do let v ← attributeBase o x env (eval o env); standAt pos.atName; let r ← holding [v] (getAttr v x true); letTemporaryGo o v r; pure r) _ _ s
  rw [attributeBase_plain ho]
  refine wpAny_bind (wpAny_mono (h F s X) (fun v s1 rP => e1a2 rP fun σ1 X1 q1 => wpAny_bind (wpAny_standAt (wpAny_bind (wpAny_holding (wpAny_mono (q1 F s1 X1) (fun r s2 rP => e1a2 rP fun σ2 X2 q2 => ?_) fun _ _ x => x))))) fun _ _ x => x)
  exact wpAny_bind (wpAny_letTemporaryGo (wpAny_pure ⟨σ2, X2, q2⟩))
theorem WF.sub {v i : Expr} {pos : Pos} {Q : Value → Hp → Prop} (h : WF P A env (eval v env) ρ σ fun a σ => WF P A env (eval i env) ρ σ fun b σ => WF P A env (subscriptTail v i a b) ρ σ Q) :
    WF P A env (eval (.Subscript v i pos) env) ρ σ Q := fun F s X =>
  Subscript_ (wpAny_mono (h F s X) (fun _ _ rP => e1a2 rP fun _ X1 q1 => wpAny_mono (q1 F _ X1) (fun _ _ rP => e1a2 rP fun _ X2 q2 => q2 F _ X2) fun _ _ x => x) fun _ _ x => x)

/-! lists of expressions -/
theorem notStar_each {e : Expr} {r : List Expr} (h : isStarE e = false) : starEach (e :: r) env = (false, eval e env) :: starEach r env := by
  cases e <;> first | rfl | cases h
theorem evs_sound {pos : Pos} {f : Expr → Hp → EQ → Prop} (hf : ∀ e σ Q, f e σ Q → WF P A env (eval e env) ρ σ fun v => Q (norm v)) : ∀ (es : List Expr) (σ : Hp) (Q : List Value → Hp → Prop), isSlotM es = true → evsW f es σ Q →
    WF P A env (spliced (backTo pos (starEach es env))) ρ σ fun vs σ => vs.length = es.length ∧ Q (vs.map norm) σ
  | [], σ, Q, _, h => fun _ _ X => wpAny_pure ⟨σ, X, rfl, h⟩
  | e :: r, σ, Q, hs, h => by
    intro F s X
    have hs' : isStarE e = false ∧ isSlotM r = true := by simpa [isSlotM] using hs
    rw [notStar_each hs'.1]
    refine Calls.spliced_cons (wpAny_mono (hf e σ _ h F s X) (fun v s1 ⟨σ1, X1, q1⟩ => wpAny_mono (evs_sound hf r σ1 _ hs'.2 q1 F s1 X1) (fun vs s2 ⟨σ2, X2, e, q2⟩ => ⟨σ2, X2, congrArg (· + 1) e, q2⟩) fun _ _ x => x) fun _ _ x => x)
theorem plain_args {pos : Pos} : ∀ {es : List Expr}, isSlotM es = true → (backTo pos (starEach es env)).any (·.1) = false
  | [], _ => rfl
  | e :: r, hs => by
    have hs' : isStarE e = false ∧ isSlotM r = true := by simpa [isSlotM] using hs
    rw [notStar_each hs'.1]
    show (false || (backTo pos (starEach r env)).any (·.1)) = false
    rw [plain_args hs'.2]; rfl
theorem few_args {pos : Pos} : ∀ {es : List Expr}, isSlotM es = true → (backTo pos (starEach es env)).all (fun x => !x.1) = true
  | [], _ => rfl
  | e :: r, hs => by
    have hs' : isStarE e = false ∧ isSlotM r = true := by simpa [isSlotM] using hs
    rw [notStar_each hs'.1]
    show (true && (backTo pos (starEach r env)).all (fun x => !x.1)) = true
    rw [few_args hs'.2]; rfl
theorem evalArgs_any {M : Model} {E : Value → Shared → Prop} {s : Shared} {f : Value} {pos : Pos} {es : List Expr} {Q : Args → Shared → Prop} (hs : isSlotM es = true)
    (h : wpAny M A (spliced (backTo pos (starEach es env))) (fun vs s' => Q ⟨vs, []⟩ s') E s) : wpAny M A (evalArgs f true (backTo pos (starEach es env)) []) Q E s := by
  cases es with
  | nil =>
    unfold evalArgs
    show wpAny M A (spliced [] >>= _) Q E s
    refine wpAny_bind (wpAny_mono h (fun vs s' q => wpAny_bind (wpAny_pure (wpAny_holding ?_))) fun _ _ x => x)
    exact wpAny_bind (wpAny_pure (wpAny_bind (wpAny_pure (wpAny_pure q))))
  | cons e r =>
    have hs' : isStarE e = false ∧ isSlotM r = true := by simpa [isSlotM] using hs
    rw [notStar_each hs'.1] at h ⊢
    exact Calls.evalArgs_plain h
/-- what may be called: a built-in, a type, or what the text's own objects keep -/
noncomputable def mayCall (C : Cx) : Value → Prop
  | .builtin _ => True
  | .type _ => True
  | .ref a => keepIn C.K (.ref a) = true
  | _ => False
theorem callWith_sound (B : Bs P.C) {pos : Pos} {f : Value} {first : List Value} {es : List Expr} {Q : Value → Hp → Prop} (hs : isSlotM es = true)
    (h : WF P A env (spliced (backTo pos (starEach es env))) ρ σ fun vs σ => mayCall P.C f ∧ WF P A env (call f (first ++ vs)) ρ σ Q) :
    WF P A env (callWith pos f first (backTo pos (starEach es env)) []) ρ σ Q := by
  intro F s X
  have hp : ((backTo pos (starEach es env)).any (·.1) || ([] : List (Option Str × Sem Value)).any (·.1.isNone)) = false := by rw [plain_args hs]; rfl
  refine callWith_of (P := fun h => mayCall P.C f ∧ P.C.K.In h) hp (fun hh X => ?_) (evalArgs_any hs (wpAny_mono (h F s X) (fun vs s1 ⟨σ1, X1, m, q1⟩ => ⟨⟨m, X1.1.frag B⟩, q1 F s1 X1⟩) fun _ _ x => x))
  refine e0a2 X fun m K => ?_
  clear X
  cases f with
  | ref a => exact keeps_K m hh K
  | builtin id => exact ⟨.machine, .inr (.inl rfl), Looks.of_pure rfl⟩
  | type id => exact ⟨.machine, .inr (.inl rfl), Looks.of_pure rfl⟩
  | _ => cases m
/-- sorted, over tuples -/
theorem sortedT_sound (B : Bs P.C) (hA : AOk P.k A) (hE : EnvP P env) {a : Addr} {Q : EQ} (h : sortedT a σ Q) : WF P A env (call (.builtin "sorted") [.ref a]) ρ σ fun v => Q (norm v) := sortedT_sound' B h
theorem callV_sound (B : Bs P.C) (hA : AOk P.k A) (hE : EnvP P env) {f : Value} {vs : List Value} {Q : EQ} (h : callV P (norm f) (vs.map norm) σ Q) : mayCall P.C f ∧ WF P A env (call f vs) ρ σ fun v => Q (norm v) := by
  unfold callV at h
  split at h
  · rename_i id e
    cases norm_builtin e
    refine ⟨trivial, ?_⟩
    split at h
    · rename_i e; subst e
      split at h
      · rename_i a e
        cases nm1 e
        rcases h.out with h | h
        · exact (sortedP_sound B h).lift
        · exact sortedT_sound B hA hE h
      · cases h
    · exact (callB_sound B h).lift
  · rename_i id e
    cases norm_type e
    exact ⟨trivial, (callT_sound B hA h).lift⟩
  · rename_i a e
    cases norm_ref e
    exact ⟨h.1, W.lift (W.call (h.2 A hA vs rfl))⟩
  · cases h
theorem WF.callName (B : Bs P.C) {f : Str} {p pos : Pos} {es : List Expr} {Q : Value → Hp → Prop} (hs : isSlotM es = true)
    (h : WF P A env (eval (.Name f p) env) ρ σ fun fv σ => WF P A env (spliced (backTo pos (starEach es env))) ρ σ fun vs σ => mayCall P.C fv ∧ WF P A env (call fv vs) ρ σ Q) :
    WF P A env (eval (.Call (.Name f p) es [] pos) env) ρ σ Q := fun F s X =>
  wpAny_Call_Name_kw (wpAny_mono (h F s X) (fun fv s1 rP => e1a2 rP fun σ1 X1 q1 => callWith_sound B hs (first := []) q1 F s1 X1) fun _ _ x => x)
theorem WF.callMeth (B : Bs P.C) {o : Expr} {m : Str} {ap pos : Pos} {es : List Expr} {Q : Value → Hp → Prop} (ho : isCallE o = false) (hs : isSlotM es = true) (hn : es.length ≤ 20) (hl : ap.endLine = pos.line)
    (h : WF P A env (eval o env) ρ σ fun ov σ => ∃ f, (∀ pl Q', Q' (f, [ov]) σ → W P.C A (getMethod ov m pl) σ Q') ∧
      WF P A env (spliced (backTo pos (starEach es env))) ρ σ fun vs σ => mayCall P.C f ∧ WF P A env (call f (ov :: vs)) ρ σ Q) :
    WF P A env (eval (.Call (.Attribute o m ap) es [] pos) env) ρ σ Q := by
  intro F s X
  show wpAny _ A (do let ov ← attributeBase o m env (eval o env); standAt ap.atName; methodCall o m ap pos env ov (es.length + ([] : List Keyword).length) (backTo pos (starEach es env)) (backToKw pos (keywordEach [] env))) _ _ s
  rw [attributeBase_plain ho]
  have few : methodCallForm (es.length + ([] : List Keyword).length) (backTo pos (starEach es env)) (backToKw pos (keywordEach [] env)) = true := by
    unfold methodCallForm
    rw [few_args hs]
    show (true && true && decide (es.length + 0 + 0 < 30)) = true
    simp; omega
  refine wpAny_bind (wpAny_mono (h F s X) (fun ov s1 ⟨σ1, X1, f, hm, q1⟩ => wpAny_bind (wpAny_standAt ?_)) fun _ _ x => x)
  unfold methodCall
  rw [few]
  unfold calleeOf
  refine wpAny_bind (wpAny_holding ?_)
  refine wpAny_mono ((hm _ (fun r σ' => r = (f, [ov]) ∧ σ' = σ1) ⟨rfl, rfl⟩).lift F s1 X1) (fun r s2 ⟨σ2, X2, e, e2⟩ => ?_) fun _ _ x => x
  subst e; subst e2
  unfold methodCallPos
  have e1 : (ap.endLine == pos.line) = true := by rw [hl]; exact beq_self_eq_true _
  rw [e1]
  refine wpAny_bind (wpAny_pure ?_)
  exact callWith_sound B hs q1 F s2 X2

theorem OkF.grow {C : Cx} {fz : Bool} {F : Fm} {s : Shared} (X : OkF C env fz F σ ρ s) {h' : Heap} {k : Nat} (kp : ∀ b o, s.heap.get? b = some o → h'.get? b = some o) : OkF C env fz F σ ρ { s with heap := h', toks := k } :=
  X.freeze.2 _ _ ⟨X.freeze.1.1.keeps kp, X.1.2⟩
theorem OkF.new (B : Bs P.C) {fz : Bool} {F : Fm} {s : Shared} (X : OkF P.C env fz F σ ρ s) {a : Addr} {x : MO} {h' : Heap} {k : Nat} (kp : ∀ b o, s.heap.get? b = some o → h'.get? b = some o) (ha : s.heap.objs.size ≤ a) (H : Holds P.C h' a x) : OkF P.C env fz F (upd σ a x) ρ { s with heap := h', toks := k } :=
  X.freeze.2 _ _ (X.freeze.1.new' B kp ha H)
theorem OkF.fresh {C : Cx} {fz : Bool} {F : Fm} {s : Shared} (X : OkF C env fz F σ ρ s) {a : Addr} (ha : s.heap.objs.size ≤ a) : σ a = none := X.1.none_of ha
theorem WF.list (B : Bs P.C) {es : List Expr} {pos : Pos} {Q : EQ} (h : WF P A env (spliced (backTo pos (starEach es env))) ρ σ fun vs σ => vs.length ≤ 10000 ∧ ∀ c, σ c = none → Q (.ref c) (upd σ c (.list (vs.map norm)))) :
    WF P A env (eval (.List es pos) env) ρ σ fun v => Q (norm v) := fun F s X => by
  show wpAny _ A (do standAt pos; newList (← spliced (backTo pos (starEach es env)))) _ _ s
  refine wpAny_bind (wpAny_standAt (wpAny_bind (wpAny_mono (h F s X) (fun vs s1 ⟨σ1, X1, hz, q1⟩ => ?_) fun _ _ x => x)))
  exact wpAny_newList ⟨_, X1.new B (x := .list (vs.map norm)) (k := s1.toks) (push_keeps _ _) (Nat.le_refl _) ⟨vs.toArray, 0, Heap.get?_push_size _ rfl, rfl⟩, q1 _ (X1.fresh (Nat.le_refl _))⟩ (by rw [sizeLine_eq]; omega)
theorem WF.tuple (B : Bs P.C) {es : List Expr} {k : Nat} {pos : Pos} {Q : EQ} (h : WF P A env (spliced (backTo pos (starEach es env))) ρ σ fun vs σ => vs.length ≤ 10000 ∧ ∀ c, σ c = none → Q (.ref c) (upd σ c (.tup (vs.map norm)))) :
    WF P A env (eval (.Tuple es k pos) env) ρ σ fun v => Q (norm v) := fun F s X => by
  show wpAny _ A (do standAt pos; newTuple (← spliced (backTo pos (starEach es env)))) _ _ s
  refine wpAny_bind (wpAny_standAt (wpAny_bind (wpAny_mono (h F s X) (fun vs s1 ⟨σ1, X1, hz, q1⟩ => ?_) fun _ _ x => x)))
  exact wpAny_newTuple ⟨_, X1.new B (x := .tup (vs.map norm)) (k := s1.toks) (push_keeps _ _) (Nat.le_refl _) ⟨vs.toArray, 0, Heap.get?_push_size _ rfl, rfl⟩, q1 _ (X1.fresh (Nat.le_refl _))⟩ (by rw [sizeLine_eq]; omega)
theorem WF.dict0 (B : Bs P.C) {pos : Pos} {Q : EQ} (h : ∀ d ep, σ d = none → Q (.ref d) (upd σ d (.dict [] ep))) : WF P A env (eval (.Dict [] [] pos) env) ρ σ fun v => Q (norm v) := fun F s X => by
  refine e1a1 ((Heap.DictOf.new (knd := intKind P.C.prog P.C.w) s.heap).dictAt) fun ep hd => ?_
  exact wpAny_Dict_empty ⟨_, X.new B (x := .dict [] ep) (k := s.toks) (push_keeps _ _) (Nat.le_refl _) ⟨[], hd, rfl⟩, h _ _ (X.fresh (Nat.le_refl _))⟩

/-! slices -/
theorem WF.upto (B : Bs P.C) {v u : Expr} {p pos : Pos} {Q : EQ} (h : WF P A env (eval v env) ρ σ fun a σ => WF P A env (eval u env) ρ σ fun b σ => uptoP P.C (norm a) (norm b) σ Q) :
    WF P A env (eval (.Subscript v (.Slice none (some u) none p) pos) env) ρ σ fun v => Q (norm v) := by
  intro F s X
  refine Subscript_ (wpAny_mono (h F s X) (fun a s1 rP => e1a2 rP fun σ1 X1 q1 => wpAny_Slice (wpAny_pure (wpAny_mono (q1 F s1 X1) (fun b s2 rP => e1a2 rP fun σ2 X2 q2 => wpAny_pure ?_) fun _ _ x => x))) fun _ _ x => x)
  dsimp only at q2
  unfold uptoP at q2
  split at q2
  · rename_i a' k _ ha hb
    cases norm_ref ha
    refine e1a1 (lt_of_norm hb) fun t hR14_1 => ?_
    obtain rfl := hR14_1
    rcases q2 with q2 | q2
    · split at q2
      rotate_left
      · cases q2
      rename_i xs e
      refine e2a2 (X2.1.at e) fun vs n ho hR15_3 => ?_
      obtain rfl := hR15_3
      refine e0a3 q2 fun h0 hz q2 => ?_
      have X3 : OkF P.C env P.fz F σ2 ρ { s2 with heap := s2.heap.push { cls := .type "slice", data := .fields #[.none, .int k t, .none] } } := X2.grow (k := s2.toks) (push_keeps _ _)
      have hl : (s2.heap.push { cls := .type "slice", data := .fields #[.none, .int k t, .none] }).IsList a' vs := ⟨_, push_keeps _ _ _ _ ho, rfl, _, rfl⟩
      refine tail_any (T := "list") (ops := [.ref s2.heap.objs.size, .ref a']) (s := { s2 with heap := s2.heap.push { cls := .type "slice", data := .fields #[.none, .int k t, .none] } }) hl.typeIs slot_list_getitem.lookup
        (wpAny_getItem_list_slice hl (Heap.IsSliceOf.new ..) .none (.int k t) .none (by simp) ⟨_, X3.new B (x := .list (vs.toList.map norm |>.take k.toNat)) (k := s2.toks) (push_keeps _ _) (Nat.le_refl _) ⟨_, 0, Heap.get?_push_size _ rfl, ?_⟩, q2 _ (X3.fresh (Nat.le_refl _))⟩ ?_) rfl
      · have e2 : slicePick vs none (some k) none = (vs.toList.take k.toNat).toArray := by
          have := slicePick_upto' vs k.toNat
          rwa [Int.toNat_of_nonneg h0] at this
        rw [e2, List.map_take]
      · rw [List.length_map, Array.length_toList] at hz; rw [sizeLine_eq]; omega
    · refine e1a4 q2 fun vs hl0 h0 hz q2 => ?_
      refine hideG fun PG kG => ?_
      obtain ⟨o, ho, hcls, n, hdat⟩ := hl0
      refine kG ?_
      clear kG PG
      have X3 : OkF P.C env P.fz F σ2 ρ { s2 with heap := s2.heap.push { cls := .type "slice", data := .fields #[.none, .int k t, .none] } } := X2.grow (k := s2.toks) (push_keeps _ _)
      have hl : (s2.heap.push { cls := .type "slice", data := .fields #[.none, .int k t, .none] }).IsList a' vs := ⟨o, push_keeps _ _ _ _ (X2.1.1.fr _ _ (X2.1.1.base _ _ ho)), hcls, n, hdat⟩
      refine tail_any (T := "list") (ops := [.ref s2.heap.objs.size, .ref a']) (s := { s2 with heap := s2.heap.push { cls := .type "slice", data := .fields #[.none, .int k t, .none] } }) hl.typeIs slot_list_getitem.lookup
        (wpAny_getItem_list_slice hl (Heap.IsSliceOf.new ..) .none (.int k t) .none (by simp) ⟨_, X3.new B (x := .list (vs.toList.map norm |>.take k.toNat)) (k := s2.toks) (push_keeps _ _) (Nat.le_refl _) ⟨_, 0, Heap.get?_push_size _ rfl, ?_⟩, q2 _ (X3.fresh (Nat.le_refl _))⟩ ?_) rfl
      · have e2 : slicePick vs none (some k) none = (vs.toList.take k.toNat).toArray := by
          have := slicePick_upto' vs k.toNat
          rwa [Int.toNat_of_nonneg h0] at this
        rw [e2, List.map_take]
      · rw [sizeLine_eq]; omega
  · cases q2
theorem WF.rev (B : Bs P.C) {v : Expr} {c : Nat} {p1 p2 p pos : Pos} {Q : EQ} (h : WF P A env (eval v env) ρ σ fun a σ => revP (norm a) σ Q) :
    WF P A env (eval (.Subscript v (.Slice none none (some (.UnaryOp .USub (.Constant (.int 1) c p1) p2)) p) pos) env) ρ σ fun v => Q (norm v) := by
  intro F s X
  have e1 : ∀ σ, WF P A env (eval (.UnaryOp .USub (.Constant (.int 1) c p1) p2) env) ρ σ fun v σ' => norm v = vi (-1) ∧ σ' = σ := fun σ =>
    WF.usub (Q := fun v σ' => v = vi (-1) ∧ σ' = σ) (WF.c_int (Q := fun v σ' => match v with | .int i _ => vi (-i) = vi (-1) ∧ σ' = σ | _ => False) ⟨rfl, rfl⟩)
  refine Subscript_ (wpAny_mono (h F s X) (fun a s1 ⟨σ1, X1, q2⟩ => wpAny_Slice (wpAny_pure (wpAny_pure (wpAny_mono (e1 σ1 F s1 X1) (fun b s2 ⟨σ2, X2, eb, e2⟩ => ?_) fun _ _ x => x)))) fun _ _ x => x)
  subst e2
  refine e1a1 (lt_of_norm eb) fun t hR19_1 => ?_
  obtain rfl := hR19_1
  unfold revP at q2
  split at q2
  · rename_i a' ha
    cases norm_ref ha
    split at q2
    · rename_i xs e
      refine e2a2 (X2.1.at e) fun vs n ho hR20_3 => ?_
      obtain rfl := hR20_3
      refine e0a2 q2 fun hz q2 => ?_
      have X3 : OkF P.C env P.fz F σ2 ρ { s2 with heap := s2.heap.push { cls := .type "slice", data := .fields #[.none, .none, .int (-1) t] } } := X2.grow (k := s2.toks) (push_keeps _ _)
      have hl : (s2.heap.push { cls := .type "slice", data := .fields #[.none, .none, .int (-1) t] }).IsList a' vs := ⟨_, push_keeps _ _ _ _ ho, rfl, _, rfl⟩
      refine tail_any (T := "list") (ops := [.ref a', .ref s2.heap.objs.size]) (s := { s2 with heap := s2.heap.push { cls := .type "slice", data := .fields #[.none, .none, .int (-1) t] } }) hl.typeIs slot_list_getitem.lookup
        (wpAny_getItem_list_slice hl (Heap.IsSliceOf.new ..) .none .none (.int (-1) t) (by simp) ⟨_, X3.new B (x := .list (vs.toList.map norm).reverse) (k := s2.toks) (push_keeps _ _) (Nat.le_refl _) ⟨_, 0, Heap.get?_push_size _ rfl, ?_⟩, q2 _ (X3.fresh (Nat.le_refl _))⟩ ?_) rfl
      · rw [krv_pick, List.map_reverse]
      · rw [List.length_map, Array.length_toList] at hz; rw [sizeLine_eq]; omega
    · cases q2
  · cases q2
/-! dict displays with written keys -/
theorem keyOf_is {k : Option Expr} {x : Str} (h : keyOf k = some x) : ∃ c p, k = some (.Constant (.str x) c p) := by
  cases k with
  | none => exact no_some h
  | some e =>
    replace h : (match conOf e with | some (.str x, _) => some x | _ => none) = some x := h
    revert h
    cases hc : conOf e with
    | none => exact no_some
    | some r =>
      rw [conOf_is hc]
      cases r with | mk c r =>
      cases c <;> first | exact no_some | exact fun h => ⟨_, _, by cases h; rfl⟩
theorem dictW_sound {pos : Pos} {f : Expr → Hp → EQ → Prop} (hf : ∀ e σ Q, f e σ Q → WF P A env (eval e env) ρ σ fun v => Q (norm v)) : ∀ (ks : List (Option Expr)) (vs : List Expr) (σ : Hp) (Q : List (Str × Value) → Hp → Prop), dictW f ks vs σ Q →
    WF P A env (evalPairs (pairTrees ks vs env pos)) ρ σ fun ps σ => allStrKeys ps = true ∧ Q (nkv (strPairs ps)) σ := by
  intro ks
  induction ks with
  | nil =>
    intro vs σ Q h
    cases vs with
    | nil => exact fun _ _ X => evalPairs_nil ⟨σ, X, rfl, h⟩
    | cons _ _ => exact False.elim h
  | cons k ks ih =>
    intro vs σ Q h
    cases vs with
    | nil => exact False.elim h
    | cons v vs =>
      replace h : (match keyOf k with | some x => f v σ fun w σ => dictW f ks vs σ fun l σ => Q ((x, w) :: l) σ | none => False) := h
      revert h
      cases hk : keyOf k with
      | none => exact fun h => False.elim h
      | some x =>
        refine e2a1 (keyOf_is hk) fun c p hR22_2 => ?_
        obtain rfl := hR22_2
        intro h F s X
        refine pairTrees_cons_walk (wpAny_mkText ?_)
        refine wpAny_mono (hf v σ _ h F { s with toks := s.toks + 1 } ⟨X.1, X.2⟩) (fun w s1 rP => e1a2 rP fun σ1 X1 q1 => ?_) fun _ _ x => x
        refine wpAny_mono (ih _ σ1 _ q1 F s1 X1) (fun l s2 ⟨σ2, X2, e1, q2⟩ => ?_) fun _ _ x => x
        exact ⟨σ2, X2, e1, q2⟩
theorem WF.dict (B : Bs P.C) {k : Option Expr} {ks : List (Option Expr)} {vs : List Expr} {pos : Pos} {Q : EQ} {f : Expr → Hp → EQ → Prop} (hf : ∀ e σ Q, f e σ Q → WF P A env (eval e env) ρ σ fun v => Q (norm v))
    (hn : (k :: ks).length ≤ 15 ∧ (k :: ks).all (·.isSome) = true ∧ (k :: ks).length = vs.length)
    (h : ∀ d, σ d = none → dictW f (k :: ks) vs (upd σ d (.sd [])) fun l σ => σ d = some (.sd []) ∧ (l.map (·.1)).Nodup ∧ Q (.ref d) (upd σ d (.sd l))) :
    WF P A env (eval (.Dict (k :: ks) vs pos) env) ρ σ fun v => Q (norm v) := by
  intro F s X
  have hd := Heap.DictOf.new (knd := strKind P.C.prog P.C.w) s.heap
  have X1 : OkF P.C env P.fz F (upd σ s.heap.objs.size (.sd [])) ρ { s with heap := s.heap.push { cls := .type "dict", data := .dict #[] } } := X.new B (x := .sd []) (k := s.toks) (push_keeps _ _) (Nat.le_refl _) ⟨[], hd, rfl⟩
  refine wpAny_Dict_walk (knd := strKind P.C.prog P.C.w) hn.2.1 hn.2.2 (by simp) hn.1 (wpAny_mono (dictW_sound hf _ _ _ _ (h s.heap.objs.size (X.fresh (Nat.le_refl _))) F _ X1) (fun ps s1 ⟨σ1, X2, e1, e2, e3, q⟩ => ?_) fun _ _ x => x)
  refine e1a2 (X2.1.at e2) fun l hl e4 => ?_
  cases nkv_nil e4
  rw [nkv_keys] at e3
  refine display_done_str (P := fun h' => ∃ σ', OkF P.C env P.fz F σ' ρ { s1 with heap := h', toks := s1.toks + ps.length } ∧ Q (norm (.ref s.heap.objs.size)) σ') e1 e3 hl fun h' hd' hs => ?_
  refine ⟨_, X2.freeze.2 _ _ (X2.freeze.1.setSd (k := s1.toks + ps.length) e2 hs hd'), q⟩
end
end Mine
namespace Mine
/-! iterators -/
/-- I stands at place i of the iterable at it -/
noncomputable def ItH (σ₀ : Hp) (it : Addr) (i : Nat) (I : Addr) (h : Heap) : Prop := match σ₀ it with
  | some (.list _) => h.IsListIter I it i
  | some (.tup _) => h.IsTupleIter I it i
  | some (.dict kvs ep) => h.IsKeyIter I it i kvs.length ep
  | some (.rng n) => IsRangeIter h I ((0 : Int) + (i : Nat) * 1) ((n : Int) - (i : Nat)) 1
  | some (.vals d) => match σ₀ d with
    | some (.dict kvs ep) => h.IsValIter I d i kvs.length ep
    | _ => False
  | _ => False
theorem ItH.at {σ₀ : Hp} {it I : Addr} {i : Nat} {h h' : Heap} (x : ItH σ₀ it i I h) (e : ∀ o, h.get? I = some o → h'.get? I = some o) : ItH σ₀ it i I h' := by
  revert x
  delta ItH
  generalize σ₀ it = z
  cases z with
  | none => exact id
  | some z =>
    cases z with
    | list _ => exact Exists.imp fun o p => ⟨e _ p.1, p.2⟩
    | tup _ => exact Exists.imp fun o p => ⟨e _ p.1, p.2⟩
    | dict _ _ => exact Exists.imp fun o p => ⟨e _ p.1, p.2⟩
    | rng _ => exact e _
    | vals d =>
      dsimp only
      generalize σ₀ d = y
      cases y with
      | none => exact id
      | some y => cases y <;> first | exact id | exact Exists.imp fun o p => ⟨e _ p.1, p.2⟩
    | _ => exact id
theorem ItH.there {σ₀ : Hp} {it I : Addr} {i : Nat} {h : Heap} (x : ItH σ₀ it i I h) : ∃ o, h.get? I = some o := by
  unfold ItH at x
  split at x
  · obtain ⟨o, ho, r⟩ := x; exact ⟨o, ho⟩
  · obtain ⟨o, ho, r⟩ := x; exact ⟨o, ho⟩
  · obtain ⟨o, ho, r⟩ := x; exact ⟨o, ho⟩
  · exact ⟨_, x⟩
  · split at x
    · obtain ⟨o, ho, r⟩ := x; exact ⟨o, ho⟩
    · exact x.elim
  · exact x.elim
section
variable {C : Cx} {F : Fm} {σ σ₀ : Hp} {s : Shared} {A : Around} {E : Value → Shared → Prop}
theorem one_mem {I b : Addr} (h : b ≠ I) : b ∉ [I] := fun q => h (List.mem_singleton.mp q)
theorem it_next (X : Ok C F σ s) (hh : A.handled = none) {it I : Addr} {i : Nat} {xs : List Value} (hs : stay it σ₀ σ) (hx : seqV σ₀ it = some xs) (H : ItH σ₀ it i I s.heap) (hI : σ I = none) {Q : Option Value → Shared → Prop}
    (h1 : ∀ v h' k, xs[i]? = some (norm v) → ItH σ₀ it (i + 1) I h' → Heap.ExtBut I s.heap h' → Q (some v) { s with heap := h', toks := k })
    (h2 : xs.length ≤ i → ∀ h' k, Heap.ExtBut I s.heap h' → Q none { s with heap := h', toks := k }) (hi : i ≤ xs.length) : wpAny (model C.prog C.w) A (pyNext (.ref I)) Q E s := by
  have ext : ∀ {h' : Heap}, (∀ b o, b ∉ [I] → s.heap.get? b = some o → h'.get? b = some o) → Heap.ExtBut I s.heap h' := fun k b o hb e => k b o (one_mem hb) e
  have hne : ∀ {a : Addr} {x : MO}, σ a = some x → a ≠ I := fun e q => by rw [q, hI] at e; cases e
  refine e0a2 hs fun hs1 hs2 => ?_
  clear hs
  unfold seqV at hx
  unfold ItH at H
  split at hx
  · rename_i ys e
    cases hx
    rw [e] at H hs1
    simp only at H
    refine e2a2 (X.at hs1) fun vs n ho e2 => ?_
    subst e2
    have W := Walks.list (prog := C.prog) (w := C.w) hh I it (hne hs1) vs
    have hst : s.heap.IsListIter I it i ∧ s.heap.IsList it vs := ⟨H, _, ho, rfl, _, rfl⟩
    have hlen : (vs.toList.map norm).length = vs.size := by simp
    rw [hlen] at hi h2
    rcases Nat.lt_or_ge i vs.size with q | q
    · refine W.item i s Q E q hst fun v h' tk hv st kp => h1 v h' tk ?_ (by unfold ItH; rw [e]; exact st.1) (ext kp)
      rw [List.getElem?_map, Array.getElem?_toList, hv]; rfl
    · have : i = vs.size := Nat.le_antisymm hi q
      subst this
      exact W.done s Q E hst fun h' tk kp => h2 (Nat.le_refl _) h' tk (ext kp)
  · rename_i ys e
    cases hx
    rw [e] at H hs1
    simp only at H
    refine e2a2 (X.at hs1) fun vs n ho e2 => ?_
    subst e2
    have W := Walks.tuple (prog := C.prog) (w := C.w) hh I it (hne hs1) vs
    have hst : s.heap.IsTupleIter I it i ∧ s.heap.IsTuple it vs := ⟨H, _, ho, rfl, _, rfl⟩
    have hlen : (vs.toList.map norm).length = vs.size := by simp
    rw [hlen] at hi h2
    rcases Nat.lt_or_ge i vs.size with q | q
    · refine W.item i s Q E q hst fun v h' tk hv st kp => h1 v h' tk ?_ (by unfold ItH; rw [e]; exact st.1) (ext kp)
      rw [List.getElem?_map, Array.getElem?_toList, hv]; rfl
    · have : i = vs.size := Nat.le_antisymm hi q
      subst this
      exact W.done s Q E hst fun h' tk kp => h2 (Nat.le_refl _) h' tk (ext kp)
  · rename_i kvs ep e
    cases hx
    rw [e] at H hs1
    simp only at H
    refine e1a2 (X.at hs1) fun l hd e2 => ?_
    subst e2
    rw [nkv_length] at H
    have W := Walks.dictKeys (knd := intKind C.prog C.w) hh I it (hne hs1) l ep
    have hlen : ((nkv l).map fun p => vi p.1).length = l.length := by rw [List.length_map, nkv_length]
    rw [hlen] at hi h2
    rcases Nat.lt_or_ge i l.length with q | q
    · refine W.item i s Q E q ⟨H, hd⟩ fun v h' tk ⟨k, x, hk, hv⟩ st kp => h1 v h' tk ?_ (by unfold ItH; rw [e]; simp only; rw [nkv_length]; exact st.1) (ext kp)
      rw [List.getElem?_map, nkv, List.getElem?_map, hk]
      cases v <;> simp only [intKind, Value.isInt] at hv <;> first | cases hv | skip
      simp only [beq_iff_eq] at hv
      subst hv; rfl
    · have : i = l.length := Nat.le_antisymm hi q
      subst this
      exact W.done s Q E ⟨H, hd⟩ fun h' tk kp => h2 (Nat.le_refl _) h' tk (ext kp)
  · rename_i n e
    cases hx
    rw [e] at H
    simp only at H
    have hlen : (rangeL n).length = n := by simp [rangeL, upN]
    rw [hlen] at hi h2
    have W := Walks.range (prog := C.prog) (w := C.w) hh I 0 1 n
    rcases Nat.lt_or_ge i n with q | q
    · refine W.item i s Q E q H fun v h' tk ⟨t, hv⟩ st kp => h1 v h' tk ?_ (by unfold ItH; rw [e]; exact st) (ext kp)
      subst hv
      simp [rangeL, upN, q, norm]
    · have : i = n := Nat.le_antisymm hi q
      subst this
      exact W.done s Q E H fun h' tk kp => h2 (Nat.le_refl _) h' tk (ext kp)
  · rename_i d e
    split at hx
    · rename_i kvs ep e'
      cases hx
      rw [e] at H hs2
      simp only [e'] at H hs2
      refine e1a2 (X.at hs2) fun l hd e2 => ?_
      subst e2
      rw [nkv_length] at H
      have W := Walks.dictValues (knd := intKind C.prog C.w) hh I d (hne hs2) l ep
      have hlen : ((nkv l).map (·.2)).length = l.length := by rw [List.length_map, nkv_length]
      rw [hlen] at hi h2
      rcases Nat.lt_or_ge i l.length with q | q
      · refine W.item i s Q E q ⟨H, hd⟩ fun v h' tk ⟨k, hk⟩ st kp => h1 v h' tk ?_ (by unfold ItH; simp only [e, e']; rw [nkv_length]; exact st.1) (ext kp)
        rw [List.getElem?_map, nkv, List.getElem?_map, hk]; rfl
      · have : i = l.length := Nat.le_antisymm hi q
        subst this
        exact W.done s Q E ⟨H, hd⟩ fun h' tk kp => h2 (Nat.le_refl _) h' tk (ext kp)
    · cases hx
  · cases hx
/-- the iterator is made -/
theorem it_make (X : Ok C F σ s) {it : Addr} {xs : List Value} (hx : seqV σ it = some xs) {Q : Value → Shared → Prop}
    (h : ∀ o, ItH σ it 0 s.heap.objs.size (s.heap.push o) → Q (.ref s.heap.objs.size) { s with heap := s.heap.push o }) (hn : xs.length ≤ 10000) : wpAny (model C.prog C.w) A (pyIter (.ref it)) Q E s := by
  unfold seqV at hx
  split at hx
  · rename_i ys e
    cases hx
    refine e2a2 (X.at e) fun vs n ho _ => ?_
    exact wpAny_pyIter_list ⟨_, ho, rfl, _, rfl⟩ (h _ (by unfold ItH; rw [e]; exact ⟨_, Heap.get?_push_size _ rfl, rfl, rfl⟩))
  · rename_i ys e
    cases hx
    refine e2a2 (X.at e) fun vs n ho _ => ?_
    exact wpAny_pyIter_tuple ⟨_, ho, rfl, _, rfl⟩ (h _ (by unfold ItH; rw [e]; exact ⟨_, Heap.get?_push_size _ rfl, rfl, rfl⟩))
  · rename_i kvs ep e
    cases hx
    refine e1a2 (X.at e) fun l hd hR7_2 => ?_
    obtain rfl := hR7_2
    exact wpAny_pyIter_dict (X.ne1 e) hd (h _ (by unfold ItH; rw [e]; simp only; rw [nkv_length]; exact ⟨_, Heap.get?_push_size _ rfl, rfl, rfl⟩))
  · rename_i n e
    cases hx
    refine e3a1 (X.at e) fun t u v hr => ?_
    have hz : n ≤ 10000 := by simpa [rangeL, upN] using hn
    refine wpAny_pyIter_range hr (small_one (by decide) (by decide) (by omega) (by omega)) (h _ ?_)
    unfold ItH; rw [e]; simp only
    have e2 : Builtin.Range.rangeSize 0 (n : Int) 1 = n := by rw [rangeSize_one]; split <;> omega
    rw [e2]
    show (s.heap.push _).get? s.heap.objs.size = some _
    rw [Heap.get?_push_size _ rfl]; simp
  · rename_i d e
    split at hx
    · rename_i kvs ep e'
      cases hx
      refine e1a2 (X.at e') fun l hd hR9_2 => ?_
      obtain rfl := hR9_2
      exact wpAny_pyIter_values (X.at e) hd (h _ (by unfold ItH; simp only [e, e']; rw [nkv_length]; exact ⟨_, Heap.get?_push_size _ rfl, rfl, rfl⟩))
    · cases hx
  · cases hx
theorem it_self (X : Ok C F σ s) (hh : A.handled = none) {it I : Addr} {i : Nat} {xs : List Value} (hs : stay it σ₀ σ) (hx : seqV σ₀ it = some xs) (H : ItH σ₀ it i I s.heap) (hI : σ I = none) {Q : Value → Shared → Prop} (h : Q (.ref I) s) : wpAny (model C.prog C.w) A (pyIter (.ref I)) Q E s := by
  have hne : ∀ {a : Addr} {x : MO}, σ a = some x → a ≠ I := fun e q => by rw [q, hI] at e; cases e
  refine e0a2 hs fun hs1 hs2 => ?_
  clear hs
  unfold seqV at hx
  unfold ItH at H
  split at hx
  · rename_i ys e
    rw [e] at H hs1
    refine e2a2 (X.at hs1) fun vs n ho e2 => ?_
    exact (Walks.list (prog := C.prog) (w := C.w) hh I it (hne hs1) vs).self i s Q E ⟨H, _, ho, rfl, _, rfl⟩ h
  · rename_i ys e
    rw [e] at H hs1
    refine e2a2 (X.at hs1) fun vs n ho e2 => ?_
    exact (Walks.tuple (prog := C.prog) (w := C.w) hh I it (hne hs1) vs).self i s Q E ⟨H, _, ho, rfl, _, rfl⟩ h
  · rename_i kvs ep e
    rw [e] at H
    exact wpAny_pyIter_keyiter H h
  · rename_i n e
    rw [e] at H
    exact (Walks.range (prog := C.prog) (w := C.w) hh I 0 1 n).self i s Q E H h
  · rename_i d e
    split at hx
    · rename_i kvs ep e'
      rw [e] at H
      simp only [e'] at H
      exact wpAny_pyIter_valiter H h
    · cases hx
  · cases hx
end
/-! what is held for a while -/
section
variable {C : Cx} {env : Env} {fz : Bool} {F : Fm} {σ : Hp} {ρ : Rho} {s : Shared}
theorem OkF.hold (X : OkF C env fz F σ ρ s) {I : Addr} {o : Obj} (ho : s.heap.get? I = some o) (hσ : σ I = none) (hf : ¬ FrA env I) : OkF C env fz (upd F I o) σ ρ s := by
  refine ⟨⟨X.1.1.keepObj ho hσ, X.1.2⟩, X.2.ns, X.2.cell, ?_, X.2.σL, X.2.cL, X.2.σc, fun hz x c hx hc => ?_, X.2.cc⟩
  · rw [upd_ne _ _ (fun e => hf (.inl e.symm))]; exact X.2.FL
  · have q : c ≠ I := fun e => hf (.inr ⟨x, hx, by rw [← e]; exact hc⟩)
    rw [upd_ne _ _ q]; exact X.2.Fc hz x c hx hc
theorem OkF.drop {I : Addr} {o : Obj} (X : OkF C env fz (upd F I o) σ ρ s) (hF : F I = none) (hb : C.h₀.get? I = none) (hf : ¬ FrA env I) : OkF C env fz F σ ρ s ∧ s.heap.get? I = some o ∧ σ I = none := by
  refine e0a3 (X.1.1.dropObj hF hb) fun R ho hσ => ?_
  refine ⟨⟨⟨R, X.1.2⟩, X.2.ns, X.2.cell, ?_, X.2.σL, X.2.cL, X.2.σc, fun hz x c hx hc => ?_, X.2.cc⟩, ho, hσ⟩
  · have := X.2.FL; rwa [upd_ne _ _ (fun e => hf (.inl e.symm))] at this
  · have q : c ≠ I := fun e => hf (.inr ⟨x, hx, by rw [← e]; exact hc⟩)
    have := X.2.Fc hz x c hx hc; rwa [upd_ne _ _ q] at this
/-- only a place that nobody holds has changed -/
theorem OkF.but (X : OkF C env fz F σ ρ s) {I : Addr} (hF : F I = none) (hσ : σ I = none) (hf : ¬ FrA env I) {h' : Heap} {k : Nat} (e : Heap.ExtBut I s.heap h') : OkF C env fz F σ ρ { s with heap := h', toks := k } :=
  ⟨⟨X.1.1.other e hF hσ, X.1.2⟩, X.2.keeps (fun a o q ho => e a o (fun e' => hf (e' ▸ q)) ho) fun a q => X.2.σnone q⟩
theorem OkF.base_none (X : OkF C env fz F σ ρ s) {I : Addr} (hF : F I = none) : C.h₀.get? I = none := by
  cases e : C.h₀.get? I with
  | none => rfl
  | some o => have := X.1.1.base _ _ e; rw [hF] at this; cases this
theorem OkF.frame_lt (X : OkF C env fz F σ ρ s) {a : Addr} (h : FrA env a) : a < s.heap.objs.size := let ⟨_, ho⟩ := X.2.there h; Heap.lt_size ho
end
end Mine
namespace Mine
section
variable {P : Px} {env : Env} {A : Around} {ρ : Rho} {σ σ₀ : Hp}
theorem asgs_sound (hE : EnvP P env) : ∀ (es : List Expr) (vs : List Value) (ρ : Rho) (K : Rho → Prop), asgs P es (vs.map norm) ρ K →
    Wr P.C A env P.fz (assignInOrder ((assignEach es env).map (·.2)) vs) ρ σ fun _ ρ' σ' => K ρ' ∧ σ' = σ := by
  intro es
  induction es with
  | nil =>
    intro vs ρ K h
    cases vs with
    | nil => exact Wr.pure ⟨h, rfl⟩
    | cons _ _ => exact False.elim h
  | cons e r ih =>
    intro vs ρ K h
    refine e4a3 (asgs_inv h) fun x p v' vs' h1 h2 h3 => ?_
    refine e2a3 (map_norm_cons h2) fun v vs g1 g2 g3 => ?_
    subst g1 g2 g3 h1
    have h' : asg P x (norm v) ρ fun ρ => asgs P r (vs.map norm) ρ K := h3
    show Wr P.C A env P.fz (do holding vs (assign (.Name x p) env v); assignInOrder ((assignEach r env).map (·.2)) vs) ρ σ _
    refine Wr.bind fun F s X => wpAny_holding (assign_Name (wpAny_mono (asg_sound hE h' F s X) (fun _ s' ⟨σ', ρ', X', k, e⟩ => ⟨σ', ρ', X', ?_⟩) fun _ _ x => x))
    subst e
    exact ih vs ρ' K k
theorem asgs_len : ∀ (es : List Expr) (vs : List Value) (ρ : Rho) (K : Rho → Prop), asgs P es vs ρ K → (assignEach es env).length = vs.length ∧ (assignEach es env).findIdx? (·.1) = none
  | [], [], _, _, _ => ⟨rfl, rfl⟩
  | [], _ :: _, _, _, h => False.elim h
  | e :: r, vs0, ρ, K, h => by
    refine e4a3 (asgs_inv h) fun x p v vs h1 h2 h' => ?_
    subst h1 h2
    have : ∃ ρ', asgs P r vs ρ' K := by
      unfold asg at h'
      split at h'
      · exact ⟨_, h'⟩
      · exact ⟨_, h'.2⟩
      · cases h'
    refine e1a1 this fun ρ' h2 => ?_
    clear this
    refine e0a2 (asgs_len r vs ρ' K h2) fun e1 e2 => ?_
    refine ⟨congrArg (· + 1) e1, ?_⟩
    show (((false, assign (.Name x p) env) :: assignEach r env).findIdx? (·.1)) = none
    rw [List.findIdx?_cons]
    simp [e2]
theorem tgt_sound (hA : A.handled = none) (hE : EnvP P env) {t : Expr} {v : Value} {K : Rho → Prop} (h : tgtP P t (norm v) ρ σ K) : Wr P.C A env P.fz (assign t env v) ρ σ fun _ ρ' σ' => K ρ' ∧ σ' = σ := by
  intro F s X
  unfold tgtP at h
  split at h
  · exact assign_Name (asg_sound hE h F s X)
  · rename_i es c pos
    replace h := h.out
    unfold tupA at h
    split at h
    · rename_i a e
      cases norm_ref e
      split at h
      · rename_i xs e
        refine e2a2 (X.1.at e) fun vs n ho e2 => ?_
        subst e2
        refine e0a2 (asgs_len (env := env) _ _ _ _ h) fun l1 l2 => ?_
        refine wpAny_assign_Tuple hA ⟨_, ho, rfl, _, rfl⟩ (by rw [l1]; simp) l2 fun h' hx => ?_
        have X' : OkF P.C env P.fz F σ ρ { s with heap := h' } := X.grow (k := s.toks) fun b o q => hx b o (Nat.ne_of_lt (Heap.lt_size q)) q
        exact asgs_sound hE es vs.toList ρ K h F _ X'
      · cases h
    · cases h
  · cases h
/-- an iterator of these kinds owns no tuple -/
theorem let_owned {it I : Addr} {i : Nat} {s : Shared} {xs : List Value} {E : Value → Shared → Prop} (hx : seqV σ₀ it = some xs) (H : ItH σ₀ it i I s.heap) {t : Expr} {v : Value} {Q : Unit → Shared → Prop} (h : Q () s) :
    wpAny (model P.C.prog P.C.w) A (letOwnedTupleGo t (.ref I) v) Q E s := by
  have key : ∃ (o : Obj) (n : String) (vs : Array Value), s.heap.get? I = some o ∧ o.cls = .type n ∧ o.data = .fields vs ∧ ["enumerate", "zip", "dict_itemiterator", "dict_reverseitemiterator", "odict_iterator", "itertools.zip_longest", "itertools.pairwise"].contains n = false := by
    unfold ItH at H
    split at H
    · obtain ⟨o, ho, h1, h2⟩ := H; exact ⟨o, _, _, ho, h1, h2, by decide⟩
    · obtain ⟨o, ho, h1, h2⟩ := H; exact ⟨o, _, _, ho, h1, h2, by decide⟩
    · obtain ⟨o, ho, h1, h2⟩ := H; exact ⟨o, _, _, ho, h1, h2, by decide⟩
    · exact ⟨_, _, _, H, rfl, rfl, by decide⟩
    · split at H
      · obtain ⟨o, ho, h1, h2⟩ := H; exact ⟨o, _, _, ho, h1, h2, by decide⟩
      · cases H
    · cases H
  refine e3a4 key fun o n vs ho h1 h2 h3 => ?_
  clear key
  have body : wpAny (model P.C.prog P.C.w) A (do
      let (.ref r, .ref a) := (Value.ref I, v) | return
      let o ← load r
      match o.cls, o.data with
      | .type n, .fields vs =>
        if ["enumerate", "zip", "dict_itemiterator", "dict_reverseitemiterator", "odict_iterator", "itertools.zip_longest", "itertools.pairwise"].contains n && vs[0]? == some (rawInt a) then
          rule "for.unpacks-the-owned-tuple"
          updateField r 0 .none
      | _, _ => pure ()) Q E s := by
    cases v <;> try exact wpAny_pure h
    refine wpAny_bind (wpAny_load ho ?_)
    rw [h1, h2]
    dsimp only
    rw [h3]
    exact wpAny_pure h
  cases t <;> first | exact wpAny_pure h | exact body

/-- how a stretch of statements ends -/
noncomputable abbrev WX (P : Px) (A : Around) (env : Env) (t : Sem Flow) (ρ : Rho) (σ : Hp) (Q : SQ) : Prop := Wr P.C A env P.fz t ρ σ fun f => Q (nfl f)
/-- what a loop's code comes back with -/
noncomputable abbrev RX (P : Px) (env : Env) (F : Fm) (Q : SQ) (r : Result) (s : Shared) : Prop := match r with
  | .ok f => ∃ σ' ρ', OkF P.C env P.fz F σ' ρ' s ∧ Q (nfl f) ρ' σ'
  | .error _ => False
theorem forL_sound (hA : A.handled = none) (hE : EnvP P env) {t : Expr} {b : List Stmt} {body : Rho → Hp → SQ → Prop} (hb : ∀ ρ σ Q, body ρ σ Q → WX P A env (execs b env) ρ σ Q)
    {it I : Addr} {xs : List Value} (hx : seqV σ₀ it = some xs) {F : Fm} {s : Shared} {Q : SQ} (X : OkF P.C env P.fz F σ ρ s) (hF : F I = none) (hσ : σ I = none) (hf : ¬ FrA env I) (H : ItH σ₀ it 0 I s.heap)
    (h : forL P t body it σ₀ xs ρ σ Q) : codeAny (model P.C.prog P.C.w) A (.forLoop t (.ref I) b [] env) (RX P env F Q) s := by
  refine codeAny_forLoop_any (fun n s => ∃ i ρ σ, OkF P.C env P.fz F σ ρ s ∧ σ I = none ∧ ItH σ₀ it i I s.heap ∧ forL P t body it σ₀ (xs.drop i) ρ σ Q ∧ i ≤ xs.length ∧ n = xs.length - i) ?_ xs.length
    ⟨0, ρ, σ, X, hσ, H, h, Nat.zero_le _, rfl⟩
  intro n s hI0
  refine e3a6 hI0 fun i ρ σ X hσ H h hi hR5_8 => ?_
  clear hI0
  obtain rfl := hR5_8
  have hst : stay it σ₀ σ := by
    cases hd : xs.drop i with
    | nil => rw [hd] at h; exact h.1
    | cons x r => rw [hd] at h; exact h.1
  refine it_next X.1 hA hst hx H hσ (fun v h' k hv H' hext => ?_) (fun hlen h' k hext => ?_) hi
  · have hlt : i < xs.length := (List.getElem?_eq_some_iff.mp hv).1
    have hd : xs.drop i = norm v :: xs.drop (i + 1) := by
      rw [List.drop_eq_getElem_cons hlt]
      rw [List.getElem?_eq_getElem hlt] at hv
      rw [Option.some.inj hv]
    rw [hd] at h
    have X' : OkF P.C env P.fz F σ ρ { s with heap := h', toks := k } := X.but hF hσ hf hext
    refine let_owned (P := P) hx (s := { s with heap := h', toks := k }) H' ?_
    refine e1a1 H'.there fun o ho => ?_
    have X2 := X'.hold ho hσ hf
    have hb0 := X.base_none hF
    refine wpAny_mono (tgt_sound hA hE h.2 _ _ X2) (fun _ s2 ⟨σ2, ρ2, X3, k2, e2⟩ => ?_) fun _ _ x => x.elim
    subst e2
    refine wpAny_mono (hb _ _ _ k2 _ _ X3) (fun f s3 rP => e2a2 rP fun σ3 ρ3 X4 q => ?_) fun _ _ x => x.elim
    refine e0a3 (X4.drop hF hb0 hf) fun X5 ho5 hσ5 => ?_
    have H5 : ItH σ₀ it (i + 1) I s3.heap := H'.at fun o' e => by rw [ho] at e; cases e; exact ho5
    cases f with
    | next => exact ⟨xs.length - (i + 1), by omega, i + 1, ρ3, σ3, X5, hσ5, H5, q, hlt, rfl⟩
    | cont => exact ⟨xs.length - (i + 1), by omega, i + 1, ρ3, σ3, X5, hσ5, H5, q, hlt, rfl⟩
    | brk => exact ⟨σ3, ρ3, X5, q⟩
    | ret v => exact ⟨σ3, ρ3, X5, q⟩
  · rw [List.drop_eq_nil_of_le hlen] at h
    exact wpAny_execs_nil ⟨σ, ρ, X.but hF hσ hf hext, h.2⟩
end
end Mine
namespace Mine
section
variable {P : Px} {env : Env} {A : Around} {ρ : Rho} {σ σ₀ : Hp}
theorem forI_sound (hA : A.handled = none) (hE : EnvP P env) {es : List Expr} {c : Nat} {tp : Pos} {b : List Stmt} {body : Rho → Hp → SQ → Prop} (hb : ∀ ρ σ Q, body ρ σ Q → WX P A env (execs b env) ρ σ Q)
    {it d I : Addr} {kvs : List (Int × Value)} {ep : Nat} (hx : σ₀ it = some (.items d)) (hd : σ₀ d = some (.dict kvs ep)) {F : Fm} {s : Shared} {Q : SQ} (X : OkF P.C env P.fz F σ ρ s) (hF : F I = none) (hσ : σ I = none) (hf : ¬ FrA env I)
    (H : ∃ ok ov, IsItemIter s.heap I d 0 kvs.length ep ok ov)
    (h : forI P es body it σ₀ kvs ρ σ Q) : codeAny (model P.C.prog P.C.w) A (.forLoop (.Tuple es c tp) (.ref I) b [] env) (RX P env F Q) s := by
  refine codeAny_forLoop_any (fun n s => ∃ i ρ σ, OkF P.C env P.fz F σ ρ s ∧ σ I = none ∧ (∃ ok ov, IsItemIter s.heap I d i kvs.length ep ok ov) ∧ forI P es body it σ₀ (kvs.drop i) ρ σ Q ∧ i ≤ kvs.length ∧ n = kvs.length - i) ?_ kvs.length
    ⟨0, ρ, σ, X, hσ, H, h, Nat.zero_le _, rfl⟩
  intro n s hI0
  refine e3a6 hI0 fun i ρ σ X hσ hN0_5 h hi hR0_8 => ?_
  clear hI0
  refine e2a1 hN0_5 fun ok ov H => ?_
  clear hN0_5
  obtain rfl := hR0_8
  have hst : stay it σ₀ σ := by
    cases hd : kvs.drop i with
    | nil => rw [hd] at h; exact h.1
    | cons x r => rw [hd] at h; exact h.1
  have hd' : σ d = some (.dict kvs ep) := by
    have := hst.2
    rw [hx] at this
    exact this.trans hd
  refine e1a2 (X.1.at hd') fun l hl e => ?_
  have hlen : kvs.length = l.length := by rw [← e, nkv_length]
  rw [hlen] at H
  rcases Nat.lt_or_ge i l.length with hlt | hge
  · obtain ⟨k, v, hkv⟩ : ∃ k v, l[i]? = some (k, v) := ⟨l[i].1, l[i].2, List.getElem?_eq_getElem hlt⟩
    refine wpAny_pyNext_items_item (knd := intKind P.C.prog P.C.w) H hl hkv fun key h' hkey H1 ht hsz hext => ?_
    have hdr : kvs.drop i = (k, norm v) :: kvs.drop (i + 1) := by
      have hlt' : i < kvs.length := hlen ▸ hlt
      rw [List.drop_eq_getElem_cons hlt']
      have : kvs[i]? = some (k, norm v) := by rw [← e, nkv, List.getElem?_map, hkv]; rfl
      rw [List.getElem?_eq_getElem hlt'] at this
      rw [Option.some.inj this]
    rw [hdr] at h
    have X1 : OkF P.C env P.fz F σ ρ { s with heap := h', toks := s.toks } := X.but hF hσ hf fun b o hb q => hext b o hb q
    refine wpAny_letOwnedTupleGo_items (s := { s with heap := h' }) H1 fun h'' H2 hs2 => ?_
    have X2 : OkF P.C env P.fz F σ ρ { s with heap := h'', toks := s.toks } := X1.but (h' := h'') (k := s.toks) hF hσ hf hs2.extBut
    have X3 := X2.hold (s := { s with heap := h'', toks := s.toks }) H2 hσ hf
    have hne : s.heap.objs.size ≠ I := fun e => by
      have q : I < s.heap.objs.size := Heap.lt_size (show s.heap.get? I = some _ from H)
      rw [← e] at q; exact Nat.lt_irrefl _ q
    have ht2 : h''.get? s.heap.objs.size = some { cls := .type "tuple", data := .seq #[key, v] } := hs2.extBut _ _ hne ht
    have hb0 := X.base_none hF
    have hkn : norm key = vi k := by
      cases key <;> simp only [intKind, Value.isInt] at hkey <;> first | cases hkey | skip
      simp only [beq_iff_eq] at hkey
      subst hkey; rfl
    have h2 : asgs P es ([key, v].map norm) ρ fun ρ => body ρ σ fun f ρ σ => match f with
        | .next => forI P es body it σ₀ (kvs.drop (i + 1)) ρ σ Q
        | .cont => forI P es body it σ₀ (kvs.drop (i + 1)) ρ σ Q
        | .brk => Q .next ρ σ
        | .ret v => Q (.ret v) ρ σ := by
      show asgs P es [norm key, norm v] ρ _
      rw [hkn]; exact h.2
    refine e0a2 (asgs_len (env := env) _ _ _ _ h2) fun l1 l2 => ?_
    refine wpAny_assign_Tuple hA ⟨_, ht2, rfl, _, rfl⟩ l1 l2 fun h3 hx3 => ?_
    have X4 : OkF P.C env P.fz (upd F I _) σ ρ { s with heap := h3 } := X3.grow (k := s.toks) fun b o q => hx3 b o (Nat.ne_of_lt (Heap.lt_size q)) q
    refine wpAny_mono (asgs_sound hE es [key, v] ρ _ h2 _ _ X4) (fun _ s2 ⟨σ2, ρ2, X5, k2, e2⟩ => ?_) fun _ _ x => x.elim
    subst e2
    refine wpAny_mono (hb _ _ _ k2 _ _ X5) (fun f s3 ⟨σ3, ρ3, X6, q⟩ => ?_) fun _ _ x => x.elim
    refine e0a3 (X6.drop hF hb0 hf) fun X7 ho7 hσ7 => ?_
    rw [← hlen] at ho7
    have hlt' : i < kvs.length := hlen ▸ hlt
    cases f with
    | next => exact ⟨kvs.length - (i + 1), by omega, i + 1, ρ3, σ3, X7, hσ7, ⟨_, _, ho7⟩, q, hlt', rfl⟩
    | cont => exact ⟨kvs.length - (i + 1), by omega, i + 1, ρ3, σ3, X7, hσ7, ⟨_, _, ho7⟩, q, hlt', rfl⟩
    | brk => exact ⟨σ3, ρ3, X7, q⟩
    | ret v => exact ⟨σ3, ρ3, X7, q⟩
  · refine wpAny_pyNext_items_end (knd := intKind P.C.prog P.C.w) hA H hl (List.getElem?_eq_none hge) fun h' hext => ?_
    rw [List.drop_eq_nil_of_le (by omega)] at h
    exact wpAny_execs_nil ⟨σ, ρ, X.but (k := s.toks) hF hσ hf hext, h.2⟩
theorem isSetE_fold {iter : Expr} (h : ∀ a b c, iter ≠ .Set a b c) (x : Value) : foldedSetIterable iter env x = pure x := by
  cases iter <;> first | exact Eq.refl (pure x) | exact absurd rfl (h _ _ _)
/-- the for statement -/
theorem for_sound (B : Bs P.C) (hA : A.handled = none) (hE : EnvP P env) {t iter : Expr} {b : List Stmt} {pos : Pos} {body : Rho → Hp → SQ → Prop} (hb : ∀ ρ σ Q, body ρ σ Q → WX P A env (execs b env) ρ σ Q) {Q : SQ}
    (hi : ∀ a b c, iter ≠ .Set a b c) (h : WF P A env (eval iter env) ρ σ fun v σ => forP P t body (norm v) ρ σ Q) : WX P A env (exec (.For t iter b [] pos) env) ρ σ Q := by
  intro F s X
  refine wpAny_For (wpAny_mono (h F s X) (fun v s1 ⟨σ1, X1, q⟩ => ?_) fun _ _ x => x.elim) (isSetE_fold hi)
  have tail : ∀ {I : Value} {s2 : Shared}, codeAny (model P.C.prog P.C.w) A (.forLoop t I b [] env) (RX P env F Q) s2 →
      codeAny (model P.C.prog P.C.w) A (.forLoop t I b [] env) (fun r s' => match r with | .ok f => (∃ σ' ρ', OkF P.C env P.fz F σ' ρ' s' ∧ Q (nfl f) ρ' σ') | .error e => cameBackBy (model P.C.prog P.C.w) A env EF e s') s2 :=
    fun hc => codeAny_mono hc fun r s' q => by cases r with | ok f => exact q | error e => exact q.elim
  have hσI : ∀ o, σ1 s1.heap.objs.size = none ∧ F s1.heap.objs.size = none ∧ ¬ FrA env s1.heap.objs.size ∧ OkF P.C env P.fz F σ1 ρ { s1 with heap := s1.heap.push o } := fun o =>
    ⟨X1.fresh (Nat.le_refl _), X1.1.1.fnone_of (Nat.le_refl _), fun q => Nat.lt_irrefl _ (X1.frame_lt q), X1.grow (k := s1.toks) (push_keeps _ _)⟩
  replace q : forP P t body (norm v) ρ σ1 Q := q
  unfold forP at q
  split at q
  · rename_i it e
    cases norm_ref e
    split at q
    · rename_i d e
      split at q
      · rename_i es c tp kvs ep e' _
        refine e0a2 q fun hn q => ?_
        refine e1a2 (X1.1.at e') fun l hl e2 => ?_
        refine wpAny_pyIter_items (knd := intKind P.C.prog P.C.w) (X1.1.at e) hl (tail ?_)
        refine e0a4 (hσI { cls := .type "dict_itemiterator", data := .fields #[.none, .bool false, .ref d, .int 0 0, .int l.length 0, .int ep 0, .none, .none] }) fun a1 a2 a3 a4 => ?_
        refine forI_sound hA hE hb e e' a4 a2 a1 a3 ⟨.none, .none, ?_⟩ q
        have : kvs.length = l.length := by rw [← e2, nkv_length]
        rw [this]
        exact Heap.get?_push_size _ rfl
      · cases q
    · split at q
      · rename_i xs hx
        refine e0a2 q fun hn q => ?_
        refine it_make X1.1 hx (fun o H => tail ?_) hn
        refine e0a4 (hσI o) fun a1 a2 a3 a4 => ?_
        exact forL_sound hA hE hb hx a4 a2 a1 a3 H q
      · cases q
  · cases q
/-- the while statement -/
theorem while_sound {t : Expr} {b : List Stmt} {pos : Pos} {test : Rho → Hp → TQ → Prop} {body : Rho → Hp → SQ → Prop} (ht : ∀ ρ σ Q, test ρ σ Q → WF P A env (isTrue t env (eval t env)) ρ σ Q) (hb : ∀ ρ σ Q, body ρ σ Q → WX P A env (execs b env) ρ σ Q)
    {m : Nat} {Q : SQ} (h : whP test body m ρ σ Q) : WX P A env (exec (.While t b [] pos) env) ρ σ Q := by
  intro F s X
  refine wpAny_While (codeAny_mono (codeAny_whileLoop (R := RX P env F Q) (fun n s => ∃ ρ σ, OkF P.C env P.fz F σ ρ s ∧ whP test body n ρ σ Q) ?_ m ⟨ρ, σ, X, h⟩) fun r s' q => by cases r with | ok f => exact q | error e => exact q.elim)
  intro n s hI0
  refine e2a2 hI0 fun ρ σ X h => ?_
  clear hI0
  cases n with
  | zero => cases h
  | succ n =>
    refine wpAny_mono (ht _ _ _ h F s X) (fun c s1 ⟨σ1, X1, q⟩ => ?_) fun _ _ x => x.elim
    cases c with
    | false =>
      simp only [Bool.false_eq_true, if_false]
      exact wpAny_execs_nil ⟨σ1, ρ, X1, q⟩
    | true =>
      simp only [if_true]
      refine wpAny_mono (hb _ _ _ q F s1 X1) (fun f s2 ⟨σ2, ρ2, X2, q2⟩ => ?_) fun _ _ x => x.elim
      cases f with
      | next => exact ⟨n, Nat.lt_succ_self _, ρ2, σ2, X2, q2⟩
      | cont => exact ⟨n, Nat.lt_succ_self _, ρ2, σ2, X2, q2⟩
      | brk => exact ⟨σ2, ρ2, X2, q2⟩
      | ret v => exact ⟨σ2, ρ2, X2, q2⟩
end
end Mine
namespace Mine
/-! comprehensions -/
noncomputable def closeL (env : Env) : Ns → List (Str × Addr) → List (Str × Addr)
  | [], acc => acc
  | (n, k) :: r, acc => if k == .free then closeL env r ((n, (env.cells.lookup n).getD 0) :: acc) else closeL env r acc
theorem closure_eq (env : Env) : ∀ (names : Ns) (acc : List (Str × Addr)), (∀ p ∈ names, p.2 = .free → (env.cells.lookup p.1).isSome = true) →
    (forIn names acc fun (x : Str × NameKind) (cs : List (Str × Addr)) => (if x.2 == .free then do let c ← cellOf env x.1; pure (ForInStep.yield ((x.1, c) :: cs)) else pure (ForInStep.yield cs) : Sem (ForInStep (List (Str × Addr))))) = pure (closeL env names acc)
  | [], acc, _ => by rw [List.forIn_nil]; rfl
  | (n, k) :: r, acc, h => by
    rw [List.forIn_cons]
    unfold closeL
    have ih := closure_eq env r
    cases hk : k == .free with
    | true =>
      refine e1a1 (Option.isSome_iff_exists.mp (h (n, k) (.head _) (beq_iff_eq.mp hk))) fun c hc => ?_
      simp only [hk, if_true]
      unfold cellOf
      rw [hc]
      simp only [pure_bind, Option.getD_some]
      exact ih _ fun p hp => h p (List.mem_cons_of_mem _ hp)
    | false =>
      simp only [hk, Bool.false_eq_true, if_false, pure_bind]
      exact ih _ fun p hp => h p (List.mem_cons_of_mem _ hp)
theorem closureFor_eq {env : Env} {sc : Scope} (h : ∀ p ∈ sc.names, p.2 = .free → (env.cells.lookup p.1).isSome = true) : closureFor sc env = pure (closeL env sc.names []) := by
  have e := closure_eq env sc.names [] h
  have e2 : closureFor sc env = (forIn sc.names ([] : List (Str × Addr)) fun (x : Str × NameKind) (cs : List (Str × Addr)) => (if x.2 == .free then do let c ← cellOf env x.1; pure (ForInStep.yield ((x.1, c) :: cs)) else pure (ForInStep.yield cs) : Sem (ForInStep (List (Str × Addr))))) >>= fun cs => pure cs := rfl
  rw [e2, e]; rfl
theorem closeL_ok (env : Env) : ∀ (names : Ns) (acc : List (Str × Addr)), (∀ p ∈ names, p.2 = .free → (env.cells.lookup p.1).isSome = true) → (∀ n c, acc.lookup n = some c → env.cells.lookup n = some c) →
    (∀ n c, (closeL env names acc).lookup n = some c → env.cells.lookup n = some c)
  | [], _, _, h => h
  | (n, k) :: r, acc, hf, h => by
    unfold closeL
    split
    · rename_i hk
      refine e1a1 (Option.isSome_iff_exists.mp (hf (n, k) (.head _) (beq_iff_eq.mp hk))) fun c hc => ?_
      refine closeL_ok env r _ (fun p hp => hf p (List.mem_cons_of_mem _ hp)) fun m c' hm => ?_
      rw [List.lookup_cons] at hm
      split at hm
      · rename_i e; cases hm; rw [beq_iff_eq.mp e, hc]; rfl
      · exact h m c' hm
    · exact closeL_ok env r _ (fun p hp => hf p (List.mem_cons_of_mem _ hp)) h
theorem closeL_mono (env : Env) {x : Str} : ∀ (names : Ns) (acc : List (Str × Addr)), (acc.lookup x).isSome = true → ((closeL env names acc).lookup x).isSome = true
  | [], _, h => h
  | (n, k) :: r, acc, h => by
    unfold closeL
    split
    · refine closeL_mono env r _ ?_
      rw [List.lookup_cons]; split <;> first | rfl | exact h
    · exact closeL_mono env r _ h
theorem closeL_has (env : Env) {x : Str} : ∀ (names : Ns) (acc : List (Str × Addr)), names.lookup x = some .free → ((closeL env names acc).lookup x).isSome = true
  | [], _, h => by cases h
  | (n, k) :: r, acc, h => by
    rw [List.lookup_cons] at h
    unfold closeL
    split at h
    · rename_i e
      cases h
      rw [if_pos (by decide)]
      exact closeL_mono env r _ (by rw [List.lookup_cons, e]; rfl)
    · split
      · exact closeL_has env r _ h
      · exact closeL_has env r _ h
theorem relN_lookup {ns : Ns} {x : Str} : ∀ (s : Ns), (relN s ns).lookup x = (s.lookup x).map fun k => if (k == .free && ns.lookup x == some .cell) then .cell else k
  | [] => rfl
  | (n, k) :: r => by
    have ih := @relN_lookup ns x r
    unfold relN at ih ⊢
    rw [List.map_cons, List.lookup_cons]
    cases e : x == n with
    | true =>
      have e' := beq_iff_eq.mp e
      subst e'
      dsimp only
      by_cases hc : (k == NameKind.free && ns.lookup x == some .cell) = true
      · rw [if_pos hc, List.lookup_cons, beq_self_eq_true]; simp only [Option.map_some, if_pos hc]
      · rw [if_neg hc, List.lookup_cons, beq_self_eq_true]; simp only [Option.map_some, if_neg hc]
    | false =>
      dsimp only
      by_cases hc : (k == NameKind.free && ns.lookup n == some .cell) = true
      · rw [if_pos hc, List.lookup_cons, e]; exact ih
      · rw [if_neg hc, List.lookup_cons, e]; exact ih
structure CompOk (s : Scope) (ns : Ns) : Prop where
  kind : s.kind = .function
  free : ∀ p ∈ s.names, p.2 = .free → ns.lookup p.1 = some .cell
  dbg : s.names.lookup ("__debug__" : Str) = none
  cell : ∀ p ∈ s.names, p.2 ≠ .cell
  loc : ∀ p ∈ s.names, p.2 = .local → s.names.lookup p.1 = some .local
theorem compOk_of {s : Scope} {ns : Ns} (h : compOk s ns = true) : CompOk s ns := by
  unfold compOk at h
  simp only [Bool.and_eq_true, List.all_eq_true, beq_iff_eq, bne_iff_ne, Bool.or_eq_true, ne_eq] at h
  refine e0a2 h fun hN2_0 h4 => ?_
  clear h
  refine e0a2 hN2_0 fun hN3_0 h3 => ?_
  clear hN2_0
  refine e0a2 hN3_0 fun h1 h2 => ?_
  clear hN3_0
  refine ⟨h1, fun p hp e => ?_, h3, fun p hp => (h4 p hp).1.1, fun p hp e => ?_⟩
  · rcases h2 p hp with q | q
    · exact absurd e q
    · exact q
  · rcases (h4 p hp).1.2 with q | q
    · exact absurd e q
    · exact q
theorem lookup_mem' {α : Type} {l : List (Str × α)} {x : Str} {v : α} (h : l.lookup x = some v) : (x, v) ∈ l := mem_of_lookup h
section
variable {P : Px} {env : Env} {A : Around} {ρ : Rho} {σ σ₀ : Hp}
/-- the frame of a comprehension -/
theorem comp_env (hE : EnvP P env) {sc : Scope} (K : CompOk sc P.ns) {cl : List (Str × Addr)} {L : Addr} : EnvP { P with ns := relN sc.names P.ns, fz := true } (compEnvC sc cl L env) := by
  refine ⟨K.kind, fun x => ?_, hE.glob, hE.blt, ?_⟩
  · show (relabel sc env).names.lookup x = (relN sc.names P.ns).lookup x
    have : (relabel sc env).names = relN sc.names P.ns := by
      unfold relabel relN
      dsimp only
      refine List.map_congr_left fun p _ => ?_
      refine hideG fun PG kG => ?_
      obtain ⟨n, k⟩ := p
      refine kG ?_
      clear kG PG
      rw [hE.kind, hE.fn]
      simp
    rw [this]
  · show (relN sc.names P.ns).lookup _ = none
    rw [relN_lookup, K.dbg]; rfl
theorem comp_frame (hE : EnvP P env) {sc : Scope} (K : CompOk sc P.ns) {F : Fm} {s : Shared} (X : OkF P.C env P.fz F σ ρ s) {L : Addr} (hn : s.heap.Ns L fun _ => none) (hL : ¬ FrA env L) (hσ : σ L = none) (hF : F L = none) :
    OkF P.C (compEnvC sc (closeL env sc.names []) L env) true (frz env F s.heap) σ (compR sc.names P.ns ρ) s := by
  have hfree : ∀ p ∈ sc.names, p.2 = .free → (env.cells.lookup p.1).isSome = true := fun p hp e => by
    obtain ⟨c, v, hc, _⟩ := X.2.cell p.1 (by rw [hE.kind]; exact K.free p hp e)
    rw [hc]; rfl
  have hE' := comp_env hE K (cl := closeL env sc.names []) (L := L)
  have cellK : ∀ x, (compEnvC sc (closeL env sc.names []) L env).kindOf x = some .cell → sc.names.lookup x = some .free ∧ env.kindOf x = some .cell := fun x hx => by
    rw [hE'.kind] at hx
    have hx : (relN sc.names P.ns).lookup x = some .cell := hx
    rw [relN_lookup] at hx
    refine e1a2 (Option.map_eq_some_iff.mp hx) fun k hk e => ?_
    have hmem := lookup_mem' hk
    by_cases q : k = .free
    · subst q
      exact ⟨hk, by rw [hE.kind]; exact K.free _ hmem rfl⟩
    · have : (k == NameKind.free) = false := beq_eq_false_iff_ne.mpr q
      rw [this] at e
      simp only [Bool.false_and, Bool.false_eq_true, if_false] at e
      exact absurd e (K.cell _ hmem)
  have cellAt : ∀ x c, (compEnvC sc (closeL env sc.names []) L env).cells.lookup x = some c → env.cells.lookup x = some c := fun x c hc =>
    closeL_ok env sc.names [] hfree (fun _ _ h => by cases h) x c hc
  refine ⟨X.freeze.1, ⟨_, hn, fun x hx => ?_⟩, fun x hx => ?_, ?_, hσ, fun x c hx hc => ?_, fun x c hx hc => ?_, fun q => (nomatch q), fun x y c hx hy hc hc' => ?_⟩
  · rw [hE'.kind] at hx
    have hx : (relN sc.names P.ns).lookup x = some .local := hx
    rw [relN_lookup] at hx
    refine e1a2 (Option.map_eq_some_iff.mp hx) fun k hk e => ?_
    have : sc.names.lookup x = some .local := by
      split at e
      · cases e
      · rw [hk, e]
    unfold compR
    rw [this]; rfl
  · refine e0a2 (cellK x hx) fun h1 h2 => ?_
    refine e1a1 (Option.isSome_iff_exists.mp (closeL_has env sc.names [] h1)) fun c hc => ?_
    refine e2a3 (X.2.cell x h2) fun c' v hc' hv hr => ?_
    have e := cellAt x c hc
    rw [hc'] at e
    have e := Option.some.inj e
    subst e
    refine ⟨c', v, hc, hv, ?_⟩
    unfold compR
    rw [h1, if_pos (by rw [← hE.kind]; exact h2)]
    exact hr
  · show frz env F s.heap L = none
    unfold frz
    rw [if_neg hL]; exact hF
  · intro e
    exact hL (.inr ⟨x, (cellK x hx).2, by rw [← show c = L from e]; exact cellAt x c hc⟩)
  · exact X.2.σc x c (cellK x hx).2 (cellAt x c hc)
  · exact X.2.cc x y c (cellK x hx).2 (cellK y hy).2 (cellAt x c hc) (cellAt y c hc')
end
end Mine
namespace Mine
section
variable {P : Px} {env : Env} {A : Around} {ρ : Rho} {σ σ₀ : Hp}
theorem tests_false (c : Expr → Sem Bool) : ∀ (ifs : List Expr), (forIn ifs false fun e r => if r = true then do let ok ← c e; pure (ForInStep.yield ok) else pure (ForInStep.yield r) : Sem Bool) = pure false
  | [] => by rw [List.forIn_nil]
  | e :: r => by rw [List.forIn_cons]; simp only [Bool.false_eq_true, if_false, pure_bind]; exact tests_false c r
theorem tests_sound {f : Expr → Hp → TQ → Prop} (hf : ∀ e σ Q, f e σ Q → WF P A env (isTrue e env (eval e env)) ρ σ Q) : ∀ (ifs : List Expr) (σ : Hp) (K : TQ), testsW f ifs σ K →
    WF P A env (forIn ifs true fun c r => if r = true then do let ok ← isTrue c env (eval c env); pure (ForInStep.yield ok) else pure (ForInStep.yield r)) ρ σ K
  | [], σ, K, h => by rw [List.forIn_nil]; exact Wf.pure h
  | e :: r, σ, K, h => by
    rw [List.forIn_cons]
    simp only [if_true, bind_assoc]
    refine Wf.bind (Wf.mono (hf e σ _ h) fun b σ' q => ?_)
    rw [pure_bind]
    dsimp only
    cases b with
    | true => exact tests_sound hf r σ' K q
    | false =>
      rw [tests_false]
      exact Wf.pure q
theorem comp_loop (hA : AOk P.k A) {env' : Env} (hE : EnvP P env') {x : Str} {px : Pos} {iter elt : Expr} {ifs : List Expr} {sc : Scope} {pos : Pos} {fe : Expr → Rho → Hp → EQ → Prop} {ft : Expr → Rho → Hp → TQ → Prop}
    (hfe : ∀ e ρ σ Q, fe e ρ σ Q → WF P A env' (eval e env') ρ σ fun v => Q (norm v)) (hft : ∀ e ρ σ Q, ft e ρ σ Q → WF P A env' (isTrue e env' (eval e env')) ρ σ Q)
    {it I acc : Addr} {xs : List Value} (hx : seqV σ₀ it = some xs) {F : Fm} {s : Shared} {K : Hp → Prop} (X : OkF P.C env' P.fz F σ ρ s) (hF : F I = none) (hσ : σ I = none) (hf : ¬ FrA env' I) (H : ItH σ₀ it 0 I s.heap)
    (h : compL P (.Name x px) ifs elt fe ft it σ₀ acc xs ρ σ K) :
    codeAny (model P.C.prog P.C.w) A (.compLoop (.ListComp elt [⟨.Name x px, iter, ifs, 0⟩] sc pos) 0 (.ref I) (.ref acc) env') (fun r s' => match r with | .ok _ => ∃ σ' ρ', OkF P.C env' P.fz F σ' ρ' s' ∧ K σ' | .error _ => False) s := by
  refine codeAny_compLoop_tests (fun n s => ∃ i ρ σ, OkF P.C env' P.fz F σ ρ s ∧ σ I = none ∧ ItH σ₀ it i I s.heap ∧ compL P (.Name x px) ifs elt fe ft it σ₀ acc (xs.drop i) ρ σ K ∧ i ≤ xs.length ∧ n = xs.length - i) ?_ xs.length
    ⟨0, ρ, σ, X, hσ, H, h, Nat.zero_le _, rfl⟩
  intro n s hI0
  refine e3a6 hI0 fun i ρ σ X hσ H h hi hR0_8 => ?_
  clear hI0
  obtain rfl := hR0_8
  have hst : stay it σ₀ σ := by
    cases hd : xs.drop i with
    | nil => rw [hd] at h; exact h.1
    | cons x r => rw [hd] at h; exact h.1
  refine it_next X.1 hA.handled hst hx H hσ (fun v h' k hv H' hext => ?_) (fun hlen h' k hext => ?_) hi
  · have hlt : i < xs.length := (List.getElem?_eq_some_iff.mp hv).1
    have hd : xs.drop i = norm v :: xs.drop (i + 1) := by
      rw [List.drop_eq_getElem_cons hlt]
      rw [List.getElem?_eq_getElem hlt] at hv
      rw [Option.some.inj hv]
    rw [hd] at h
    have X' : OkF P.C env' P.fz F σ ρ { s with heap := h', toks := k } := X.but hF hσ hf hext
    refine e1a1 H'.there fun o ho => ?_
    have X2 := X'.hold ho hσ hf
    have hb0 := X.base_none hF
    have back : ∀ {σ3 : Hp} {ρ3 : Rho} {s3 : Shared}, OkF P.C env' P.fz (upd F I o) σ3 ρ3 s3 → compL P (.Name x px) ifs elt fe ft it σ₀ acc (xs.drop (i + 1)) ρ3 σ3 K →
        ∃ m, m < xs.length - i ∧ ∃ i ρ σ, OkF P.C env' P.fz F σ ρ s3 ∧ σ I = none ∧ ItH σ₀ it i I s3.heap ∧ compL P (.Name x px) ifs elt fe ft it σ₀ acc (xs.drop i) ρ σ K ∧ i ≤ xs.length ∧ m = xs.length - i := fun X4 q => by
      refine e0a3 (X4.drop hF hb0 hf) fun X5 ho5 hσ5 => ?_
      exact ⟨xs.length - (i + 1), by omega, i + 1, _, _, X5, hσ5, H'.at fun o' e => by rw [ho] at e; cases e; exact ho5, q, hlt, rfl⟩
    refine wpAny_mono (tgt_sound hA.handled hE h.2 _ _ X2) (fun _ s2 ⟨σ2, ρ2, X3, k2, e2⟩ => ?_) fun _ _ x => x.elim
    subst e2
    refine wpAny_mono (tests_sound (fun e σ Q => hft e ρ2 σ Q) ifs _ _ k2 _ _ X3) (fun ok s3 rP => e1a2 rP fun σ3 X4 q => ?_) fun _ _ x => x.elim
    cases ok with
    | true =>
      simp only [if_true]
      refine wpAny_mono (hfe elt _ _ _ q _ _ X4) (fun w s4 rP => e1a2 rP fun σ4 X5 q4 => ?_) fun _ _ x => x.elim
      refine wpAny_mono ((appendP_sound q4.out).lift _ _ X5) (fun _ s5 rP => e1a2 rP fun σ5 X6 q5 => back X6 q5) fun _ _ x => x.elim
    | false =>
      simp only [Bool.false_eq_true, if_false]
      exact back X4 q
  · rw [List.drop_eq_nil_of_le hlen] at h
    exact ⟨σ, ρ, X.but hF hσ hf hext, h.2⟩
/-- a comprehension, to its end -/
theorem comp_core (B : Bs P.C) (hA : AOk P.k A) (hE : EnvP P env) {x : Str} {px : Pos} {iter elt : Expr} {ifs : List Expr} {sc : Scope} {pos : Pos} {fe : Expr → Rho → Hp → EQ → Prop} {ft : Expr → Rho → Hp → TQ → Prop} (K : CompOk sc P.ns)
    (hfe : ∀ env', EnvP { P with ns := relN sc.names P.ns, fz := true } env' → ∀ e ρ σ Q, fe e ρ σ Q → WF { P with ns := relN sc.names P.ns, fz := true } A env' (eval e env') ρ σ fun v => Q (norm v))
    (hft : ∀ env', EnvP { P with ns := relN sc.names P.ns, fz := true } env' → ∀ e ρ σ Q, ft e ρ σ Q → WF { P with ns := relN sc.names P.ns, fz := true } A env' (isTrue e env' (eval e env')) ρ σ Q)
    {it : Addr} {xs : List Value} (hx : seqV σ it = some xs) (hn : xs.length ≤ 10000) {F : Fm} {s : Shared} {Q : EQ} {E : Value → Shared → Prop} (X : OkF P.C env P.fz F σ ρ s)
    (h : ∀ acc, σ acc = none → compL { P with ns := relN sc.names P.ns, fz := true } (.Name x px) ifs elt fe ft it σ acc xs (compR sc.names P.ns ρ) (upd σ acc (.list [])) fun σ => Q (.ref acc) σ)
    {RR : Value → Addr → Result → Shared → Prop} (hR : ∀ acc L σ' s', (∃ m, s'.heap.Ns L m) → OkF P.C env P.fz F σ' ρ s' → (∀ h', Heap.SameBut L s'.heap h' → OkF P.C env P.fz F σ' ρ { s' with heap := h' }) → σ' L = none ∧ F L = none ∧ ¬ FrA env L → Q (.ref acc) σ' → ∀ f, RR (.ref acc) L (.ok f) s') :
    wpAny (model P.C.prog P.C.w) A (pyIter (.ref it)) (fun itv s₂ => wpAny (model P.C.prog P.C.w) A (newList []) (fun acc s₃ =>
      wpAny (model P.C.prog P.C.w) A (newFunctionEnv sc env.globals (closeL env sc.names []) [] env.qual none .none (some env)) (fun cenv s₄ =>
        codeAny (model P.C.prog P.C.w) A (.compStart (.ListComp elt [⟨.Name x px, iter, ifs, 0⟩] sc pos) 0 itv acc { cenv with scope := relabel sc env }) (RR acc cenv.locals) s₄) E s₃) E s₂) E s := by
  refine it_make X.1 hx (fun oI H => ?_) hn
  have hI := X.fresh (Nat.le_refl _)
  have hIF := X.1.1.fnone_of (Nat.le_refl _)
  have hIf : ¬ FrA env s.heap.objs.size := fun q => Nat.lt_irrefl _ (X.frame_lt q)
  have X2 : OkF P.C env P.fz F σ ρ { s with heap := s.heap.push oI } := X.grow (k := s.toks) (push_keeps _ _)
  have szI : s.heap.objs.size < (s.heap.push oI).objs.size := by rw [Heap.size_push]; exact Nat.lt_succ_self _
  refine wpAny_newList ?_ (Nat.zero_le _)
  have hacc := X2.fresh (Nat.le_refl (s.heap.push oI).objs.size)
  have hl := h _ hacc
  have X3 : OkF P.C env P.fz F (upd σ (s.heap.push oI).objs.size (.list [])) ρ { s with heap := (s.heap.push oI).push { cls := .type "list", data := .seq ([] : List Value).toArray } } :=
    X2.new B (x := .list []) (k := s.toks) (push_keeps _ _) (Nat.le_refl _) ⟨#[], 0, Heap.get?_push_size _ rfl, rfl⟩
  generalize hH3 : (s.heap.push oI).push { cls := .type "list", data := .seq ([] : List Value).toArray } = H3 at X3
  have sz3 : (s.heap.push oI).objs.size < H3.objs.size := by rw [← hH3, Heap.size_push (h := s.heap.push oI)]; exact Nat.lt_succ_self _
  refine wpAny_newFunctionEnv (s := { s with heap := H3 }) (fun y hy => K.cell y hy) (fun y hy => nomatch hy) (fun h' hns hsb => ?_) K.kind
  have kp : ∀ b o, H3.get? b = some o → h'.get? b = some o := fun b o q => hsb.extBut b o (Nat.ne_of_lt (Heap.lt_size q)) (push_keeps _ _ b o q)
  have X4 : OkF P.C env P.fz F (upd σ (s.heap.push oI).objs.size (.list [])) ρ { s with heap := h', toks := s.toks + ([] : List (Str × Value)).length } := X3.grow (s := { s with heap := H3 }) kp
  have hL : ¬ FrA env H3.objs.size := fun q => Nat.lt_irrefl _ (X3.frame_lt q)
  have hLσ := X3.fresh (Nat.le_refl H3.objs.size)
  have hLF := X3.1.1.fnone_of (Nat.le_refl H3.objs.size)
  have Y := comp_frame hE K X4 (L := H3.objs.size) hns hL hLσ hLF
  have hE' := comp_env hE K (cl := closeL env sc.names []) (L := H3.objs.size)
  have HI : ItH σ it 0 s.heap.objs.size h' := H.at fun o q => kp _ _ (by rw [← hH3]; exact push_keeps _ _ _ _ q)
  have hFI : frz env F h' s.heap.objs.size = none := by
    unfold frz
    rw [if_neg hIf]; exact hIF
  have hσI : (upd σ (s.heap.push oI).objs.size (.list [])) s.heap.objs.size = none := by rw [upd_ne _ _ (Nat.ne_of_lt szI)]; exact hI
  have hfI : ¬ FrA (compEnvC sc (closeL env sc.names []) H3.objs.size env) s.heap.objs.size := by
    rintro (q | ⟨y, hy, hc⟩)
    · have : s.heap.objs.size = H3.objs.size := q
      omega
    · have q := Y.2.cell y hy
      refine e2a3 q fun c v hc' hv _ => ?_
      clear q
      rw [hc] at hc'
      have e := Option.some.inj hc'
      refine e1a2 hv fun o ho hd => ?_
      clear hv
      rw [← e] at ho
      have hc0 := closeL_ok env sc.names [] (fun p hp e => by
        obtain ⟨c, v, hc, _⟩ := X.2.cell p.1 (by rw [hE.kind]; exact K.free p hp e)
        rw [hc]; rfl) (fun _ _ h => by cases h) y s.heap.objs.size hc
      have hk : env.kindOf y = some .cell := by
        rw [hE'.kind] at hy
        have hy : (relN sc.names P.ns).lookup y = some .cell := hy
        rw [relN_lookup] at hy
        refine e1a2 (Option.map_eq_some_iff.mp hy) fun k hk e => ?_
        have hmem := lookup_mem' hk
        by_cases q : k = .free
        · subst q; rw [hE.kind]; exact K.free _ hmem rfl
        · have : (k == NameKind.free) = false := beq_eq_false_iff_ne.mpr q
          rw [this] at e
          simp only [Bool.false_and, Bool.false_eq_true, if_false] at e
          exact absurd e (K.cell _ hmem)
      exact hIf (.inr ⟨y, hk, hc0⟩)
  have hst : stay it σ (upd σ (s.heap.push oI).objs.size (.list [])) := by
    have ne : ∀ {a : Addr} {z : MO}, σ a = some z → a ≠ (s.heap.push oI).objs.size := fun e q => by rw [q, hacc] at e; cases e
    refine ⟨?_, ?_⟩
    · unfold seqV at hx
      cases e : σ it with
      | none => rw [e] at hx; cases hx
      | some z => rw [upd_ne _ _ (ne e), e]
    · unfold seqV at hx
      split at hx
      · rename_i e; rw [e]; trivial
      · rename_i e; rw [e]; trivial
      · rename_i e; rw [e]; trivial
      · rename_i e; rw [e]; trivial
      · rename_i d e
        rw [e]; dsimp only
        split at hx
        · rename_i kvs ep e'; rw [upd_ne _ _ (ne e')]
        · cases hx
      · cases hx
  have fin : codeAny (model P.C.prog P.C.w) A (.compLoop (.ListComp elt [⟨.Name x px, iter, ifs, 0⟩] sc pos) 0 (.ref s.heap.objs.size) (.ref (s.heap.push oI).objs.size) (compEnvC sc (closeL env sc.names []) H3.objs.size env)) (RR (.ref (s.heap.push oI).objs.size) H3.objs.size)
      { s with heap := h', toks := s.toks + ([] : List (Str × Value)).length } := by
    refine codeAny_mono (comp_loop (P := { P with ns := relN sc.names P.ns, fz := true }) hA hE' (hfe _ hE') (hft _ hE') hx Y hFI hσI hfI HI hl) fun r s' q => ?_
    cases r with
    | error _ => exact q.elim
    | ok f =>
      refine e2a2 q fun σ' ρ' Z q => ?_
      refine e1a2 Z.2.ns fun m hm _ => ?_
      refine hR _ _ σ' s' ⟨m, hm⟩ (X4.freeze.2 _ _ Z.1) (fun h'' hs => X4.freeze.2 _ _ ?_) ⟨Z.2.σL, hLF, hL⟩ q f
      exact Z.1.heap' (Z.1.1.other hs.extBut Z.2.FL Z.2.σL)
  exact codeAny_compStart_list fin (it_self Y.1 hA.handled hst hx HI hσI fin)
end
end Mine
namespace Mine
theorem isSetE_ne {iter : Expr} (h : isSetE iter = false) : ∀ a b c, iter ≠ .Set a b c := fun _ _ _ e => by subst e; cases h
section
variable {P : Px} {env : Env} {A : Around} {ρ : Rho} {σ σ₀ : Hp}
theorem K_hclos (hE : EnvP P env) {sc : Scope} (K : CompOk sc P.ns) {F : Fm} {s : Shared} (X : OkF P.C env P.fz F σ ρ s) : closureFor sc env = pure (closeL env sc.names []) :=
  closureFor_eq fun p hp e => by
    obtain ⟨c, v, hc, _⟩ := X.2.cell p.1 (by rw [hE.kind]; exact K.free p hp e)
    rw [hc]; rfl
theorem WF.comp (B : Bs P.C) (hA : AOk P.k A) (hE : EnvP P env) {x : Str} {px : Pos} {iter elt : Expr} {ifs : List Expr} {sc : Scope} {pos : Pos} {fe : Expr → Rho → Hp → EQ → Prop} {ft : Expr → Rho → Hp → TQ → Prop} (K : CompOk sc P.ns) (hi : isSetE iter = false)
    (hfe : ∀ env', EnvP { P with ns := relN sc.names P.ns, fz := true } env' → ∀ e ρ σ Q, fe e ρ σ Q → WF { P with ns := relN sc.names P.ns, fz := true } A env' (eval e env') ρ σ fun v => Q (norm v))
    (hft : ∀ env', EnvP { P with ns := relN sc.names P.ns, fz := true } env' → ∀ e ρ σ Q, ft e ρ σ Q → WF { P with ns := relN sc.names P.ns, fz := true } A env' (isTrue e env' (eval e env')) ρ σ Q) {Q : EQ}
    (h : WF P A env (eval iter env) ρ σ fun v σ => compS P x px ifs elt sc fe ft ρ (norm v) σ Q) :
    WF P A env (eval (.ListComp elt [⟨.Name x px, iter, ifs, 0⟩] sc pos) env) ρ σ fun v => Q (norm v) := by
  intro F s X
  rw [eval_ListComp]
  refine wpAny_comprehension_free (use := none) rfl (isSetE_fold (isSetE_ne hi)) (K_hclos hE K X) K.kind (fun p hp e => K.loc p hp e) (wpAny_mono (h F s X) (fun v s1 rP => e1a2 rP fun σ1 X1 q => ?_) fun _ _ x => x)
  replace q : compS P x px ifs elt sc fe ft ρ (norm v) σ1 Q := q
  unfold compS at q
  split at q
  · rename_i it e
    cases norm_ref e
    split at q
    · rename_i xs hx
      refine comp_core B hA hE K hfe hft hx q.1 X1 q.2 (fun acc L σ' s' hm X' hh hL qq f => ?_)
      refine e1a1 hm fun m hm => ?_
      exact ⟨m, hm, fun h' hs => ⟨σ', hh h' hs, qq⟩⟩
    · cases q
  · cases q
/-- the same, stored straight into a name of the frame -/
theorem WX.compUsed (B : Bs P.C) (hA : AOk P.k A) (hE : EnvP P env) {x y : Str} {px py : Pos} {iter elt : Expr} {ifs : List Expr} {sc : Scope} {pos spos : Pos} {fe : Expr → Rho → Hp → EQ → Prop} {ft : Expr → Rho → Hp → TQ → Prop} (K : CompOk sc P.ns) (hi : isSetE iter = false)
    (hsw : swapsWith (.ListComp elt [⟨.Name x px, iter, ifs, 0⟩] sc pos) (some (.Name y py)) spos.line env = pure true)
    (hfe : ∀ env', EnvP { P with ns := relN sc.names P.ns, fz := true } env' → ∀ e ρ σ Q, fe e ρ σ Q → WF { P with ns := relN sc.names P.ns, fz := true } A env' (eval e env') ρ σ fun v => Q (norm v))
    (hft : ∀ env', EnvP { P with ns := relN sc.names P.ns, fz := true } env' → ∀ e ρ σ Q, ft e ρ σ Q → WF { P with ns := relN sc.names P.ns, fz := true } A env' (isTrue e env' (eval e env')) ρ σ Q) {Q : SQ}
    (h : WF P A env (eval iter env) ρ σ fun v σ => compS P x px ifs elt sc fe ft ρ (norm v) σ fun v σ => asg P y v ρ fun ρ => Q .next ρ σ) :
    WX P A env (exec (.Assign [.Name y py] (.ListComp elt [⟨.Name x px, iter, ifs, 0⟩] sc pos) spos) env) ρ σ Q := by
  intro F s X
  rw [exec_Assign_Name_used _ _ _ _ hsw]
  refine wpAny_bind (wpAny_standAt (wpAny_bind ?_))
  show wpAny _ A (do let _ ← comprehension (.ListComp elt [⟨.Name x px, iter, ifs, 0⟩] sc pos) sc env _ (newList []) false (eval iter env) (some (assign (.Name y py) env))) _ _ s
  refine wpAny_bind (wpAny_mono (wpAny_comprehension_free (use := some (assign (.Name y py) env)) (Q := fun _ s' => ∃ σ' ρ', OkF P.C env P.fz F σ' ρ' s' ∧ Q .next ρ' σ') rfl (isSetE_fold (isSetE_ne hi)) (K_hclos hE K X) K.kind (fun p hp e => K.loc p hp e)
    (wpAny_mono (h F s X) (fun v s1 rP => e1a2 rP fun σ1 X1 q => ?_) fun _ _ e => e)) (fun _ s' hq => wpAny_pure (wpAny_pure hq)) fun _ _ e => e)
  replace q : compS P x px ifs elt sc fe ft ρ (norm v) σ1 fun v σ => asg P y v ρ fun ρ => Q .next ρ σ := q
  unfold compS at q
  split at q
  · rename_i it e
    cases norm_ref e
    split at q
    · rename_i xs hx
      refine comp_core (Q := fun v σ => asg P y v ρ fun ρ => Q .next ρ σ) B hA hE K hfe hft hx q.1 X1 q.2 (fun acc L σ' s' hm X' hh hL qq f => ?_)
      refine e1a1 hm fun m hm => ?_
      obtain ⟨oL, hoL⟩ : ∃ o, s'.heap.get? L = some o := by obtain ⟨o, _, _, ho, _⟩ := hm; exact ⟨o, ho⟩
      have Z := X'.hold hoL hL.1 hL.2.2
      show wpAny _ A (assign (.Name y py) env (.ref acc)) _ _ s'
      refine assign_Name (wpAny_mono (asg_sound hE (v := .ref acc) qq _ _ Z) (fun _ s'' ⟨σ'', ρ'', Z', k, e⟩ => ?_) fun _ _ x => x)
      subst e
      refine e0a3 (Z'.drop hL.2.1 (X'.base_none hL.2.1) hL.2.2) fun Z2 hoL2 hσL2 => ?_
      refine ⟨m, hm.at' fun o ho => by rw [hoL] at ho; cases ho; exact hoL2, fun h' hs => ⟨σ'', ρ'', Z2.but (k := s''.toks) hL.2.1 hσL2 hL.2.2 hs.extBut, k⟩⟩
    · cases q
  · cases q
end
end Mine
namespace Mine
/-! names stored in either order -/
theorem lookup_none_of {α : Type} {x : Str} : ∀ {l : List (Str × α)}, x ∉ l.map (·.1) → l.lookup x = none
  | [], _ => rfl
  | (n, v) :: r, h => by
    rw [List.lookup_cons]
    have h1 : x ≠ n := fun e => h (by rw [e]; exact .head _)
    rw [beq_eq_false_iff_ne.mpr h1]
    exact lookup_none_of fun q => h (List.mem_cons_of_mem _ q)
theorem bindV_at : ∀ (ns : List Str) (vs : List Value) (ρ : Rho) (x : Str), ns.Nodup → ns.length = vs.length → bindV ns vs ρ x = ((ns.zip vs).lookup x).or (ρ x)
  | [], [], ρ, x, _, _ => rfl
  | [], _ :: _, _, _, _, h => by cases h
  | _ :: _, [], _, _, _, h => by cases h
  | n :: r, v :: s, ρ, x, hn, hl => by
    refine e0a2 (List.nodup_cons.mp hn) fun h1 h2 => ?_
    show bindV r s (setR ρ n v) x = _
    rw [bindV_at r s _ x h2 (Nat.succ.inj hl), List.zip_cons_cons, List.lookup_cons]
    cases e : x == n with
    | true =>
      have e' := beq_iff_eq.mp e
      subst e'
      have : (r.zip s).lookup x = none := lookup_none_of (by rw [List.map_fst_zip (by have := Nat.succ.inj hl; omega)]; exact h1)
      rw [this, setR_self]; rfl
    | false =>
      dsimp only
      rw [setR_ne _ _ (beq_eq_false_iff_ne.mp e)]
theorem lookup_reverse {α : Type} {x : Str} : ∀ {l : List (Str × α)}, (l.map (·.1)).Nodup → l.reverse.lookup x = l.lookup x
  | [], _ => rfl
  | (n, v) :: r, h => by
    refine e0a2 (List.nodup_cons.mp h) fun h1 h2 => ?_
    rw [List.reverse_cons, List.lookup_append, lookup_reverse h2, List.lookup_cons, List.lookup_cons]
    cases e : x == n with
    | true =>
      have e' := beq_iff_eq.mp e
      subst e'
      rw [lookup_none_of h1]; rfl
    | false => simp
theorem bindV_rev {ns : List Str} {vs : List Value} {ρ : Rho} (hn : ns.Nodup) (hl : ns.length = vs.length) : bindV ns.reverse vs.reverse ρ = bindV ns vs ρ := by
  funext x
  have e : ns.reverse.zip vs.reverse = (ns.zip vs).reverse := by
    rw [List.zip_eq_zipWith, List.zip_eq_zipWith, List.reverse_zipWith hl]
  rw [bindV_at _ _ _ _ hn hl, bindV_at _ _ _ _ ((List.reverse_perm ns).nodup_iff.mpr hn) (by simp [hl]), e, lookup_reverse (by rw [List.map_fst_zip (by omega)]; exact hn)]
section
variable {P : Px} {env : Env} {A : Around} {ρ : Rho} {σ σ₀ : Hp}
theorem stores_sound (hE : EnvP P env) : ∀ (ns : List Str) (vs : List Value) (ρ : Rho), (∀ n ∈ ns, P.ns.lookup n = some .local) → ns.length = vs.length →
    Wr P.C A env P.fz (assignInOrder (ns.map fun n => bindName env n) vs) ρ σ fun _ ρ' σ' => ρ' = bindV ns (vs.map norm) ρ ∧ σ' = σ := by
  intro ns
  induction ns with
  | nil =>
    intro vs ρ _ h
    cases vs with
    | nil => exact Wr.pure ⟨rfl, rfl⟩
    | cons _ _ => cases h
  | cons n r ih =>
    intro vs ρ hk hl
    cases vs with
    | nil => cases hl
    | cons v s =>
      show Wr P.C A env P.fz (do holding s (bindName env n v); assignInOrder (r.map fun n => bindName env n) s) ρ σ _
      have h1 : asg P n (norm v) ρ fun ρ' => ρ' = setR ρ n (norm v) := by
        unfold asg; rw [hk n (.head _)]
      refine Wr.bind fun F st X => wpAny_holding (wpAny_bindName (wpAny_mono (asg_sound hE h1 F st X) (fun _ s' ⟨σ', ρ', X', k, e⟩ => ⟨σ', ρ', X', ?_⟩) fun _ _ x => x))
      subst e; subst k
      exact ih s _ (fun m hm => hk m (List.mem_cons_of_mem _ hm)) (Nat.succ.inj hl)
theorem asgs_local : ∀ (ts : List Expr) (vs : List Value) (ρ : Rho) (K : Rho → Prop), (∀ n ∈ namesT ts, P.ns.lookup n = some .local) → asgs P ts vs ρ K → (namesT ts).length = vs.length ∧ K (bindV (namesT ts) vs ρ)
  | [], [], _, _, _, h => ⟨rfl, h⟩
  | [], _ :: _, _, _, _, h => False.elim h
  | e :: r, vs0, ρ, K, hk, h => by
    refine e4a3 (asgs_inv h) fun x p v vs h1 h2 h' => ?_
    subst h1 h2
    have hx : P.ns.lookup x = some .local := hk x (.head _)
    unfold asg at h'
    rw [hx] at h'
    refine e0a2 (asgs_local r vs _ K (fun m hm => hk m (List.mem_cons_of_mem _ hm)) h') fun e1 e2 => ?_
    exact ⟨congrArg (· + 1) e1, e2⟩
theorem filterMap_all {α β : Type} (f : α → Option β) : ∀ (l : List α), (l.filterMap f).length = l.length → ∀ a ∈ l, (f a).isSome = true
  | [], _, _, h => nomatch h
  | b :: r, hl, a, h => by
    rw [List.filterMap_cons] at hl
    cases e : f b with
    | none =>
      rw [e] at hl
      have := List.length_filterMap_le f r
      simp only [List.length_cons] at hl
      omega
    | some c =>
      rw [e] at hl
      rcases List.mem_cons.mp h with rfl | h
      · rw [e]; rfl
      · exact filterMap_all f r (Nat.succ.inj hl) a h
theorem nm_of {env : Env} {line : Nat} {e : Expr} (h1 : ((fun | .Name id pos => if env.kindOf id == some .local && pos.line == line then some id else none | _ => none : Expr → Option Str) e).isSome = true) : ∃ x p, e = .Name x p := by
  cases e <;> first | exact no_isSome h1 | exact ⟨_, _, rfl⟩
theorem filterMap_names {env : Env} {line : Nat} : ∀ (ts : List Expr), (∀ a ∈ ts, ((fun | .Name id pos => if env.kindOf id == some .local && pos.line == line then some id else none | _ => none : Expr → Option Str) a).isSome = true) →
    (ts.filterMap (fun | .Name id pos => if env.kindOf id == some .local && pos.line == line then some id else none | _ => none : Expr → Option Str)) = namesT ts ∧ ∀ n ∈ namesT ts, env.kindOf n = some .local
  | [], _ => ⟨rfl, fun _ h => nomatch h⟩
  | e :: r, h => by
    have h1 := h e (.head _)
    refine e0a2 (filterMap_names r fun a ha => h a (List.mem_cons_of_mem _ ha)) fun i1 i2 => ?_
    refine e2a1 (nm_of h1) fun x p he => ?_
    subst he
    dsimp only at h1
    by_cases c : (env.kindOf x == some .local && p.line == line) = true
    · rw [List.filterMap_cons]
      dsimp only
      rw [if_pos c]
      refine ⟨by dsimp only; rw [i1]; rfl, fun n hn => ?_⟩
      rcases List.mem_cons.mp hn with rfl | hn
      · simp only [Bool.and_eq_true, beq_iff_eq] at c; exact c.1
      · exact i2 n hn
    · rw [if_neg c] at h1; cases h1
theorem swappedStores_cases {ts : List Expr} {k : Nat} {tp : Pos} {e : Expr} (ht : tupOk e = true) :
    swappedStores [.Tuple ts k tp] e env = pure none ∨ (swappedStores [.Tuple ts k tp] e env = pure (some (namesT ts)) ∧ ∀ n ∈ namesT ts, env.kindOf n = some .local) := by
  unfold swappedStores
  cases e <;> try exact .inl rfl
  rename_i vs k2 tp2
  dsimp only
  split
  · exact .inl rfl
  · split
    · exact .inl rfl
    · split
      · exact .inl rfl
      · split
        · exact .inl rfl
        · rename_i h2 h1 h0
          unfold tupOk at ht
          rw [Bool.or_eq_true, Bool.not_eq_true'] at ht
          rcases ht with q | q
          · exact absurd q h0
          · rw [q, if_neg (by decide)]
            simp only [Bool.or_eq_true, bne_iff_ne, ne_eq, not_or, Decidable.not_not] at h1
            refine e0a2 (filterMap_names (env := env) (line := (Option.map (fun x => x.pos.line) ts.head?).getD 0) ts (filterMap_all _ ts h1.1)) fun j1 j2 => ?_
            refine .inr ⟨?_, j2⟩
            rw [← j1]; rfl
/-! assignments -/
theorem isComp_swaps {e : Expr} {t : Option Expr} {line : Nat} (h : isCompE e = false) : swapsWith e t line env = pure false := by
  cases e <;> first | exact tf h | exact Eq.refl (pure false)
theorem listcomp_swaps {elt : Expr} {gens : List Comprehension} {sc : Scope} {p : Pos} {x : Str} {px : Pos} {line : Nat} : swapsWith (.ListComp elt gens sc p) (some (.Name x px)) line env = pure false ∨ swapsWith (.ListComp elt gens sc p) (some (.Name x px)) line env = pure true := by
  have : ∃ b, swapsWith (.ListComp elt gens sc p) (some (.Name x px)) line env = pure b := ⟨_, rfl⟩
  refine e1a1 this fun b hb => ?_
  clear this
  cases b
  · exact .inl hb
  · exact .inr hb
theorem WX.assignName (hE : EnvP P env) {x : Str} {px pos : Pos} {e : Expr} {Q : SQ} (hs : swapsWith e (some (.Name x px)) pos.line env = pure false)
    (h : WF P A env (eval e env) ρ σ fun v σ => asg P x (norm v) ρ fun ρ => Q .next ρ σ) : WX P A env (exec (.Assign [.Name x px] e pos) env) ρ σ Q := fun F s X =>
  wpAny_Assign_Name (wpAny_mono (h F s X) (fun v s1 rP => e1a2 rP fun σ1 X1 q => wpAny_mono (asg_sound hE q F s1 X1) (fun _ s2 ⟨σ2, ρ2, X2, k, e⟩ => ⟨σ2, ρ2, X2, by subst e; exact k⟩) fun _ _ x => x) fun _ _ x => x) hs
theorem attr_swaps {e o : Expr} {x : Str} {pa : Pos} {line : Nat} : swapsWith e (some (.Attribute o x pa)) line env = pure false := by
  cases e <;> exact Eq.refl (pure false)
theorem WX.assignAttr {o e : Expr} {x : Str} {pa pos : Pos} {Q : SQ}
    (h : WF P A env (eval e env) ρ σ fun v σ => WF P A env (eval o env) ρ σ fun ov σ => WF P A env (setAttr ov x v) ρ σ fun _ σ => Q .next ρ σ) : WX P A env (exec (.Assign [.Attribute o x pa] e pos) env) ρ σ Q := fun F s X =>
  plainObj_wpAny_Assign_Attribute (wpAny_mono (h F s X) (fun _ _ rP => e1a2 rP fun _ X1 q1 => wpAny_mono (q1 F _ X1) (fun _ _ rP => e1a2 rP fun _ X2 q2 => wpAny_mono (q2 F _ X2) (fun _ _ rP => e1a2 rP fun σ3 X3 q3 => ⟨σ3, ρ, X3, q3⟩) fun _ _ x => x) fun _ _ x => x) fun _ _ x => x) attr_swaps
theorem WX.assignSub {o i e : Expr} {pa pos : Pos} {Q : SQ} (hs : isCompE e = false)
    (h : WF P A env (eval e env) ρ σ fun v σ => WF P A env (eval o env) ρ σ fun ov σ => WF P A env (eval i env) ρ σ fun iv σ => WF P A env (setItem ov iv v) ρ σ fun _ σ => Q .next ρ σ) : WX P A env (exec (.Assign [.Subscript o i pa] e pos) env) ρ σ Q := fun F s X =>
  wpAny_Assign_Subscript (wpAny_mono (h F s X) (fun _ _ rP => e1a2 rP fun _ X1 q1 => wpAny_mono (q1 F _ X1) (fun _ _ rP => e1a2 rP fun _ X2 q2 => wpAny_mono (q2 F _ X2) (fun _ _ rP => e1a2 rP fun _ X3 q3 => wpAny_mono (q3 F _ X3) (fun _ _ rP => e1a2 rP fun σ4 X4 q4 => ⟨σ4, ρ, X4, q4⟩) fun _ _ x => x) fun _ _ x => x) fun _ _ x => x) fun _ _ x => x) (isComp_swaps hs)
theorem WX.assignTup (hA : A.handled = none) (hE : EnvP P env) {ts : List Expr} {c : Nat} {tp pos : Pos} {e : Expr} {Q : SQ} (hs : isCompE e = false) (ht : tupOk e = true) (hn : (namesT ts).Nodup)
    (h : WF P A env (eval e env) ρ σ fun v σ => ∃ a xs, norm v = .ref a ∧ σ a = some (.tup xs) ∧ asgs P ts xs ρ fun ρ => Q .next ρ σ) : WX P A env (exec (.Assign [.Tuple ts c tp] e pos) env) ρ σ Q := by
  intro F s X
  rcases swappedStores_cases (env := env) (k := c) (tp := tp) (ts := ts) ht with hw | ⟨hw, hk⟩
  · refine Assign_Tuple (wpAny_mono (h F s X) (fun v s1 ⟨σ1, X1, a, xs, e1, e2, q⟩ => ?_) fun _ _ x => x) (show swapsWith e (some (.Tuple ts c tp)) pos.line env = pure false from isComp_swaps hs) hw
    have h2 : tgtP P (.Tuple ts c tp) (norm v) ρ σ1 fun ρ => Q .next ρ σ1 := by
      refine (⟨?_⟩ : Hold (tupA P ts (norm v) ρ σ1 fun ρ => Q .next ρ σ1)); unfold tupA; rw [e1]; dsimp only; rw [e2]; exact q
    exact wpAny_mono (tgt_sound hA hE h2 F s1 X1) (fun _ s2 ⟨σ2, ρ2, X2, k, e⟩ => ⟨σ2, ρ2, X2, by subst e; exact k⟩) fun _ _ x => x
  · refine Assign_Tuple_swapped (wpAny_mono (h F s X) (fun v s1 ⟨σ1, X1, a, xs, e1, e2, q⟩ => ?_) fun _ _ x => x) (show swapsWith e (some (.Tuple ts c tp)) pos.line env = pure false from isComp_swaps hs) hw
    cases norm_ref e1
    refine e2a2 (X1.1.at e2) fun vs n ho e3 => ?_
    subst e3
    have hk' : ∀ n ∈ namesT ts, P.ns.lookup n = some .local := fun n hn => by rw [← hE.kind]; exact hk n hn
    refine e0a2 (asgs_local ts _ ρ _ hk' q) fun l1 q2 => ?_
    have l2 : (namesT ts).length = vs.size := by simpa using l1
    rw [l2]
    refine unpackItems_tuple hA ⟨_, ho, rfl, _, rfl⟩ fun h' hx => ?_
    have X2 : OkF P.C env P.fz F σ1 ρ { s1 with heap := h' } := X1.grow (k := s1.toks) fun b o q => hx b o (Nat.ne_of_lt (Heap.lt_size q)) q
    refine wpAny_mono (stores_sound hE (namesT ts).reverse vs.toList.reverse ρ (fun n hn => hk' n (List.mem_reverse.mp hn)) (by simp [l2]) F _ X2) (fun _ s2 ⟨σ2, ρ2, X3, e4, e5⟩ => ⟨σ2, ρ2, X3, ?_⟩) fun _ _ x => x
    subst e5
    rw [List.map_reverse, bindV_rev hn l1] at e4
    subst e4
    exact q2
end
end Mine
namespace Mine
theorem WFn {α : Type} {P : Px} {env : Env} {A : Around} {ρ : Rho} {σ : Hp} {t : Sem α} {Q Q' : α → Hp → Prop} (h : WF P A env t ρ σ Q) (k : ∀ a σ', Q a σ' → Q' a σ') : WF P A env t ρ σ Q' := h.mono k
noncomputable abbrev EvOk (n : Nat) : Prop := ∀ (P : Px) (_ : Bs P.C) (env : Env) (A : Around) (_ : AOk P.k A) (_ : EnvP P env) (e : Expr) (ρ : Rho) (σ : Hp) (Q : EQ), ev P n e ρ σ Q → WF P A env (eval e env) ρ σ fun v => Q (norm v)
noncomputable abbrev TsOk (n : Nat) : Prop := ∀ (P : Px) (_ : Bs P.C) (env : Env) (A : Around) (_ : AOk P.k A) (_ : EnvP P env) (e : Expr) (ρ : Rho) (σ : Hp) (Q : TQ), tst P n e ρ σ Q → WF P A env (isTrue e env (eval e env)) ρ σ Q
section
variable {P : Px} {env : Env} {A : Around} {ρ : Rho} {σ σ₀ : Hp}
theorem boolW_sound {f : Expr → Hp → EQ → Prop} {op : BoolOp} {pos : Pos} (hf : ∀ e σ Q, f e σ Q → WF P A env (eval e env) ρ σ fun v => Q (norm v)) : ∀ (es : List Expr) (σ : Hp) (Q : EQ), boolW f op es σ Q →
    WF P A env (boolOp pos op (evalEach es env)) ρ σ fun v => Q (norm v)
  | [], _, _, h => h.elim
  | [e], σ, Q, h => hf e σ Q h
  | e :: e' :: r, σ, Q, h => by
    show WF P A env (do let v ← eval e env; standAt pos; let t ← holding [v] (truthy v); match op, t with | .And, false | .Or, true => pure v | _, _ => boolOp pos op (evalEach (e' :: r) env)) ρ σ _
    refine Wf.bind (Wf.mono (hf e σ _ h) fun v σ' q => ?_)
    split at q
    · rename_i b hb
      cases norm_bool hb
      intro F s X
      refine wpAny_bind (wpAny_standAt (wpAny_bind (wpAny_holding (wpAny_truthy_bool ?_))))
      split at q
      · exact wpAny_pure ⟨σ', X, q⟩
      · exact wpAny_pure ⟨σ', X, q⟩
      · rename_i h1 h2
        have := boolW_sound (op := op) (pos := pos) hf (e' :: r) σ' Q q F s X
        cases op <;> cases b <;> first | exact this | exact absurd rfl (h1 rfl) | exact absurd rfl (h2 rfl)
    · cases q
theorem allW_sound {f : Expr → Hp → TQ → Prop} {op : BoolOp} (hf : ∀ e σ Q, f e σ Q → WF P A env (isTrue e env (eval e env)) ρ σ Q) : ∀ (es : List Expr) (σ : Hp) (Q : TQ), allW f op es σ Q →
    WF P A env (allTrue op es env) ρ σ Q
  | [], σ, Q, h => Wf.pure h
  | e :: r, σ, Q, h => by
    show WF P A env (do match op, ← isTrue e env (eval e env) with | .And, false => pure false | .Or, true => pure true | _, _ => allTrue op r env) ρ σ _
    refine Wf.bind (Wf.mono (hf e σ _ h) fun b σ' q => ?_)
    split at q
    · exact Wf.pure q
    · exact Wf.pure q
    · rename_i h1 h2
      have := allW_sound (op := op) hf r σ' Q q
      cases op <;> cases b <;> first | exact this | exact absurd rfl (h1 rfl) | exact absurd rfl (h2 rfl)
theorem WX.expr {e : Expr} {pos : Pos} {Q : SQ} (hE : EnvP P env) (hs : isCompE e = false) (h : WF P A env (eval e env) ρ σ fun v σ => notRef (norm v) = true ∧ Q .next ρ σ) : WX P A env (exec (.Expr e pos) env) ρ σ Q := fun F s X =>
  wpAny_Expr (wpAny_mono (h F s X) (fun v s1 ⟨σ1, X1, q1, q2⟩ => by
    cases v <;> first | exact ⟨σ1, ρ, X1, q2⟩ | cases q1) fun _ _ x => x) (by unfold interactive; rw [hE.fn]; rfl) (isComp_swaps hs)
theorem execs_sound {f : Stmt → Rho → Hp → SQ → Prop} (hf : ∀ st ρ σ Q, f st ρ σ Q → WX P A env (exec st env) ρ σ Q) : ∀ (ss : List Stmt) (ρ : Rho) (σ : Hp) (Q : SQ), exsW f ss ρ σ Q → WX P A env (execs ss env) ρ σ Q
  | [], ρ, σ, Q, h => fun F s X => wpAny_execs_nil ⟨σ, ρ, X, h⟩
  | st :: r, ρ, σ, Q, h => fun F s X => wpAny_execs_cons (wpAny_mono (hf st ρ σ _ h F s X) (fun fl s1 rP => e2a2 rP fun σ1 ρ1 X1 q => by
      cases fl with
      | next => exact execs_sound hf r ρ1 σ1 Q q F s1 X1
      | cont => exact ⟨σ1, ρ1, X1, q⟩
      | brk => exact ⟨σ1, ρ1, X1, q⟩
      | ret v => exact ⟨σ1, ρ1, X1, q⟩) fun _ _ x => x)
theorem isM1_is {e : Expr} (h : isM1 e = true) : ∃ c p1 p2, e = .UnaryOp .USub (.Constant (.int 1) c p1) p2 := by
  replace h : (match unOf e with
    | some (.USub, x, _) => (match conOf x with | some (.int i, _) => i == 1 | _ => false)
    | _ => false) = true := h
  revert h
  cases hu : unOf e with
  | none => exact fun h => Bool.noConfusion h
  | some r =>
    rw [unOf_is hu]
    obtain ⟨op, x, p⟩ := r
    cases op <;> first | exact fun h => Bool.noConfusion h | skip
    show (match conOf x with | some (.int i, _) => i == 1 | _ => false) = true → _
    cases hc : conOf x with
    | none => exact fun h => Bool.noConfusion h
    | some r =>
      rw [conOf_is hc]
      obtain ⟨c, k, q⟩ := r
      cases c <;> first | exact fun h => Bool.noConfusion h | skip
      intro h
      cases (eq_of_beq h)
      exact ⟨_, _, _, rfl⟩
theorem sliceK_is {i : Expr} : match sliceK i with
    | .plain => notSlice3 i = true
    | .upto u => ∃ p, i = .Slice none (some u) none p
    | .rev => ∃ c p1 p2 p, i = .Slice none none (some (.UnaryOp .USub (.Constant (.int 1) c p1) p2)) p
    | .bad => True := by
  cases i with
  | Slice l u s p => cases l with
    | some _ => exact True.intro
    | none => cases u with
      | some u => cases s with
        | some _ => exact True.intro
        | none => exact ⟨p, rfl⟩
      | none => cases s with
        | none => exact True.intro
        | some e =>
          cases h : isM1 e with
          | true =>
            obtain ⟨c, p1, p2, rfl⟩ := isM1_is h
            exact ⟨c, p1, p2, p, rfl⟩
          | false =>
            have e1 : sliceK (.Slice none none (some e) p) = .bad := by show (if isM1 e then SliceK.rev else SliceK.bad) = _; rw [h]; rfl
            rw [e1]; exact True.intro
  | _ => exact (rfl : true = true)
theorem sliceK_plain {i : Expr} (h : sliceK i = .plain) : notSlice3 i = true := by have := @sliceK_is i; rw [h] at this; exact this
theorem sliceK_upto {i u : Expr} (h : sliceK i = .upto u) : ∃ p, i = .Slice none (some u) none p := by have := @sliceK_is i; rw [h] at this; exact this
theorem sliceK_rev {i : Expr} (h : sliceK i = .rev) : ∃ c p1 p2 p, i = .Slice none none (some (.UnaryOp .USub (.Constant (.int 1) c p1) p2)) p := by have := @sliceK_is i; rw [h] at this; exact this
noncomputable def EvS (P : Px) (n : Nat) (env : Env) (A : Around) (ρ : Rho) (σ : Hp) (Q : EQ) (e : Expr) : Prop := ev P (n + 1) e ρ σ Q → WF P A env (eval e env) ρ σ fun v => Q (norm v)
theorem EvS.no {P : Px} {n : Nat} {env : Env} {A : Around} {ρ : Rho} {σ : Hp} {Q : EQ} {e : Expr} (h : ev P (n + 1) e ρ σ Q → False) : EvS P n env A ρ σ Q e := fun x => (h x).elim
noncomputable def TsS (P : Px) (n : Nat) (env : Env) (A : Around) (ρ : Rho) (σ : Hp) (Q : TQ) (e : Expr) : Prop := tst P (n + 1) e ρ σ Q → WF P A env (isTrue e env (eval e env)) ρ σ Q
theorem TsS.no {P : Px} {n : Nat} {env : Env} {A : Around} {ρ : Rho} {σ : Hp} {Q : TQ} {e : Expr} (h : tst P (n + 1) e ρ σ Q → False) : TsS P n env A ρ σ Q e := fun x => (h x).elim
noncomputable def ExS (P : Px) (n : Nat) (env : Env) (A : Around) (ρ : Rho) (σ : Hp) (Q : SQ) (st : Stmt) : Prop := ex P (n + 1) st ρ σ Q → WX P A env (exec st env) ρ σ Q
theorem ExS.no {P : Px} {n : Nat} {env : Env} {A : Around} {ρ : Rho} {σ : Hp} {Q : SQ} {st : Stmt} (h : ex P (n + 1) st ρ σ Q → False) : ExS P n env A ρ σ Q st := fun x => (h x).elim
/-- one step more of the tree -/
theorem ev_step (n : Nat) (ih : EvOk n) (iht : TsOk n) : EvOk (n + 1) := by
  intro P B env A hA hE e ρ σ Q
  have hf : ∀ (e : Expr) (σ : Hp) (Q : EQ), ev P n e ρ σ Q → WF P A env (eval e env) ρ σ fun v => Q (norm v) := fun e σ Q h => ih P B env A hA hE e ρ σ Q h
  have ht : ∀ (e : Expr) (σ : Hp) (Q : TQ), tst P n e ρ σ Q → WF P A env (isTrue e env (eval e env)) ρ σ Q := fun e σ Q h => iht P B env A hA hE e ρ σ Q h
  show EvS P n env A ρ σ Q e
  cases e with
  | Constant c k p => exact fun h => (constP_sound h)
  | Name x p => exact fun h => (nameP_sound B hE h)
  | BinOp l op r p => exact fun h => (WF.binop (WFn (hf _ _ _ h) fun a σ h => WFn (hf _ _ _ h) fun b σ h => (binP_sound B h).lift))
  | UnaryOp op x p => cases op with
    | USub => exact fun h => (WF.usub (hf _ _ _ h))
    | _ => exact .no id
  | BoolOp op es p => exact fun h => (boolW_sound hf _ _ _ h)
  | Compare l ops rs p => cases ops with
    | nil => exact .no id
    | cons op ops => cases ops with
      | cons _ _ => exact .no id
      | nil => cases rs with
        | nil => exact .no id
        | cons r rs => cases rs with
          | cons _ _ => exact .no id
          | nil => exact fun h => (WF.cmp h.1 (WFn (hf _ _ _ h.2) fun a σ h => WFn (hf _ _ _ h) fun b σ h => (cmpP_sound hA h).lift))
  | IfExp t a b p => exact fun h => (WF.ifexp (WFn (ht _ _ _ h) fun c σ h => by cases c <;> exact hf _ _ _ h))
  | Attribute o x p => exact fun h => (WF.attr h.1 (WFn (hf _ _ _ h.2) fun v σ h => (attrP_sound B h.out).lift))
  | Subscript v i p =>
    intro h
    replace h : (match sliceK i with
      | .plain => ev P n v ρ σ fun a σ => ev P n i ρ σ fun b σ => Hold (getP a b σ Q)
      | .upto u => ev P n v ρ σ fun a σ => ev P n u ρ σ fun b σ => Hold (uptoP P.C a b σ Q)
      | .rev => ev P n v ρ σ fun a σ => Hold (revP a σ Q)
      | .bad => False) := h
    revert h
    cases e : sliceK i with
    | plain => exact fun h => (WF.sub (WFn (hf _ _ _ h) fun a σ h => WFn (hf _ _ _ h) fun b σ h => (getP_sound (sliceK_plain e) h.out).lift))
    | upto u =>
      intro h
      obtain ⟨p, rfl⟩ := sliceK_upto e
      exact (WF.upto B (WFn (hf _ _ _ h) fun a σ h => WFn (hf _ _ _ h) fun b σ h => h.out))
    | rev =>
      intro h
      obtain ⟨c, p1, p2, p, rfl⟩ := sliceK_rev e
      exact (WF.rev B (WFn (hf _ _ _ h) fun a σ h => h.out))
    | bad => exact fun h => False.elim h
  | Dict ks vs p => cases ks with
    | nil => cases vs with
      | nil => exact fun h => (WF.dict0 B h)
      | cons _ _ => exact .no id
    | cons k ks => exact fun h => (WF.dict B hf h.1 h.2)
  | List es p => exact fun h => (WF.list B (WFn (evs_sound hf _ _ _ h.1.1 h.2) fun vs σ h2 => ⟨by rw [h2.1]; have := h.1.2; omega, h2.2⟩))
  | Tuple es k p => exact fun h => (WF.tuple B (WFn (evs_sound hf _ _ _ h.1.1 h.2) fun vs σ h2 => ⟨by rw [h2.1]; have := h.1.2; omega, h2.2⟩))
  | ListComp elt gens sc p => cases gens with
    | nil => exact .no id
    | cons g gens => cases g with
      | mk tgt iter ifs k => cases tgt with
        | Name x px => cases gens with
          | cons _ _ => exact .no id
          | nil =>
            intro h
            obtain ⟨⟨rfl, h0, h1⟩, h⟩ := h
            exact WF.comp (fe := ev { P with ns := relN sc.names P.ns, fz := true } n) (ft := tst { P with ns := relN sc.names P.ns, fz := true } n) B hA hE (compOk_of h0) h1 (fun env' hE' e ρ σ Q h => ih { P with ns := relN sc.names P.ns, fz := true } B env' A hA hE' e ρ σ Q h) (fun env' hE' e ρ σ Q h => iht { P with ns := relN sc.names P.ns, fz := true } B env' A hA hE' e ρ σ Q h) (WFn (hf _ _ _ h) fun v σ h => h.out)
        | _ => exact .no id
  | Call f args kws pos => cases f with
    | Attribute o m ap => cases kws with
      | cons _ _ => exact .no id
      | nil =>
        intro h
        refine WF.callMeth B h.1.1 h.1.2.1 h.1.2.2.1 h.1.2.2.2 (WFn (hf _ _ _ h.2) fun v σ h2 => ?_)
        replace h2 := h2.out
        unfold methK at h2
        split at h2
        · rename_i f hm
          have hp : norm f = f := by
            unfold methP at hm
            split at hm
            · split at hm
              · split at hm
                · split at hm
                  · obtain ⟨a, _, rfl⟩ := Option.map_eq_some_iff.mp hm; rfl
                  · cases hm
                · cases hm
              · repeat' split at hm
                all_goals first | (cases hm; rfl) | cases hm
              · repeat' split at hm
                all_goals first | (cases hm; rfl) | cases hm
              · cases hm
            · cases hm
          exact ⟨f, fun pl Q' q => methP_sound B hm q, WFn (evs_sound hf _ _ _ h.1.2.1 h2) fun vs σ h3 => callV_sound B hA hE (vs := v :: vs) (by rw [hp]; exact h3.2)⟩
        · cases h2
    | Name f p => cases kws with
      | cons _ _ => exact .no id
      | nil => exact fun h => (WF.callName B h.1.1 (WFn (nameP_sound B hE h.2) fun fv σ h2 => WFn (evs_sound hf _ _ _ h.1.1 h2) fun vs σ h3 => callV_sound B hA hE h3.2))
    | _ => exact .no id
  | _ => exact .no id
theorem tst_step (n : Nat) (ih : EvOk n) (iht : TsOk n) : TsOk (n + 1) := by
  intro P B env A hA hE e ρ σ Q
  have hf : ∀ (e : Expr) (σ : Hp) (Q : EQ), ev P n e ρ σ Q → WF P A env (eval e env) ρ σ fun v => Q (norm v) := fun e σ Q h => ih P B env A hA hE e ρ σ Q h
  have ht : ∀ (e : Expr) (σ : Hp) (Q : TQ), tst P n e ρ σ Q → WF P A env (isTrue e env (eval e env)) ρ σ Q := fun e σ Q h => iht P B env A hA hE e ρ σ Q h
  have plain : ∀ {e : Expr}, (∀ whole, isTrue e env whole = (do let v ← whole; standAt e.pos; holding [v] (truthy v))) → WF P A env (eval e env) ρ σ (fun v σ => match norm v with | .bool b => Q b σ | _ => False) → WF P A env (isTrue e env (eval e env)) ρ σ Q := fun he h F s X => by
    rw [he]
    refine wpAny_bind (wpAny_mono (h F s X) (fun v s1 rP => e1a2 rP fun σ1 X1 q => wpAny_bind (wpAny_standAt (wpAny_holding ?_))) fun _ _ x => x)
    dsimp only at q
    split at q
    · rename_i b hb
      cases norm_bool hb
      exact wpAny_truthy_bool ⟨σ1, X1, q⟩
    · cases q
  show TsS P n env A ρ σ Q e
  cases e with
  | BoolOp op es p => exact fun h => (allW_sound ht _ _ _ h)
  | Compare l ops rs p => cases ops with
    | nil => exact .no id
    | cons op ops => cases ops with
      | cons _ _ => exact .no id
      | nil => cases rs with
        | nil => exact .no id
        | cons r rs => cases rs with
          | cons _ _ => exact .no id
          | nil => exact fun h => (WF.tcmp h.1 (WFn (hf _ _ _ h.2) fun a σ h => WFn (hf _ _ _ h) fun b σ h => (cmpP_bool (P := P) hA h).lift))
  | Name x p =>
    intro h
    have h : nameP P x ρ σ fun v σ => match v with | .bool b => Q b σ | _ => False := h
    exact (plain (fun _ => rfl) (nameP_sound B hE h))
  | Call f args kws p => exact fun h => (plain (fun _ => rfl) (hf _ _ _ h))
  | _ => exact .no id
theorem ev_all : ∀ n, EvOk n ∧ TsOk n
  | 0 => ⟨fun _ _ _ _ _ _ _ _ _ _ h => h.elim, fun _ _ _ _ _ _ _ _ _ _ h => h.elim⟩
  | n + 1 => ⟨ev_step n (ev_all n).1 (ev_all n).2, tst_step n (ev_all n).1 (ev_all n).2⟩
noncomputable abbrev ExOk (n : Nat) : Prop := ∀ (P : Px) (_ : Bs P.C) (env : Env) (A : Around) (_ : AOk P.k A) (_ : EnvP P env) (st : Stmt) (ρ : Rho) (σ : Hp) (Q : SQ), ex P n st ρ σ Q → WX P A env (exec st env) ρ σ Q
theorem ex_step (n : Nat) (ih : ExOk n) : ExOk (n + 1) := by
  intro P B env A hA hE st ρ σ Q
  have hf : ∀ (e : Expr) (ρ : Rho) (σ : Hp) (Q : EQ), ev P n e ρ σ Q → WF P A env (eval e env) ρ σ fun v => Q (norm v) := fun e ρ σ Q h => (ev_all n).1 P B env A hA hE e ρ σ Q h
  have ht : ∀ (e : Expr) (ρ : Rho) (σ : Hp) (Q : TQ), tst P n e ρ σ Q → WF P A env (isTrue e env (eval e env)) ρ σ Q := fun e ρ σ Q h => (ev_all n).2 P B env A hA hE e ρ σ Q h
  have hx : ∀ (ss : List Stmt) (ρ : Rho) (σ : Hp) (Q : SQ), exsW (ex P n) ss ρ σ Q → WX P A env (execs ss env) ρ σ Q := execs_sound fun st ρ σ Q h => ih P B env A hA hE st ρ σ Q h
  show ExS P n env A ρ σ Q st
  cases st with
  | Expr e p => exact fun h => (WX.expr hE h.1 (hf _ _ _ _ h.2))
  | Assign tgts e pos => cases tgts with
    | nil => exact .no id
    | cons tgt tgts => cases tgts with
      | cons _ _ => cases tgt <;> exact .no id
      | nil => cases tgt with
        | Name x px =>
          cases hc : isCompE e with
          | false => exact fun h => WX.assignName hE (isComp_swaps hc) (hf _ _ _ _ h)
          | true =>
            cases n with
            | zero => exact .no id
            | succ n => cases e with
              | ListComp elt gens sc p =>
                rcases listcomp_swaps (env := env) (elt := elt) (gens := gens) (sc := sc) (p := p) (x := x) (px := px) (line := pos.line) with hs | hs
                · exact fun h => (WX.assignName hE hs (hf _ _ _ _ h))
                · cases gens with
                  | nil => exact .no id
                  | cons g gens => cases g with
                    | mk tgt iter ifs k => cases tgt with
                      | Name x' px' => cases gens with
                        | cons _ _ => exact .no id
                        | nil =>
                          intro h
                          obtain ⟨⟨rfl, h0, h1⟩, h⟩ := h
                          exact WX.compUsed (fe := ev { P with ns := relN sc.names P.ns, fz := true } n) (ft := tst { P with ns := relN sc.names P.ns, fz := true } n) B hA hE (compOk_of h0) h1 hs (fun env' hE' e ρ σ Q h => (ev_all n).1 { P with ns := relN sc.names P.ns, fz := true } B env' A hA hE' e ρ σ Q h) (fun env' hE' e ρ σ Q h => (ev_all n).2 { P with ns := relN sc.names P.ns, fz := true } B env' A hA hE' e ρ σ Q h) (WFn ((ev_all n).1 P B env A hA hE _ _ _ _ h) fun v σ h => h.out)
                      | _ => exact .no id
              | SetComp _ _ _ _ => exact .no id
              | DictComp _ _ _ _ _ => exact .no id
              | _ => exact Bool.noConfusion hc
        | Attribute o x p => exact fun h => (WX.assignAttr (WFn (hf _ _ _ _ h.2) fun v σ h => WFn (hf _ _ _ _ h) fun ov σ h => (setattrP_sound B h.out).lift))
        | Subscript o i p => exact fun h => (WX.assignSub h.1.1 (WFn (hf _ _ _ _ h.2) fun v σ h => WFn (hf _ _ _ _ h) fun ov σ h => WFn (hf _ _ _ _ h) fun iv σ h => (setP_sound h.out).lift))
        | Tuple ts k p =>
          intro h
          refine (WX.assignTup hA.handled hE h.1.1 h.1.2.1 h.1.2.2 (WFn (hf _ _ _ _ h.2) fun v σ h => ?_))
          replace h := h.out
          unfold tupA at h
          split at h
          · rename_i a ha
            split at h
            · rename_i xs hxs; exact ⟨a, xs, ha, hxs, h⟩
            · cases h
          · cases h
        | _ => exact .no id
  | If t b o p =>
    intro h F s X
    refine wpAny_If (wpAny_mono (ht _ _ _ _ h F s X) (fun c s1 rP => e1a2 rP fun σ1 X1 q => ?_) fun _ _ x => x)
    cases c
    · simp only [Bool.false_eq_true, if_false]; exact hx _ _ _ _ q F s1 X1
    · simp only [if_true]; exact hx _ _ _ _ q F s1 X1
  | Return e p => cases e with
    | none => exact .no id
    | some e => exact fun h F s X => wpAny_Return_some (wpAny_mono (hf _ _ _ _ h F s X) (fun v s1 rP => e1a2 rP fun σ1 X1 q => ⟨σ1, ρ, X1, q⟩) fun _ _ x => x)
  | Continue p => exact fun h F s X => wpAny_bind (wpAny_standAt (wpAny_pure ⟨σ, ρ, X, h⟩))
  | While t b o p => cases o with
    | cons _ _ => exact .no id
    | nil =>
      intro h
      obtain ⟨m, h⟩ := h
      exact (while_sound (fun ρ σ Q => ht _ ρ σ Q) (fun ρ σ Q => hx _ ρ σ Q) h)
  | For tgt iter b o p => cases o with
    | cons _ _ => exact .no id
    | nil => exact fun h => (for_sound B hA.handled hE (fun ρ σ Q => hx _ ρ σ Q) (isSetE_ne h.1) (WFn (hf _ _ _ _ h.2) fun v σ h => h.out))
  | _ => exact .no id
theorem ex_all : ∀ n, ExOk n
  | 0 => fun _ _ _ _ _ _ _ _ _ _ h => h.elim
  | n + 1 => ex_step n (ex_all n)
end
/-- a function of the text does what its body asks -/
theorem fn_sound {C : Cx} (B : Bs C) {k : Nat} {a : Addr} {sc : Scope} {ps : List Str} {body : List Stmt} {vs : List Value} {σ : Hp} {Q : EQ} (H : FnAt C a sc ps body) (hd : sc.names.lookup ("__debug__" : Str) = none) (n : Nat) (hl : vs.length = ps.length)
    (h : exsW (ex ⟨C, k, sc.names, false⟩ n) body (bindV ps vs fun _ => none) σ fun f _ σ => Q (valOf f) σ) : Sp C (k + 1) (.ref a) vs σ Q := by
  refine call_fn B H hl fun A env hA hE => ?_
  have hE' : EnvP ⟨C, k, sc.names, false⟩ env := ⟨hE.fn', fun x => hE.kind x, hE.glob, hE.blt, hd⟩
  refine Wr.mono (execs_sound (P := ⟨C, k, sc.names, false⟩) (fun st ρ σ Q h => ex_all n ⟨C, k, sc.names, false⟩ B env A hA hE' st ρ σ Q h) body _ σ _ h) fun f ρ' σ' q => ?_
  have e : norm (valOf f) = valOf (nfl f) := by cases f <;> rfl
  rw [e]; exact q
end Mine
namespace Mine
/-! one step of the tree at a time, what lies below it held -/
theorem hold_eq (p : Prop) : Hold p = p := propext ⟨fun h => h.out, fun h => ⟨h⟩⟩
noncomputable def hev (n : Nat) (P : Px) (ρ : Rho) (e : Expr) (σ : Hp) (Q : EQ) : Prop := Hold (ev P n e ρ σ Q)
noncomputable def htst (n : Nat) (P : Px) (ρ : Rho) (e : Expr) (σ : Hp) (Q : TQ) : Prop := Hold (tst P n e ρ σ Q)
noncomputable def hex (P : Px) (n : Nat) (st : Stmt) (ρ : Rho) (σ : Hp) (Q : SQ) : Prop := Hold (ex P n st ρ σ Q)
theorem hev_eq (n : Nat) : hev n = fun P ρ e σ Q => ev P n e ρ σ Q := by funext P ρ e σ Q; exact hold_eq _
theorem htst_eq (n : Nat) : htst n = fun P ρ e σ Q => tst P n e ρ σ Q := by funext P ρ e σ Q; exact hold_eq _
theorem hex_eq (P : Px) (n : Nat) : hex P n = ex P n := by funext st ρ σ Q; exact hold_eq _
noncomputable def evF (P : Px) (fe : Px → Rho → Expr → Hp → EQ → Prop) (ft : Px → Rho → Expr → Hp → TQ → Prop) (e : Expr) (ρ : Rho) (σ : Hp) (Q : EQ) : Prop := match e with
    | .Constant c _ _ => constP c σ Q
    | .Name x _ => nameP P x ρ σ Q
    | .BinOp l op r _ => fe P ρ l σ fun a σ => fe P ρ r σ fun b σ => binP op a b σ Q
    | .UnaryOp .USub x _ => fe P ρ x σ fun v σ => match v with | .int i _ => Q (vi (-i)) σ | _ => False
    | .BoolOp op es _ => boolW (fe P ρ) op es σ Q
    | .Compare l [op] [r] _ => behindInMarks op r = false ∧ fe P ρ l σ fun a σ => fe P ρ r σ fun b σ => cmpP op a b σ fun c => Q (.bool c) σ
    | .IfExp t a b _ => ft P ρ t σ fun c σ => match c with | true => fe P ρ a σ Q | false => fe P ρ b σ Q
    | .Attribute o x _ => isCallE o = false ∧ fe P ρ o σ fun v σ => Hold (attrP v x σ Q)
    | .Subscript v i _ => match sliceK i with
      | .plain => fe P ρ v σ fun a σ => fe P ρ i σ fun b σ => Hold (getP a b σ Q)
      | .upto u => fe P ρ v σ fun a σ => fe P ρ u σ fun b σ => Hold (uptoP P.C a b σ Q)
      | .rev => fe P ρ v σ fun a σ => Hold (revP a σ Q)
      | .bad => False
    | .Dict [] [] _ => ∀ d ep, σ d = none → Q (.ref d) (upd σ d (.dict [] ep))
    | .Dict (k :: ks) vs _ => ((k :: ks).length ≤ 15 ∧ (k :: ks).all (·.isSome) = true ∧ (k :: ks).length = vs.length) ∧ ∀ d, σ d = none → dictW (fe P ρ) (k :: ks) vs (upd σ d (.sd [])) fun l σ =>
        σ d = some (.sd []) ∧ (l.map (·.1)).Nodup ∧ Q (.ref d) (upd σ d (.sd l))
    | .List es _ => (isSlotM es = true ∧ es.length ≤ 20) ∧ evsW (fe P ρ) es σ fun vs σ => ∀ c, σ c = none → Q (.ref c) (upd σ c (.list vs))
    | .Tuple es _ _ => (isSlotM es = true ∧ es.length ≤ 20) ∧ evsW (fe P ρ) es σ fun vs σ => ∀ c, σ c = none → Q (.ref c) (upd σ c (.tup vs))
    | .ListComp elt [⟨.Name x px, iter, ifs, k⟩] sc _ => (k = 0 ∧ compOk sc P.ns = true ∧ isSetE iter = false) ∧ fe P ρ iter σ fun v σ => Hold (compS P x px ifs elt sc (fun e ρ => fe { P with ns := relN sc.names P.ns, fz := true } ρ e) (fun e ρ => ft { P with ns := relN sc.names P.ns, fz := true } ρ e) ρ v σ Q)
    | .Call (.Attribute o m ap) args [] pos => (isCallE o = false ∧ isSlotM args = true ∧ args.length ≤ 20 ∧ ap.endLine = pos.line) ∧ fe P ρ o σ fun v σ => Hold (methK v m σ fun f => evsW (fe P ρ) args σ fun vs σ => callV P f (v :: vs) σ Q)
    | .Call (.Name f p) args [] _ => (isSlotM args = true ∧ args.length ≤ 20) ∧ nameP P f ρ σ fun fv σ => evsW (fe P ρ) args σ fun vs σ => callV P fv vs σ Q
    | _ => False
noncomputable def evB (P : Px) (n : Nat) (e : Expr) (ρ : Rho) (σ : Hp) (Q : EQ) : Prop := evF P (hev n) (htst n) e ρ σ Q
theorem ev_h {P : Px} {n : Nat} {e : Expr} {ρ : Rho} {σ : Hp} {Q : EQ} (h : evB P n e ρ σ Q) : Hold (ev P (n + 1) e ρ σ Q) := by
  replace h : evF P (hev n) (htst n) e ρ σ Q := h
  rw [hev_eq, htst_eq] at h
  exact ⟨by cases e <;> exact h⟩
noncomputable def tstF (P : Px) (fe : Px → Rho → Expr → Hp → EQ → Prop) (ft : Px → Rho → Expr → Hp → TQ → Prop) (e : Expr) (ρ : Rho) (σ : Hp) (Q : TQ) : Prop := match e with
    | .BoolOp op es _ => allW (ft P ρ) op es σ Q
    | .Compare l [op] [r] _ => behindInMarks op r = false ∧ fe P ρ l σ fun a σ => fe P ρ r σ fun b σ => cmpP op a b σ fun c => Q c σ
    | .Name x _ => nameP P x ρ σ fun v σ => match v with | .bool b => Q b σ | _ => False
    | .Call f args kws pos => fe P ρ (.Call f args kws pos) σ fun v σ => match v with | .bool b => Q b σ | _ => False
    | _ => False
noncomputable def tstB (P : Px) (n : Nat) (e : Expr) (ρ : Rho) (σ : Hp) (Q : TQ) : Prop := tstF P (hev n) (htst n) e ρ σ Q
theorem tst_h {P : Px} {n : Nat} {e : Expr} {ρ : Rho} {σ : Hp} {Q : TQ} (h : tstB P n e ρ σ Q) : Hold (tst P (n + 1) e ρ σ Q) := by
  replace h : tstF P (hev n) (htst n) e ρ σ Q := h
  rw [hev_eq, htst_eq] at h
  exact ⟨by cases e <;> exact h⟩
noncomputable def exF (P : Px) (fe : Px → Rho → Expr → Hp → EQ → Prop) (ft : Px → Rho → Expr → Hp → TQ → Prop) (fx : Stmt → Rho → Hp → SQ → Prop) (st : Stmt) (ρ : Rho) (σ : Hp) (Q : SQ) : Prop := match st with
    | .Expr e _ => isCompE e = false ∧ fe P ρ e σ fun v σ => notRef v = true ∧ Q .next ρ σ
    | .Assign [.Name x _] e _ => fe P ρ e σ fun v σ => asg P x v ρ fun ρ => Q .next ρ σ
    | .Assign [.Attribute o x _] e _ => (isSlotM [] = true ∧ isCallE o = false) ∧ fe P ρ e σ fun v σ => fe P ρ o σ fun ov σ => Hold (setattrP ov x v σ fun σ => Q .next ρ σ)
    | .Assign [.Subscript o i _] e _ => (isCompE e = false ∧ notSlice3 i = true) ∧ fe P ρ e σ fun v σ => fe P ρ o σ fun ov σ => fe P ρ i σ fun iv σ => Hold (setP ov iv v σ fun σ => Q .next ρ σ)
    | .Assign [.Tuple ts _ _] e _ => (isCompE e = false ∧ tupOk e = true ∧ (namesT ts).Nodup) ∧ fe P ρ e σ fun v σ => Hold (tupA P ts v ρ σ fun ρ => Q .next ρ σ)
    | .If t b o _ => ft P ρ t σ fun c σ => match c with | true => exsW (fx) b ρ σ Q | false => exsW (fx) o ρ σ Q
    | .Return (some e) _ => fe P ρ e σ fun v σ => Q (.ret v) ρ σ
    | .Continue _ => Q .cont ρ σ
    | .While t b [] _ => ∃ m, whP (fun ρ => ft P ρ t) (exsW (fx) b) m ρ σ Q
    | .For tgt iter b [] _ => isSetE iter = false ∧ fe P ρ iter σ fun v σ => Hold (forP P tgt (exsW (fx) b) v ρ σ Q)
    | _ => False
noncomputable def exB (P : Px) (n : Nat) (st : Stmt) (ρ : Rho) (σ : Hp) (Q : SQ) : Prop := exF P (hev n) (htst n) (hex P n) st ρ σ Q
theorem ex_h {P : Px} {n : Nat} {st : Stmt} {ρ : Rho} {σ : Hp} {Q : SQ} (h : exB P n st ρ σ Q) : Hold (ex P (n + 1) st ρ σ Q) := by
  replace h : exF P (hev n) (htst n) (hex P n) st ρ σ Q := h
  rw [hev_eq, htst_eq, hex_eq] at h
  exact ⟨by cases st <;> exact h⟩
theorem exs_h {f : Stmt → Rho → Hp → SQ → Prop} {st : Stmt} {r : List Stmt} {ρ : Rho} {σ : Hp} {Q : SQ} (h : f st ρ σ (nxt (exsW f r) Q)) : exsW f (st :: r) ρ σ Q := h
theorem fn_soundH {C : Cx} (B : Bs C) {k : Nat} {a : Addr} {sc : Scope} {ps : List Str} {body : List Stmt} {vs : List Value} {σ : Hp} {Q : EQ} (H : FnAt C a sc ps body) (hd : sc.names.lookup ("__debug__" : Str) = none) (n : Nat) (hl : vs.length = ps.length)
    (h : exsW (hex ⟨C, k, sc.names, false⟩ n) body (bindV ps vs fun _ => none) σ fun f _ σ => Q (valOf f) σ) : Sp C (k + 1) (.ref a) vs σ Q := fn_sound B H hd n hl (by rwa [hex_eq] at h)
/-- how a walk begins -/
theorem fn_startP {C : Cx} (B : Bs C) {k : Nat} {a : Addr} {ns : Ns} {ps : List Str} {body : List Stmt} {st : Stmt} {r : List Stmt} {vs : List Value} {σ : Hp} {Q : EQ} (H : ∃ sc, sc.names = ns ∧ FnAt C a sc ps body) (hd : ns.lookup ("__debug__" : Str) = none) (hl : vs.length = ps.length) (e : body = st :: r)
    (h : exsW (hex ⟨C, k, ns, false⟩ 30) (st :: r) (bindV ps vs fun _ => none) σ fun f _ σ => Q (valOf f) σ) : Sp C (k + 1) (.ref a) vs σ Q := by
  subst e
  refine e1a2 H fun sc e F => ?_
  subst e
  exact fn_soundH B F hd 30 hl h
/-- the same, the frame under a name of its own -/
theorem fn_startL {C : Cx} (B : Bs C) {k : Nat} {a : Addr} {ns : Ns} {ps : List Str} {body : List Stmt} {st : Stmt} {r : List Stmt} {vs : List Value} {σ : Hp} {Q : EQ} (H : ∃ sc, sc.names = ns ∧ FnAt C a sc ps body) (hd : ns.lookup ("__debug__" : Str) = none) (hl : vs.length = ps.length) (e : body = st :: r)
    (h : let P : Px := ⟨C, k, ns, false⟩; exsW (hex P 30) (st :: r) (bindV ps vs fun _ => none) σ fun f _ σ => Q (valOf f) σ) : Sp C (k + 1) (.ref a) vs σ Q := fn_startP B H hd hl e h
end Mine
namespace Mine
set_option maxRecDepth 1000000
/-! the text's defs, by their places -/
noncomputable def topS (i : Nat) : Option Stmt := PySem.Challenge.pw_sa0178_01.main.body[i]?
noncomputable def methS (i j : Nat) : Option Stmt := match topS i with | some (.ClassDef _ _ _ b _ _ _ _ _ _ _) => b[j]? | _ => none
noncomputable def parS : Option Stmt → Arguments | some (.FunctionDef _ a _ _ _ _ _ _ _ _) => a | _ => default
noncomputable def bodS : Option Stmt → List Stmt | some (.FunctionDef _ _ b _ _ _ _ _ _ _) => b | _ => []
noncomputable def scoS : Option Stmt → Scope | some (.FunctionDef _ _ _ _ _ _ c _ _ _) => c | _ => default
noncomputable def mkFD (n q : Str) (d : Option Stmt) (m : Value) (c : Addr) : FuncData := { name := n, qualname := q, params := parS d, body := .stmts (bodS d), scope := scoS d, globals := mainGlobals, closure := [], defaults := .none, kwdefaults := .none, pyModule := m, code := .ref c }
noncomputable def defS (a : Addr) : Option Stmt :=
  if a = 55 then methS 6 0 else if a = 76 then methS 7 0 else if a = 83 then methS 7 1 else if a = 104 then methS 8 0 else if a = 139 then methS 9 0 else if a = 146 then methS 9 1 else if a = 153 then methS 9 2 else if a = 160 then methS 9 3 else if a = 167 then methS 9 4 else if a = 172 then methS 9 5 else if a = 177 then methS 9 6 else if a = 184 then methS 9 7 else if a = 198 then topS 10 else if a = 205 then topS 11 else if a = 212 then topS 12 else if a = 219 then topS 13 else if a = 226 then topS 14 else if a = 233 then topS 15 else if a = 238 then topS 16 else if a = 245 then topS 17 else if a = 250 then topS 18 else if a = 255 then topS 19 else if a = 262 then topS 21 else if a = 267 then topS 22 else if a = 272 then topS 23 else if a = 277 then topS 24 else if a = 282 then topS 25 else none
/-- the functions that the law reaches -/
noncomputable def fnT : List (Addr × FuncData) := [(55, mkFD "__init__" "Allocation.__init__" (methS 6 0) (.str "corecc.alloc" 225) 54), (76, mkFD "__init__" "Pools.__init__" (methS 7 0) (.str "corecc.alloc" 225) 75), (83, mkFD "of" "Pools.of" (methS 7 1) (.str "corecc.alloc" 225) 82), (104, mkFD "__init__" "Spills.__init__" (methS 8 0) (.str "corecc.alloc" 225) 103), (139, mkFD "__init__" "Graph.__init__" (methS 9 0) (.str "corecc.alloc" 225) 138), (146, mkFD "add" "Graph.add" (methS 9 1) (.str "corecc.alloc" 225) 145), (153, mkFD "touch" "Graph.touch" (methS 9 2) (.str "corecc.alloc" 225) 152), (160, mkFD "join" "Graph.join" (methS 9 3) (.str "corecc.alloc" 225) 159), (167, mkFD "leader" "Graph.leader" (methS 9 4) (.str "corecc.alloc" 225) 166), (172, mkFD "leaders" "Graph.leaders" (methS 9 5) (.str "corecc.alloc" 225) 171), (177, mkFD "members" "Graph.members" (methS 9 6) (.str "corecc.alloc" 225) 176), (184, mkFD "merge" "Graph.merge" (methS 9 7) (.str "corecc.alloc" 225) 183), (198, mkFD "is_safe" "is_safe" (topS 10) (.str "corecc.alloc" 225) 197), (205, mkFD "coalesce" "coalesce" (topS 11) (.str "corecc.alloc" 225) 204), (212, mkFD "worth_of" "worth_of" (topS 12) (.str "corecc.alloc" 225) 211), (219, mkFD "cheapest" "cheapest" (topS 13) (.str "corecc.alloc" 225) 218), (226, mkFD "stacked" "stacked" (topS 14) (.str "corecc.alloc" 225) 225), (233, mkFD "mates_of" "mates_of" (topS 15) (.str "corecc.alloc" 225) 232), (238, mkFD "victim_of" "victim_of" (topS 16) (.str "corecc.alloc" 225) 237), (245, mkFD "number_for" "number_for" (topS 17) (.str "corecc.alloc" 225) 244), (250, mkFD "coloured" "coloured" (topS 18) (.str "corecc.alloc" 225) 249), (255, mkFD "finished" "finished" (topS 19) (.str "corecc.alloc" 225) 254), (262, mkFD "_law_draw" "_law_draw" (topS 21) (.str "law_sa0178_01" 550) 261), (267, mkFD "_law_picture" "_law_picture" (topS 22) (.str "law_sa0178_01" 550) 266), (272, mkFD "_law_graph" "_law_graph" (topS 23) (.str "law_sa0178_01" 550) 271), (277, mkFD "_law_is_whole" "_law_is_whole" (topS 24) (.str "law_sa0178_01" 550) 276), (282, mkFD "law" "law" (topS 25) (.str "law_sa0178_01" 550) 281)]
noncomputable def bodyAt (_ : Params) (a : Addr) : List Stmt := bodS (defS a)
noncomputable def nsAt (_ : Params) (a : Addr) : Ns := (scoS (defS a)).names
/-! what the heap behind the top shows -/
noncomputable def reach : List Addr := [2, 3, 15, 17, 18, 20, 21, 22, 29, 31, 32, 34, 35, 36, 37, 38, 39, 49, 51, 52, 54, 55, 56, 57, 58, 59, 60, 70, 72, 73, 75, 76, 77, 79, 80, 82, 83, 84, 85, 86, 87, 88, 98, 100, 101, 103, 104, 105, 107, 108, 110, 111, 112, 114, 115, 117, 118, 119, 120, 121, 122, 123, 133, 135, 136, 138, 139, 140, 142, 143, 145, 146, 147, 149, 150, 152, 153, 154, 156, 157, 159, 160, 161, 163, 164, 166, 167, 168, 171, 172, 173, 176, 177, 178, 180, 181, 183, 184, 185, 186, 187, 188, 189, 192, 194, 195, 197, 198, 199, 201, 202, 204, 205, 206, 208, 209, 211, 212, 213, 215, 216, 218, 219, 220, 222, 223, 225, 226, 227, 229, 230, 232, 233, 234, 237, 238, 239, 241, 242, 244, 245, 246, 249, 250, 251, 254, 255, 256, 258, 259, 261, 262, 263, 266, 267, 268, 271, 272, 273, 276, 277, 278, 281, 282]
noncomputable def fragOf (h : Heap) : List Addr → Frag
  | [] => []
  | a :: r => match h.get? a with | some o => (a, o) :: fragOf h r | none => fragOf h r
theorem fragOf_in (h : Heap) (l : List Addr) : (fragOf h l).In h := by
  induction l with
  | nil => intro a o e; cases e
  | cons b r ih =>
    intro a o e
    unfold fragOf at e
    split at e
    · rename_i ob hb
      rw [List.lookup_cons] at e
      split at e
      · rename_i q
        cases e; rw [beq_iff_eq.mp q]; exact hb
      · exact ih a o e
    · exact ih a o e
noncomputable abbrev ClsV := Option (Option Value) × Option (Option Value) × Bool × Option (Option Value) × Bool × Bool × Option (Option Value) × Option Value
noncomputable def clsV (K : Frag) (a : Addr) : ClsV := (findIn K (.ref a) "__getattribute__", findIn K (.ref a) "__getattr__", hasDictIn K a, findIn K (.ref a) "__setattr__", plainOver K a, makesIn K a, findIn K (.ref a) "__init__", typeIn K (.ref (initOf a)))
noncomputable def clsE (a : Addr) : ClsV := (some (some (.builtin "object.__getattribute__")), some none, true, some (some (.builtin "object.__setattr__")), true, true, some (some (.ref (initOf a))), some (.type "function"))
noncomputable def fdIn (K : Frag) (a : Addr) : Option (FuncData × Bool) := match K.lookup a with | some ⟨_, _, .func fd, _⟩ => some (fd, codeIn K fd.code fd.qualname) | _ => none
noncomputable abbrev SeenT := List ClsV × List (List (Option (Option Value))) × List (List (Option (Option Value) × Option Value)) × List (Option (Option Value)) × List (Option (FuncData × Bool))
noncomputable def clss : List Addr := [58, 86, 121, 187]
/-- all that the proof asks of the written heap -/
noncomputable def seenK (K : Frag) : SeenT := (clss.map (clsV K), clss.map (fun a => (fldOf a).map fun x => findIn K (.ref a) x), clss.map (fun a => (methOf a).map fun p => (findIn K (.ref a) p.1, typeIn K (.ref p.2))),
  ((("law" : Str), Value.none) :: gtab).map (fun p => (nsIn K mainGlobals p.1).map fun v => v.map norm), fnT.map fun p => fdIn K p.1)
noncomputable def goodK : SeenT := (clss.map clsE, clss.map (fun a => (fldOf a).map fun _ => some none), clss.map (fun a => (methOf a).map fun p => (some (some (.ref p.2)), some (.type "function"))),
  some (some (.ref 282)) :: ((gtab.take 20).map (fun p => some (some p.2)) ++ (gtab.drop 20).map fun _ => some none), fnT.map fun p => some (p.2, true))
structure KOk (K : Frag) : Prop where
  seen : seenK K = goodK
noncomputable def HK : Hook := ⟨SeenT, fun s => seenK (fragOf s.heap reach), fun _ => goodK, fun _ h => ∃ K : Frag, K.In h ∧ KOk K, fun _ s e => ⟨_, fragOf_in _ _, ⟨e⟩⟩, fun _ _ _ ⟨K, h, k⟩ i => ⟨K, fun a o e => i a o (h a o e), k⟩⟩
noncomputable def viewQ : Program := { PySem.Challenge.pw_sa0178_01 with main := { PySem.Challenge.pw_sa0178_01.main with body := [0, 2, 4, 5, 6, 7, 8, 9, 10, 11, 12, 13, 14, 15, 16, 17, 18, 19, 21, 22, 23, 24, 25].filterMap fun i => PySem.Challenge.pw_sa0178_01.main.body[i]? } }
/-! the top's run over a tree of objects -/
noncomputable def topRunT (tb : String → Option Builtin) (p : Program) (w : World) (n₀ : Nat) (ann : Option Value) : Nat → SharedT → Thread → Option SharedT
  | 0, _, _ => none
  | n + 1, s, t => match through t with
    | true => some s
    | false => match stepOk n₀ ann t with
      | false => none
      | true => match stepT (denote tb) p w s t with
        | some (s', t') => topRunT tb p w n₀ ann n s' t'
        | none => none
theorem topRun_of {tb : String → Option Builtin} {p : Program} {w : World} {n₀ : Nat} {ann : Option Value} : ∀ {n : Nat} {s s' : SharedT} {t : Thread}, topRunT tb p w n₀ ann n s t = some s' → topRun tb p w n₀ ann n s.abs t = some s'.abs
  | 0, _, _, _, h => no_some h
  | n + 1, s, s', t, h => by
    unfold topRunT at h
    unfold topRun
    cases ht : through t with
    | true => rw [ht] at h; cases h; rfl
    | false =>
      rw [ht] at h
      cases hk : stepOk n₀ ann t with
      | false => rw [hk] at h; cases h
      | true =>
        rw [hk] at h
        cases hs : stepT (denote tb) p w s t with
        | none => rw [hs] at h; cases h
        | some r => obtain ⟨s₂, t₂⟩ := r; rw [hs] at h; rw [stepT_spec hs]; exact topRun_of h
noncomputable def ofL : List Obj → Nat → BT → BT
  | [], _, t => t
  | o :: r, i, t => ofL r (i + 1) (t.ins i o)
noncomputable def bootT (P : Params) : BT := ofL (boot_heap P).objs.toList 0 .nil
theorem bootT_is (P : Params) : absHeap (bootT P) 11 {} = boot_heap P := by kernel_rfl
noncomputable def bootS (w : World) (os : OsState) : SharedT := ⟨bootT w.params, 11, {}, Array.mk [], boot_drawn, boot_toks, os⟩
theorem left_of_tree {p q : Program} {loose : List Str} {Xt : Shared → Bool} {α : Type} {Yf : Shared → α} {Ya : World → α} {N : Nat}
    (e : opening p = plainProg p.main.scope.names) (hN : Nat.ble 600 N = true) (f : ∀ s, fenceModules? p s = some s)
    (h : ∀ w os, (topRunT treeTable p w 11 ((boot_heap w.params).nsMap mainGlobals "__annotations__") N (bootS w os) (topStub p)).map (fun s' =>
        ((boot_heap w.params).isNs mainGlobals && (staticsOk (importedModules p.main.body) (boot_heap w.params) s'.abs.heap && namesBound p s'.abs.heap && gensDone s'.abs && laidKept (boot_heap w.params) s'.abs.heap), openSeen q loose (importedModules p.main.body) Xt true s'.abs, Yf s'.abs)) =
      some (true, openGood q loose, Ya w)) : LeftO p q loose Xt Yf Ya N := fun w => by
  refine e1a2 (Option.map_eq_some_iff.mp (boot_open e hN f w)) fun s₀ a b => ?_
  obtain ⟨hp, gs, d, k, os⟩ := s₀
  have b1 : hp = boot_heap w.params := congrArg Prod.fst b
  have b2 : gs = Array.mk [] := congrArg (fun x => x.2.1) b
  have b3 : d = boot_drawn := congrArg (fun x => x.2.2.1) b
  have b4 : k = boot_toks := congrArg (fun x => x.2.2.2) b
  clear b
  subst b1 b2 b3 b4
  refine e1a2 (Option.map_eq_some_iff.mp (h w os)) fun s' c r => ?_
  have r1 := congrArg Prod.fst r
  have r2 := congrArg (fun x => x.2.1) r
  have r3 := congrArg (fun x => x.2.2) r
  rw [Bool.and_eq_true] at r1
  refine e0a2 r1 fun z1 l1 => ?_
  have R := topRun_of c
  have hs : (bootS w os).abs = ⟨boot_heap w.params, Array.mk [], boot_drawn, boot_toks, os⟩ := congrArg (fun x => (⟨x, Array.mk [], boot_drawn, boot_toks, os⟩ : Shared)) (bootT_is w.params)
  rw [hs] at R
  have z2 : (boot_heap w.params).objs.size = 11 := by kernel_rfl
  have t : topFrom treeTable p w N ⟨boot_heap w.params, Array.mk [], boot_drawn, boot_toks, os⟩ = some s'.abs := by
    unfold topFrom
    dsimp only
    rw [z1, z2, R, show (true && ((Array.mk [] : Array GenState).size == 0)) = true from rfl]
    dsimp only [Option.bind]
    rw [l1]
  unfold openEnds
  rw [a, Option.bind_some, t, Option.map_some]
  exact congrArg some (congr (congrArg Prod.mk r2) r3)
theorem opens_plain : opening PySem.Challenge.pw_sa0178_01 = plainProg PySem.Challenge.pw_sa0178_01.main.scope.names := by kernel_rfl
/-- the top, run once -/
theorem left0 : LeftO PySem.Challenge.pw_sa0178_01 viewQ [] (fun s => xlAt viewQ [] s && recOk (RowW.records PySem.Challenge.rw_sa0178_01.row.toRowW) s) (Hook.obs HK) (Hook.val HK) 4082 :=
  left_of_tree opens_plain rfl (fun s => by kernel_rfl) fun w os => by kernel_rfl
end Mine
namespace Mine
set_option maxRecDepth 100000
theorem map_at {α β : Type} {f g : α → β} {l : List α} (h : l.map f = l.map g) {x : α} {i : Nat} (hx : l[i]? = some x) : f x = g x := List.map_inj_left.mp h x (List.mem_of_getElem? hx)
theorem fn_seen {K : Frag} (h : KOk K) {a : Addr} {fd : FuncData} {i : Nat} (hx : fnT[i]? = some (a, fd)) : ∃ o, K.lookup a = some o ∧ o.data = .func fd ∧ codeIn K fd.code fd.qualname = true := by
  have e : fdIn K a = some (fd, true) := map_at (l := fnT) (f := fun p => fdIn K p.1) (g := fun p : Addr × FuncData => some (p.2, true)) (show fnT.map (fun p => fdIn K p.1) = fnT.map (fun p => some (p.2, true)) from congrArg (fun t : SeenT => t.2.2.2.2) h.seen) hx
  unfold fdIn at e
  split at e
  · rename_i hk
    injection e with e
    injection e with e1 e2
    subst e1
    exact ⟨_, hk, rfl, e2⟩
  · cases e
theorem fnAt_of {C : Cx} (hK : KOk C.K) {a : Addr} {ps : List Str} {fd : FuncData} {b : List Stmt} (i : Nat) (h1 : fnT[i]? = some (a, fd)) (h3 : fd.body = .stmts b)
    (h4 : fd.closure = []) (h5 : fd.globals = mainGlobals) (h6 : fd.builtins = builtinsNs) (h8 : ∀ vs : List Value, vs.length = ps.length → bindArgs fd ⟨vs, []⟩ = pure (ps.zip vs))
    (h9 : fd.scope.kind = .function) (h10 : fd.scope.isCoroutine = false) (h11 : fd.scope.isGenerator = false) (h12 : ∀ p ∈ ps, fd.scope.names.lookup p = some .local ∨ fd.scope.names.lookup p = some .cell) :
    FnAt C a fd.scope ps b := by
  refine e1a3 (fn_seen hK h1) fun o k1 k2 k3 => ?_
  exact ⟨⟨o, fd, k1, k2, h3, h4, rfl, h5, h6, k3, h8⟩, h9, h10, h11, h12⟩
theorem zip2 {fd : FuncData} {p q : Str} (h : ∀ a b : Value, bindArgs fd ⟨[a, b], []⟩ = pure [(p, a), (q, b)]) : ∀ vs : List Value, vs.length = [p, q].length → bindArgs fd ⟨vs, []⟩ = pure ([p, q].zip vs)
  | [a, b], _ => h a b
  | [], h => by cases h
  | [_], h => by cases h
  | _ :: _ :: _ :: _, h => by cases h
theorem zipN0 {fd : FuncData} (h : bindArgs fd ⟨[], []⟩ = pure []) : ∀ vs : List Value, vs.length = ([] : List Str).length → bindArgs fd ⟨vs, []⟩ = pure (([] : List Str).zip vs)
  | [], _ => h
  | _ :: _, h => by cases h
theorem zip1 {fd : FuncData} {p0 : Str} (h : ∀ a0 : Value, bindArgs fd ⟨[a0], []⟩ = pure [(p0, a0)]) : ∀ vs : List Value, vs.length = [p0].length → bindArgs fd ⟨vs, []⟩ = pure ([p0].zip vs)
  | [a0], _ => h a0
  | [], h => by cases h
  | _ :: _ :: _, h => by cases h
theorem zip3 {fd : FuncData} {p0 p1 p2 : Str} (h : ∀ a0 a1 a2 : Value, bindArgs fd ⟨[a0, a1, a2], []⟩ = pure [(p0, a0), (p1, a1), (p2, a2)]) : ∀ vs : List Value, vs.length = [p0, p1, p2].length → bindArgs fd ⟨vs, []⟩ = pure ([p0, p1, p2].zip vs)
  | [a0, a1, a2], _ => h a0 a1 a2
  | [], h => by cases h
  | [_], h => by cases h
  | [_, _], h => by cases h
  | _ :: _ :: _ :: _ :: _, h => by cases h
theorem zip4 {fd : FuncData} {p0 p1 p2 p3 : Str} (h : ∀ a0 a1 a2 a3 : Value, bindArgs fd ⟨[a0, a1, a2, a3], []⟩ = pure [(p0, a0), (p1, a1), (p2, a2), (p3, a3)]) : ∀ vs : List Value, vs.length = [p0, p1, p2, p3].length → bindArgs fd ⟨vs, []⟩ = pure ([p0, p1, p2, p3].zip vs)
  | [a0, a1, a2, a3], _ => h a0 a1 a2 a3
  | [], h => by cases h
  | [_], h => by cases h
  | [_, _], h => by cases h
  | [_, _, _], h => by cases h
  | _ :: _ :: _ :: _ :: _ :: _, h => by cases h
theorem zip6 {fd : FuncData} {p0 p1 p2 p3 p4 p5 : Str} (h : ∀ a0 a1 a2 a3 a4 a5 : Value, bindArgs fd ⟨[a0, a1, a2, a3, a4, a5], []⟩ = pure [(p0, a0), (p1, a1), (p2, a2), (p3, a3), (p4, a4), (p5, a5)]) : ∀ vs : List Value, vs.length = [p0, p1, p2, p3, p4, p5].length → bindArgs fd ⟨vs, []⟩ = pure ([p0, p1, p2, p3, p4, p5].zip vs)
  | [a0, a1, a2, a3, a4, a5], _ => h a0 a1 a2 a3 a4 a5
  | [], h => by cases h
  | [_], h => by cases h
  | [_, _], h => by cases h
  | [_, _, _], h => by cases h
  | [_, _, _, _], h => by cases h
  | [_, _, _, _, _], h => by cases h
  | _ :: _ :: _ :: _ :: _ :: _ :: _ :: _, h => by cases h
theorem fn_55 {C : Cx} (hK : KOk C.K) : ∃ sc, sc.names = nsAt C.w.params 55 ∧ FnAt C 55 sc ["self"] (bodyAt C.w.params 55) :=
  ⟨scoS (defS 55), rfl, fnAt_of (fd := mkFD "__init__" "Allocation.__init__" (methS 6 0) (.str "corecc.alloc" 225) 54) hK 0 (by rfl) (by rfl) (by rfl) (by rfl) (by rfl) (zip1 fun _ => by rfl) (by rfl) (by rfl) (by rfl) (by decide)⟩
theorem fn_76 {C : Cx} (hK : KOk C.K) : ∃ sc, sc.names = nsAt C.w.params 76 ∧ FnAt C 76 sc ["self", "temps", "saved"] (bodyAt C.w.params 76) :=
  ⟨scoS (defS 76), rfl, fnAt_of (fd := mkFD "__init__" "Pools.__init__" (methS 7 0) (.str "corecc.alloc" 225) 75) hK 1 (by rfl) (by rfl) (by rfl) (by rfl) (by rfl) (zip3 fun _ _ _ => by rfl) (by rfl) (by rfl) (by rfl) (by decide)⟩
theorem fn_83 {C : Cx} (hK : KOk C.K) : ∃ sc, sc.names = nsAt C.w.params 83 ∧ FnAt C 83 sc ["self", "graph", "register"] (bodyAt C.w.params 83) :=
  ⟨scoS (defS 83), rfl, fnAt_of (fd := mkFD "of" "Pools.of" (methS 7 1) (.str "corecc.alloc" 225) 82) hK 2 (by rfl) (by rfl) (by rfl) (by rfl) (by rfl) (zip3 fun _ _ _ => by rfl) (by rfl) (by rfl) (by rfl) (by decide)⟩
theorem fn_104 {C : Cx} (hK : KOk C.K) : ∃ sc, sc.names = nsAt C.w.params 104 ∧ FnAt C 104 sc ["self"] (bodyAt C.w.params 104) :=
  ⟨scoS (defS 104), rfl, fnAt_of (fd := mkFD "__init__" "Spills.__init__" (methS 8 0) (.str "corecc.alloc" 225) 103) hK 3 (by rfl) (by rfl) (by rfl) (by rfl) (by rfl) (zip1 fun _ => by rfl) (by rfl) (by rfl) (by rfl) (by decide)⟩
theorem fn_139 {C : Cx} (hK : KOk C.K) : ∃ sc, sc.names = nsAt C.w.params 139 ∧ FnAt C 139 sc ["self"] (bodyAt C.w.params 139) :=
  ⟨scoS (defS 139), rfl, fnAt_of (fd := mkFD "__init__" "Graph.__init__" (methS 9 0) (.str "corecc.alloc" 225) 138) hK 4 (by rfl) (by rfl) (by rfl) (by rfl) (by rfl) (zip1 fun _ => by rfl) (by rfl) (by rfl) (by rfl) (by decide)⟩
theorem fn_146 {C : Cx} (hK : KOk C.K) : ∃ sc, sc.names = nsAt C.w.params 146 ∧ FnAt C 146 sc ["self", "register"] (bodyAt C.w.params 146) :=
  ⟨scoS (defS 146), rfl, fnAt_of (fd := mkFD "add" "Graph.add" (methS 9 1) (.str "corecc.alloc" 225) 145) hK 5 (by rfl) (by rfl) (by rfl) (by rfl) (by rfl) (zip2 fun _ _ => by rfl) (by rfl) (by rfl) (by rfl) (by decide)⟩
theorem fn_153 {C : Cx} (hK : KOk C.K) : ∃ sc, sc.names = nsAt C.w.params 153 ∧ FnAt C 153 sc ["self", "register", "weight"] (bodyAt C.w.params 153) :=
  ⟨scoS (defS 153), rfl, fnAt_of (fd := mkFD "touch" "Graph.touch" (methS 9 2) (.str "corecc.alloc" 225) 152) hK 6 (by rfl) (by rfl) (by rfl) (by rfl) (by rfl) (zip3 fun _ _ _ => by rfl) (by rfl) (by rfl) (by rfl) (by decide)⟩
theorem fn_160 {C : Cx} (hK : KOk C.K) : ∃ sc, sc.names = nsAt C.w.params 160 ∧ FnAt C 160 sc ["self", "one", "other"] (bodyAt C.w.params 160) :=
  ⟨scoS (defS 160), rfl, fnAt_of (fd := mkFD "join" "Graph.join" (methS 9 3) (.str "corecc.alloc" 225) 159) hK 7 (by rfl) (by rfl) (by rfl) (by rfl) (by rfl) (zip3 fun _ _ _ => by rfl) (by rfl) (by rfl) (by rfl) (by decide)⟩
theorem fn_167 {C : Cx} (hK : KOk C.K) : ∃ sc, sc.names = nsAt C.w.params 167 ∧ FnAt C 167 sc ["self", "register"] (bodyAt C.w.params 167) :=
  ⟨scoS (defS 167), rfl, fnAt_of (fd := mkFD "leader" "Graph.leader" (methS 9 4) (.str "corecc.alloc" 225) 166) hK 8 (by rfl) (by rfl) (by rfl) (by rfl) (by rfl) (zip2 fun _ _ => by rfl) (by rfl) (by rfl) (by rfl) (by decide)⟩
theorem fn_172 {C : Cx} (hK : KOk C.K) : ∃ sc, sc.names = nsAt C.w.params 172 ∧ FnAt C 172 sc ["self"] (bodyAt C.w.params 172) :=
  ⟨scoS (defS 172), rfl, fnAt_of (fd := mkFD "leaders" "Graph.leaders" (methS 9 5) (.str "corecc.alloc" 225) 171) hK 9 (by rfl) (by rfl) (by rfl) (by rfl) (by rfl) (zip1 fun _ => by rfl) (by rfl) (by rfl) (by rfl) (by decide)⟩
theorem fn_177 {C : Cx} (hK : KOk C.K) : ∃ sc, sc.names = nsAt C.w.params 177 ∧ FnAt C 177 sc ["self", "leader"] (bodyAt C.w.params 177) :=
  ⟨scoS (defS 177), rfl, fnAt_of (fd := mkFD "members" "Graph.members" (methS 9 6) (.str "corecc.alloc" 225) 176) hK 10 (by rfl) (by rfl) (by rfl) (by rfl) (by rfl) (zip2 fun _ _ => by rfl) (by rfl) (by rfl) (by rfl) (by decide)⟩
theorem fn_184 {C : Cx} (hK : KOk C.K) : ∃ sc, sc.names = nsAt C.w.params 184 ∧ FnAt C 184 sc ["self", "one", "other"] (bodyAt C.w.params 184) :=
  ⟨scoS (defS 184), rfl, fnAt_of (fd := mkFD "merge" "Graph.merge" (methS 9 7) (.str "corecc.alloc" 225) 183) hK 11 (by rfl) (by rfl) (by rfl) (by rfl) (by rfl) (zip3 fun _ _ _ => by rfl) (by rfl) (by rfl) (by rfl) (by decide)⟩
theorem fn_198 {C : Cx} (hK : KOk C.K) : ∃ sc, sc.names = nsAt C.w.params 198 ∧ FnAt C 198 sc ["graph", "pools", "one", "other"] (bodyAt C.w.params 198) :=
  ⟨scoS (defS 198), rfl, fnAt_of (fd := mkFD "is_safe" "is_safe" (topS 10) (.str "corecc.alloc" 225) 197) hK 12 (by rfl) (by rfl) (by rfl) (by rfl) (by rfl) (zip4 fun _ _ _ _ => by rfl) (by rfl) (by rfl) (by rfl) (by decide)⟩
theorem fn_205 {C : Cx} (hK : KOk C.K) : ∃ sc, sc.names = nsAt C.w.params 205 ∧ FnAt C 205 sc ["graph", "pools", "frozen"] (bodyAt C.w.params 205) :=
  ⟨scoS (defS 205), rfl, fnAt_of (fd := mkFD "coalesce" "coalesce" (topS 11) (.str "corecc.alloc" 225) 204) hK 13 (by rfl) (by rfl) (by rfl) (by rfl) (by rfl) (zip3 fun _ _ _ => by rfl) (by rfl) (by rfl) (by rfl) (by decide)⟩
theorem fn_212 {C : Cx} (hK : KOk C.K) : ∃ sc, sc.names = nsAt C.w.params 212 ∧ FnAt C 212 sc ["graph", "degree", "register"] (bodyAt C.w.params 212) :=
  ⟨scoS (defS 212), rfl, fnAt_of (fd := mkFD "worth_of" "worth_of" (topS 12) (.str "corecc.alloc" 225) 211) hK 14 (by rfl) (by rfl) (by rfl) (by rfl) (by rfl) (zip3 fun _ _ _ => by rfl) (by rfl) (by rfl) (by rfl) (by decide)⟩
theorem fn_219 {C : Cx} (hK : KOk C.K) : ∃ sc, sc.names = nsAt C.w.params 219 ∧ FnAt C 219 sc ["graph", "degree", "left", "frozen"] (bodyAt C.w.params 219) :=
  ⟨scoS (defS 219), rfl, fnAt_of (fd := mkFD "cheapest" "cheapest" (topS 13) (.str "corecc.alloc" 225) 218) hK 15 (by rfl) (by rfl) (by rfl) (by rfl) (by rfl) (zip4 fun _ _ _ _ => by rfl) (by rfl) (by rfl) (by rfl) (by decide)⟩
theorem fn_226 {C : Cx} (hK : KOk C.K) : ∃ sc, sc.names = nsAt C.w.params 226 ∧ FnAt C 226 sc ["graph", "pools", "frozen"] (bodyAt C.w.params 226) :=
  ⟨scoS (defS 226), rfl, fnAt_of (fd := mkFD "stacked" "stacked" (topS 14) (.str "corecc.alloc" 225) 225) hK 16 (by rfl) (by rfl) (by rfl) (by rfl) (by rfl) (zip3 fun _ _ _ => by rfl) (by rfl) (by rfl) (by rfl) (by decide)⟩
theorem fn_233 {C : Cx} (hK : KOk C.K) : ∃ sc, sc.names = nsAt C.w.params 233 ∧ FnAt C 233 sc ["graph"] (bodyAt C.w.params 233) :=
  ⟨scoS (defS 233), rfl, fnAt_of (fd := mkFD "mates_of" "mates_of" (topS 15) (.str "corecc.alloc" 225) 232) hK 17 (by rfl) (by rfl) (by rfl) (by rfl) (by rfl) (zip1 fun _ => by rfl) (by rfl) (by rfl) (by rfl) (by decide)⟩
theorem fn_238 {C : Cx} (hK : KOk C.K) : ∃ sc, sc.names = nsAt C.w.params 238 ∧ FnAt C 238 sc ["graph", "register", "frozen"] (bodyAt C.w.params 238) :=
  ⟨scoS (defS 238), rfl, fnAt_of (fd := mkFD "victim_of" "victim_of" (topS 16) (.str "corecc.alloc" 225) 237) hK 18 (by rfl) (by rfl) (by rfl) (by rfl) (by rfl) (zip3 fun _ _ _ => by rfl) (by rfl) (by rfl) (by rfl) (by decide)⟩
theorem fn_245 {C : Cx} (hK : KOk C.K) : ∃ sc, sc.names = nsAt C.w.params 245 ∧ FnAt C 245 sc ["allowed", "taken", "wished"] (bodyAt C.w.params 245) :=
  ⟨scoS (defS 245), rfl, fnAt_of (fd := mkFD "number_for" "number_for" (topS 17) (.str "corecc.alloc" 225) 244) hK 19 (by rfl) (by rfl) (by rfl) (by rfl) (by rfl) (zip3 fun _ _ _ => by rfl) (by rfl) (by rfl) (by rfl) (by decide)⟩
theorem fn_250 {C : Cx} (hK : KOk C.K) : ∃ sc, sc.names = nsAt C.w.params 250 ∧ FnAt C 250 sc ["graph", "pools", "frozen"] (bodyAt C.w.params 250) :=
  ⟨scoS (defS 250), rfl, fnAt_of (fd := mkFD "coloured" "coloured" (topS 18) (.str "corecc.alloc" 225) 249) hK 20 (by rfl) (by rfl) (by rfl) (by rfl) (by rfl) (zip3 fun _ _ _ => by rfl) (by rfl) (by rfl) (by rfl) (by decide)⟩
theorem fn_255 {C : Cx} (hK : KOk C.K) : ∃ sc, sc.names = nsAt C.w.params 255 ∧ FnAt C 255 sc ["graph", "colours", "spills", "pools"] (bodyAt C.w.params 255) :=
  ⟨scoS (defS 255), rfl, fnAt_of (fd := mkFD "finished" "finished" (topS 19) (.str "corecc.alloc" 225) 254) hK 21 (by rfl) (by rfl) (by rfl) (by rfl) (by rfl) (zip4 fun _ _ _ _ => by rfl) (by rfl) (by rfl) (by rfl) (by decide)⟩
theorem fn_262 {C : Cx} (hK : KOk C.K) : ∃ sc, sc.names = nsAt C.w.params 262 ∧ FnAt C 262 sc ["well", "size"] (bodyAt C.w.params 262) :=
  ⟨scoS (defS 262), rfl, fnAt_of (fd := mkFD "_law_draw" "_law_draw" (topS 21) (.str "law_sa0178_01" 550) 261) hK 22 (by rfl) (by rfl) (by rfl) (by rfl) (by rfl) (zip2 fun _ _ => by rfl) (by rfl) (by rfl) (by rfl) (by decide)⟩
theorem fn_267 {C : Cx} (hK : KOk C.K) : ∃ sc, sc.names = nsAt C.w.params 267 ∧ FnAt C 267 sc ["well", "many"] (bodyAt C.w.params 267) :=
  ⟨scoS (defS 267), rfl, fnAt_of (fd := mkFD "_law_picture" "_law_picture" (topS 22) (.str "law_sa0178_01" 550) 266) hK 23 (by rfl) (by rfl) (by rfl) (by rfl) (by rfl) (zip2 fun _ _ => by rfl) (by rfl) (by rfl) (by rfl) (by decide)⟩
theorem fn_272 {C : Cx} (hK : KOk C.K) : ∃ sc, sc.names = nsAt C.w.params 272 ∧ FnAt C 272 sc ["picture", "left"] (bodyAt C.w.params 272) :=
  ⟨scoS (defS 272), rfl, fnAt_of (fd := mkFD "_law_graph" "_law_graph" (topS 23) (.str "law_sa0178_01" 550) 271) hK 24 (by rfl) (by rfl) (by rfl) (by rfl) (by rfl) (zip2 fun _ _ => by rfl) (by rfl) (by rfl) (by rfl) (by decide)⟩
theorem fn_277 {C : Cx} (hK : KOk C.K) : ∃ sc, sc.names = nsAt C.w.params 277 ∧ FnAt C 277 sc ["found", "picture", "left", "rows", "params", "slots"] (bodyAt C.w.params 277) :=
  ⟨scoS (defS 277), rfl, fnAt_of (fd := mkFD "_law_is_whole" "_law_is_whole" (topS 24) (.str "law_sa0178_01" 550) 276) hK 25 (by rfl) (by rfl) (by rfl) (by rfl) (by rfl) (zip6 fun _ _ _ _ _ _ => by rfl) (by rfl) (by rfl) (by rfl) (by decide)⟩
theorem fn_282 {C : Cx} (hK : KOk C.K) : ∃ sc, sc.names = nsAt C.w.params 282 ∧ FnAt C 282 sc ["script"] (bodyAt C.w.params 282) :=
  ⟨scoS (defS 282), rfl, fnAt_of (fd := mkFD "law" "law" (topS 25) (.str "law_sa0178_01" 550) 281) hK 26 (by rfl) (by rfl) (by rfl) (by rfl) (by rfl) (zip1 fun _ => by rfl) (by rfl) (by rfl) (by rfl) (by decide)⟩
theorem lk_55_dbg {P : Params} : (nsAt P 55).lookup (Str.ofString "__debug__") = none := by rfl
theorem lk_76_dbg {P : Params} : (nsAt P 76).lookup (Str.ofString "__debug__") = none := by rfl
theorem lk_83_dbg {P : Params} : (nsAt P 83).lookup (Str.ofString "__debug__") = none := by rfl
theorem lk_104_dbg {P : Params} : (nsAt P 104).lookup (Str.ofString "__debug__") = none := by rfl
theorem lk_139_dbg {P : Params} : (nsAt P 139).lookup (Str.ofString "__debug__") = none := by rfl
theorem lk_146_dbg {P : Params} : (nsAt P 146).lookup (Str.ofString "__debug__") = none := by rfl
theorem lk_153_dbg {P : Params} : (nsAt P 153).lookup (Str.ofString "__debug__") = none := by rfl
theorem lk_160_dbg {P : Params} : (nsAt P 160).lookup (Str.ofString "__debug__") = none := by rfl
theorem lk_167_dbg {P : Params} : (nsAt P 167).lookup (Str.ofString "__debug__") = none := by rfl
theorem lk_172_dbg {P : Params} : (nsAt P 172).lookup (Str.ofString "__debug__") = none := by rfl
theorem lk_177_dbg {P : Params} : (nsAt P 177).lookup (Str.ofString "__debug__") = none := by rfl
theorem lk_184_dbg {P : Params} : (nsAt P 184).lookup (Str.ofString "__debug__") = none := by rfl
theorem lk_198_dbg {P : Params} : (nsAt P 198).lookup (Str.ofString "__debug__") = none := by rfl
theorem lk_205_dbg {P : Params} : (nsAt P 205).lookup (Str.ofString "__debug__") = none := by rfl
theorem lk_212_dbg {P : Params} : (nsAt P 212).lookup (Str.ofString "__debug__") = none := by rfl
theorem lk_219_dbg {P : Params} : (nsAt P 219).lookup (Str.ofString "__debug__") = none := by rfl
theorem lk_226_dbg {P : Params} : (nsAt P 226).lookup (Str.ofString "__debug__") = none := by rfl
theorem lk_233_dbg {P : Params} : (nsAt P 233).lookup (Str.ofString "__debug__") = none := by rfl
theorem lk_238_dbg {P : Params} : (nsAt P 238).lookup (Str.ofString "__debug__") = none := by rfl
theorem lk_245_dbg {P : Params} : (nsAt P 245).lookup (Str.ofString "__debug__") = none := by rfl
theorem lk_250_dbg {P : Params} : (nsAt P 250).lookup (Str.ofString "__debug__") = none := by rfl
theorem lk_255_dbg {P : Params} : (nsAt P 255).lookup (Str.ofString "__debug__") = none := by rfl
theorem lk_262_dbg {P : Params} : (nsAt P 262).lookup (Str.ofString "__debug__") = none := by rfl
theorem lk_267_dbg {P : Params} : (nsAt P 267).lookup (Str.ofString "__debug__") = none := by rfl
theorem lk_272_dbg {P : Params} : (nsAt P 272).lookup (Str.ofString "__debug__") = none := by rfl
theorem lk_277_dbg {P : Params} : (nsAt P 277).lookup (Str.ofString "__debug__") = none := by rfl
theorem lk_282_dbg {P : Params} : (nsAt P 282).lookup (Str.ofString "__debug__") = none := by rfl
end Mine
namespace Mine
set_option maxRecDepth 100000
/-! the facts of the text's own heap -/
section
variable {K : Frag} (h : KOk K)
include h
theorem cls_seen {a : Addr} (ha : a ∈ clss) : clsV K a = clsE a := List.map_inj_left.mp (show clss.map (clsV K) = clss.map clsE from congrArg (fun t : SeenT => t.1) h.seen) a ha
theorem cls_ok {a : Addr} (ha : a ∈ clss) : ClsOk K a := by
  have e := cls_seen h ha
  unfold clsV clsE at e
  simp only [Prod.mk.injEq] at e
  refine e0a8 e fun e1 e2 e3 e4 e5 e6 e7 e8 => ?_
  clear e
  exact ⟨e1, e2, e3, e4, e5, e6, e7, e8⟩
theorem fld_seen {a : Addr} (ha : a ∈ clss) {x : Str} (hx : x ∈ fldOf a) : findIn K (.ref a) x = some none := by
  have e : ((fldOf a).map fun x => findIn K (.ref a) x) = (fldOf a).map fun _ => some none := List.map_inj_left.mp (show clss.map (fun a => (fldOf a).map fun x => findIn K (.ref a) x) = clss.map (fun a => (fldOf a).map fun _ => some none) from congrArg (fun t : SeenT => t.2.1) h.seen) a ha
  exact List.map_inj_left.mp e x hx
theorem meth_seen {a : Addr} (ha : a ∈ clss) {q : Str × Addr} (hx : q ∈ methOf a) : findIn K (.ref a) q.1 = some (some (.ref q.2)) ∧ typeIn K (.ref q.2) = some (.type "function") := by
  have e : ((methOf a).map fun p => (findIn K (.ref a) p.1, typeIn K (.ref p.2))) = (methOf a).map fun p => (some (some (.ref p.2)), some (.type "function")) :=
    List.map_inj_left.mp (show clss.map (fun a => (methOf a).map fun p => (findIn K (.ref a) p.1, typeIn K (.ref p.2))) = clss.map (fun a => (methOf a).map fun p => (some (some (.ref p.2)), some (.type "function"))) from congrArg (fun t : SeenT => t.2.2.1) h.seen) a ha
  have := List.map_inj_left.mp e q hx
  simp only [Prod.mk.injEq] at this
  exact this
theorem glob_seen {q : Str × Value} {v : Option (Option Value)} (i : Nat) (h1 : ((("law" : Str), Value.none) :: gtab)[i]? = some q) (h2 : (some (some (.ref 282)) :: ((gtab.take 20).map (fun p => some (some p.2)) ++ (gtab.drop 20).map fun _ => some none) : List (Option (Option Value)))[i]? = some v) : (nsIn K mainGlobals q.1).map (fun v => v.map norm) = v := by
  have e : ((("law" : Str), Value.none) :: gtab).map (fun p => (nsIn K mainGlobals p.1).map fun v => v.map norm) = some (some (.ref 282)) :: ((gtab.take 20).map (fun p => some (some p.2)) ++ (gtab.drop 20).map fun _ => some none) := congrArg (fun t : SeenT => t.2.2.2.1) h.seen
  have e' := congrArg (fun l => l[i]?) e
  rw [List.getElem?_map, h1, h2] at e'
  exact Option.some.inj e'
theorem law_seen : nsIn K mainGlobals "law" = some (some (.ref 282)) := by
  have e : (nsIn K mainGlobals "law").map (fun v => v.map norm) = some (some (.ref 282)) := glob_seen h (q := ("law", Value.none)) 0 rfl rfl
  refine e1a2 (Option.map_eq_some_iff.mp e) fun v hv e => ?_
  refine e1a2 (Option.map_eq_some_iff.mp e) fun v' e2 e3 => ?_
  subst e2
  rw [norm_ref e3] at hv
  exact hv
end
noncomputable def GlobOk (K : Frag) (p : Str × Value) : Prop := (∃ v', nsIn K mainGlobals p.1 = some (some v') ∧ norm v' = p.2) ∨ (nsIn K mainGlobals p.1 = some none ∧ bootBuiltins p.1 = some p.2 ∧ p.1 ≠ "__name__" ∧ norm p.2 = p.2)
theorem glob_own {K : Frag} (h : KOk K) {q : Str × Value} (i : Nat) (h1 : ((("law" : Str), Value.none) :: gtab)[i]? = some q) (h2 : (some (some (.ref 282)) :: ((gtab.take 20).map (fun p => some (some p.2)) ++ (gtab.drop 20).map fun _ => some none) : List (Option (Option Value)))[i]? = some (some (some q.2))) : GlobOk K q := by
  refine e1a2 (Option.map_eq_some_iff.mp (glob_seen h i h1 h2)) fun v hv e => ?_
  refine e1a2 (Option.map_eq_some_iff.mp e) fun v' e2 e3 => ?_
  subst e2
  exact .inl ⟨v', hv, e3⟩
theorem glob_blt {K : Frag} (h : KOk K) {q : Str × Value} (i : Nat) (h1 : ((("law" : Str), Value.none) :: gtab)[i]? = some q) (h2 : (some (some (.ref 282)) :: ((gtab.take 20).map (fun p => some (some p.2)) ++ (gtab.drop 20).map fun _ => some none) : List (Option (Option Value)))[i]? = some (some none)) (h3 : bootBuiltins q.1 = some q.2 ∧ q.1 ≠ "__name__" ∧ norm q.2 = q.2) : GlobOk K q := by
  refine e1a2 (Option.map_eq_some_iff.mp (glob_seen h i h1 h2)) fun v hv e => ?_
  cases v with
  | none => exact .inr ⟨hv, h3⟩
  | some v => cases e
theorem glob_all {K : Frag} (h : KOk K) : ∀ p ∈ gtab, GlobOk K p := List.forall_mem_cons.mpr ⟨glob_own h 1 rfl rfl, List.forall_mem_cons.mpr ⟨glob_own h 2 rfl rfl, List.forall_mem_cons.mpr ⟨glob_own h 3 rfl rfl, List.forall_mem_cons.mpr ⟨glob_own h 4 rfl rfl, List.forall_mem_cons.mpr ⟨glob_own h 5 rfl rfl, List.forall_mem_cons.mpr ⟨glob_own h 6 rfl rfl, List.forall_mem_cons.mpr ⟨glob_own h 7 rfl rfl, List.forall_mem_cons.mpr ⟨glob_own h 8 rfl rfl, List.forall_mem_cons.mpr ⟨glob_own h 9 rfl rfl, List.forall_mem_cons.mpr ⟨glob_own h 10 rfl rfl, List.forall_mem_cons.mpr ⟨glob_own h 11 rfl rfl, List.forall_mem_cons.mpr ⟨glob_own h 12 rfl rfl, List.forall_mem_cons.mpr ⟨glob_own h 13 rfl rfl, List.forall_mem_cons.mpr ⟨glob_own h 14 rfl rfl, List.forall_mem_cons.mpr ⟨glob_own h 15 rfl rfl, List.forall_mem_cons.mpr ⟨glob_own h 16 rfl rfl, List.forall_mem_cons.mpr ⟨glob_own h 17 rfl rfl, List.forall_mem_cons.mpr ⟨glob_own h 18 rfl rfl, List.forall_mem_cons.mpr ⟨glob_own h 19 rfl rfl, List.forall_mem_cons.mpr ⟨glob_own h 20 rfl rfl, List.forall_mem_cons.mpr ⟨glob_blt h 21 rfl rfl ⟨by rfl, by decide, by rfl⟩, List.forall_mem_cons.mpr ⟨glob_blt h 22 rfl rfl ⟨by rfl, by decide, by rfl⟩, List.forall_mem_cons.mpr ⟨glob_blt h 23 rfl rfl ⟨by rfl, by decide, by rfl⟩, List.forall_mem_cons.mpr ⟨glob_blt h 24 rfl rfl ⟨by rfl, by decide, by rfl⟩, List.forall_mem_cons.mpr ⟨glob_blt h 25 rfl rfl ⟨by rfl, by decide, by rfl⟩, List.forall_mem_cons.mpr ⟨glob_blt h 26 rfl rfl ⟨by rfl, by decide, by rfl⟩, List.forall_mem_nil _⟩⟩⟩⟩⟩⟩⟩⟩⟩⟩⟩⟩⟩⟩⟩⟩⟩⟩⟩⟩⟩⟩⟩⟩⟩⟩
theorem lookup_mem {B : Type} {x : Str} {v : B} : ∀ {l : List (Str × B)}, l.lookup x = some v → (x, v) ∈ l
  | [], h => by cases h
  | (y, u) :: r, h => by
    rw [List.lookup_cons] at h
    split at h
    · rename_i q
      cases h; rw [beq_iff_eq.mp q]; exact List.mem_cons_self ..
    · exact List.mem_cons_of_mem _ (lookup_mem h)
theorem bs_of {C : Cx} (hK : KOk C.K) (X : C.K.In C.h₀) (T : ∃ p loose, TopRead p loose C.mg C.mb C.h₀) : Bs C := by
  refine ⟨X, T, ?_, ?_, ?_, ?_, ?_⟩
  · have e := law_seen hK
    unfold nsIn at e
    split at e
    · rename_i q; exact ⟨_, q⟩
    · cases e
  · intro a h
    refine cls_ok hK ?_
    unfold isCls at h
    simp only [Bool.or_eq_true, beq_iff_eq] at h
    rcases h with ((rfl | rfl) | rfl) | rfl <;> decide
  · intro a x h
    refine fld_seen hK ?_ (List.contains_iff_mem.mp h)
    unfold fldOf at h
    split at h
    · rename_i e; subst e; decide
    split at h
    · rename_i e; subst e; decide
    split at h
    · rename_i e; subst e; decide
    split at h
    · rename_i e; subst e; decide
    · cases h
  · intro x v h
    exact glob_all hK (x, v) (lookup_mem h)
  · intro a x f h
    refine meth_seen hK (q := (x, f)) ?_ (lookup_mem h)
    unfold methOf at h
    split at h
    · rename_i e; subst e; decide
    split at h
    · rename_i e; subst e; decide
    · cases h
end Mine
namespace Mine
theorem post_true (args : List WData) : (PySem.Challenge.rw_sa0178_01.row.toRowW.claim).post args (.bool true) args = true := by
  show (WShape.has [] (WData.bool true) .bool && WTm.holds [] (.eq .res (.lit (.bool true))) { args := args, res := some (.bool true), after := args }) = true
  have h1 : WShape.has [] (WData.bool true) .bool = true := by
    with_unfolding_all rfl
  rw [h1]
  simp [WTm.holds, WTm.value]
  have h2 : PySem.W.same (WData.bool true) (WData.bool true) = true := by with_unfolding_all rfl
  rw [h2]
theorem callerOk : AOk 20 callerA := ⟨by rfl, by decide, by decide⟩
noncomputable def LawSp : Prop := ∀ (C : Cx), Bs C → KOk C.K → ∀ (l : Addr) (vs : Array Value) (ns : List Int), C.h₀.IsList l vs → IntsAre vs.toList ns → ns.length ≤ 63 → Sp C 20 (.ref 282) [.ref l] (fun _ => none) fun v _ => v = .bool true
/-- from the law's contract to the end that the claim asks for -/
theorem law_ends (H : LawSp) {w : World} {s₁ : Shared} {mg mb : Str → Option Value} {cl : Str → Option Addr} {mean : ExcName → Option Value} {args : List WData} {c : ClaimW} {p : Program}
    (Y : HK.says w s₁.heap) (T : ∃ p loose, TopRead p loose mg mb s₁.heap) (hg : s₁.gens = #[]) {fa l : Addr} {vs : List Value} {ns : List Int} (hm : mg "law" = some (.ref fa)) (hl : s₁.heap.IsList l vs.toArray) (hI : IntsAre vs ns) (hn : ns.length ≤ 63)
    (hr : ∀ cls, c.raises args cls = false) (hp : c.post args (.bool true) args = true) :
    wpAny (model p w) callerA (call (.ref fa) [.ref l]) (fun v s' => GoodWG c cl mean args s₁ (.ok (.ret v)) s') (fun e s' => GoodWG c cl mean args s₁ (.error e) s') s₁ := by
  refine e1a2 Y fun K KX hK => ?_
  clear Y
  refine e2a1 T fun q loose T => ?_
  have e := mg_of KX T.g (law_seen hK)
  rw [e] at hm; cases hm
  have B : Bs ⟨p, w, K, s₁.heap, s₁.os, mg, mb⟩ := bs_of hK KX ⟨q, loose, T⟩
  have S := (H ⟨p, w, K, s₁.heap, s₁.os, mg, mb⟩ B hK l vs.toArray ns hl (by simpa using hI) hn).run callerA callerOk [.ref l] rfl
  refine wpAny_mono (W.call S (fun a => s₁.heap.get? a) s₁ ⟨⟨fun _ _ e => e, fun _ _ e => e, nofun⟩, hg, rfl⟩) (fun v s' => ?_) (fun e s' h => h.elim)
  intro hI0
  refine e1a2 hI0 fun σ' hN2_1 hv => ?_
  clear hI0
  refine e0a3 hN2_1 fun R hg' ho => ?_
  clear hN2_1
  cases norm_bool hv
  exact GoodW.toG ⟨.inl ⟨_, .bool true, [], rfl, hr, .bool _, hp, fun _ => ⟨List.nodup_nil, nofun⟩⟩, fun b o e => R.fr b o e, ho, hg'⟩
set_option maxRecDepth 1000000 in
set_option maxHeartbeats 8000000 in
theorem J (H : LawSp) : PySem.Challenge.rw_sa0178_01.Holds := by
  refine holds_law (by kernel_rfl) fun said => ?_
  refine holds_open (q := viewQ) (loose := []) (Xt := fun s => xlAt viewQ [] s && recOk (RowW.records PySem.Challenge.rw_sa0178_01.row.toRowW) s) (XP := XL viewQ []) (Yf := Hook.obs HK) (Ya := Hook.val HK) (YP := Hook.says HK) (N := 4082) left0 (Hook.of HK) (Hook.keeps HK) (fun s e => xl_of s (Bool.and_eq_true_iff.mp e).1) XL.keeps (by rfl) (by rfl) (by rfl) (fun s e => recFacts_of (Bool.and_eq_true_iff.mp e).2) (by rfl) said (by decide +kernel) ⟨rfl, rfl, rfl, rfl, rfl, by decide +kernel⟩ ?hw ?hc
  case hw => w_witness2
  intro w s₀ s₁ mg mb G Y fa o pm cd doc dV kV ho hd hcd hD hmg hg args vals as hpre hlay hrd hwl hlo
  refine Ground.open G ?_
  intro T B D TE TW
  clear D B TE TW
  wrow_args hpre hlay hrd hwl hlo
  rename_i hI hr hcond' hcond
  exact law_ends H Y ⟨_, _, topRead_of T⟩ hg hmg (by assumption) hI (by omega) (fun _ => rfl) (post_true _)
end Mine
namespace Mine
/-! what all contracts share -/
theorem exs_start {f : Stmt → Rho → Hp → SQ → Prop} {body : List Stmt} {st : Stmt} {r : List Stmt} {ρ : Rho} {σ : Hp} {Q : SQ} (e : body = st :: r) (h : exsW f (st :: r) ρ σ Q) : exsW f body ρ σ Q := e ▸ h
/-- all that stood stands -/
noncomputable def Ext (σ σ' : Hp) : Prop := ∀ b x, σ b = some x → σ' b = some x
/-- the same, but for the places of S -/
noncomputable def ExtB (S : Addr → Prop) (σ σ' : Hp) : Prop := ∀ b x, ¬ S b → σ b = some x → σ' b = some x
theorem Ext.refl (σ : Hp) : Ext σ σ := fun _ _ h => h
theorem Ext.trans {σ τ υ : Hp} (h : Ext σ τ) (i : Ext τ υ) : Ext σ υ := fun b x q => i b x (h b x q)
theorem ExtB.refl (S : Addr → Prop) (σ : Hp) : ExtB S σ σ := fun _ _ _ h => h
theorem ExtB.trans {S : Addr → Prop} {σ τ υ : Hp} (h : ExtB S σ τ) (i : ExtB S τ υ) : ExtB S σ υ := fun b x n q => i b x n (h b x n q)
theorem Ext.toB {S : Addr → Prop} {σ τ : Hp} (h : Ext σ τ) : ExtB S σ τ := fun b x _ q => h b x q
theorem ExtB.mono {S T : Addr → Prop} {σ τ : Hp} (h : ExtB S σ τ) (i : ∀ b, S b → T b) : ExtB T σ τ := fun b x n q => h b x (fun s => n (i b s)) q
theorem Ext.new {σ : Hp} {c : Addr} (h : σ c = none) (x : MO) : Ext σ (upd σ c x) := fun b y q => by
  rw [upd_ne _ _ (fun e => by rw [e, h] at q; cases q)]; exact q
theorem ExtB.put {S : Addr → Prop} {σ : Hp} {c : Addr} (h : S c) (x : MO) : ExtB S σ (upd σ c x) := fun b y n q => by
  rw [upd_ne _ _ (fun e => n (by rw [e]; exact h))]; exact q
theorem ne_of {σ : Hp} {a b : Addr} {x : MO} (h : σ a = some x) (h' : σ b = none) : a ≠ b := fun e => by rw [e, h'] at h; cases h
theorem Ext.none {σ σ' : Hp} (h : Ext σ σ') {b : Addr} (e : σ' b = none) : σ b = none := by
  cases q : σ b with
  | none => rfl
  | some x => rw [h b x q] at e; cases e
theorem upd_some {σ : Hp} {a b : Addr} {x y : MO} (h : σ b = some y) (hn : b ≠ a) : upd σ a x b = some y := by rw [upd_ne _ _ hn]; exact h
theorem upd_none {σ : Hp} {a b : Addr} {x : MO} (h : upd σ a x b = none) : b ≠ a ∧ σ b = none := by
  by_cases e : b = a
  · rw [e, upd_self] at h; cases h
  · rw [upd_ne _ _ e] at h; exact ⟨e, h⟩

/-! the for, by what holds between its turns -/
theorem forL_ind {P : Px} {tgt : Expr} {body : Rho → Hp → SQ → Prop} {it : Addr} {σ₀ : Hp} {Q : SQ} (I : List Value → Rho → Hp → Prop) (hs : ∀ xs ρ σ, I xs ρ σ → stay it σ₀ σ) (fin : ∀ ρ σ, I [] ρ σ → Q .next ρ σ)
    (step : ∀ x xs ρ σ, I (x :: xs) ρ σ → (∀ ρ σ, I xs ρ σ → forL P tgt body it σ₀ xs ρ σ Q) → tgtP P tgt x ρ σ fun ρ => body ρ σ fun f ρ σ => match f with
      | .next => forL P tgt body it σ₀ xs ρ σ Q
      | .cont => forL P tgt body it σ₀ xs ρ σ Q
      | .brk => Q .next ρ σ
      | .ret v => Q (.ret v) ρ σ) : ∀ xs ρ σ, I xs ρ σ → forL P tgt body it σ₀ xs ρ σ Q
  | [], ρ, σ, h => ⟨hs _ _ _ h, fin _ _ h⟩
  | x :: xs, ρ, σ, h => ⟨hs _ _ _ h, step x xs ρ σ h (forL_ind I hs fin step xs)⟩
theorem forI_ind {P : Px} {tgt : List Expr} {body : Rho → Hp → SQ → Prop} {it : Addr} {σ₀ : Hp} {Q : SQ} (I : List (Int × Value) → Rho → Hp → Prop) (hs : ∀ xs ρ σ, I xs ρ σ → stay it σ₀ σ) (fin : ∀ ρ σ, I [] ρ σ → Q .next ρ σ)
    (step : ∀ k v xs ρ σ, I ((k, v) :: xs) ρ σ → (∀ ρ σ, I xs ρ σ → forI P tgt body it σ₀ xs ρ σ Q) → asgs P tgt [vi k, v] ρ fun ρ => body ρ σ fun f ρ σ => match f with
      | .next => forI P tgt body it σ₀ xs ρ σ Q
      | .cont => forI P tgt body it σ₀ xs ρ σ Q
      | .brk => Q .next ρ σ
      | .ret v => Q (.ret v) ρ σ) : ∀ xs ρ σ, I xs ρ σ → forI P tgt body it σ₀ xs ρ σ Q
  | [], ρ, σ, h => ⟨hs _ _ _ h, fin _ _ h⟩
  | (k, v) :: xs, ρ, σ, h => ⟨hs _ _ _ h, step k v xs ρ σ h (forI_ind I hs fin step xs)⟩
theorem compL_ind {P : Px} {tgt : Expr} {ifs : List Expr} {elt : Expr} {fe : Expr → Rho → Hp → EQ → Prop} {ft : Expr → Rho → Hp → TQ → Prop} {it acc : Addr} {σ₀ : Hp} {K : Hp → Prop} (I : List Value → Rho → Hp → Prop) (hs : ∀ xs ρ σ, I xs ρ σ → stay it σ₀ σ) (fin : ∀ ρ σ, I [] ρ σ → K σ)
    (step : ∀ x xs ρ σ, I (x :: xs) ρ σ → (∀ ρ σ, I xs ρ σ → compL P tgt ifs elt fe ft it σ₀ acc xs ρ σ K) → tgtP P tgt x ρ σ fun ρ => testsW (fun e => ft e ρ) ifs σ fun ok σ => match ok with
      | true => fe elt ρ σ fun v σ => Hold (appendP acc v σ fun _ σ => compL P tgt ifs elt fe ft it σ₀ acc xs ρ σ K)
      | false => compL P tgt ifs elt fe ft it σ₀ acc xs ρ σ K) : ∀ xs ρ σ, I xs ρ σ → compL P tgt ifs elt fe ft it σ₀ acc xs ρ σ K
  | [], ρ, σ, h => ⟨hs _ _ _ h, fin _ _ h⟩
  | x :: xs, ρ, σ, h => ⟨hs _ _ _ h, step x xs ρ σ h (compL_ind I hs fin step xs)⟩
/-- a list, a dict or a tuple that stands as it stood -/
theorem stay_eq {it : Addr} {σ₀ σ : Hp} {x : MO} (h₀ : σ₀ it = some x) (h : σ it = some x) (hx : ∀ d, x ≠ .vals d ∧ x ≠ .items d) : stay it σ₀ σ := by
  refine ⟨by rw [h, h₀], ?_⟩
  rw [h₀]
  cases x <;> first | trivial | exact absurd rfl (hx _).1 | exact absurd rfl (hx _).2
theorem stay_list {it : Addr} {σ₀ σ : Hp} {xs : List Value} (h₀ : σ₀ it = some (.list xs)) (h : σ it = some (.list xs)) : stay it σ₀ σ := stay_eq h₀ h fun _ => ⟨nofun, nofun⟩
theorem stay_tup {it : Addr} {σ₀ σ : Hp} {xs : List Value} (h₀ : σ₀ it = some (.tup xs)) (h : σ it = some (.tup xs)) : stay it σ₀ σ := stay_eq h₀ h fun _ => ⟨nofun, nofun⟩
theorem stay_dict {it : Addr} {σ₀ σ : Hp} {kvs : List (Int × Value)} {ep : Nat} (h₀ : σ₀ it = some (.dict kvs ep)) (h : σ it = some (.dict kvs ep)) : stay it σ₀ σ := stay_eq h₀ h fun _ => ⟨nofun, nofun⟩
theorem stay_rng {it : Addr} {σ₀ σ : Hp} {n : Nat} (h₀ : σ₀ it = some (.rng n)) (h : σ it = some (.rng n)) : stay it σ₀ σ := stay_eq h₀ h fun _ => ⟨nofun, nofun⟩

/-! dicts laid along a list of keys -/
noncomputable def dk (ks : List Int) (f : Int → Value) : List (Int × Value) := ks.map fun k => (k, f k)
theorem dk_len (ks : List Int) (f : Int → Value) : (dk ks f).length = ks.length := List.length_map ..
theorem dk_at {ks : List Int} {f : Int → Value} {k : Int} (h : k ∈ ks) : valueAt (dk ks f) k = some (f k) := by
  induction ks with
  | nil => cases h
  | cons j r ih =>
    unfold valueAt dk at *
    rw [List.map_cons, List.find?_cons]
    by_cases e : j = k
    · subst e; simp
    · simp only [e, decide_false]
      exact ih ((List.mem_cons.mp h).resolve_left fun q => e q.symm)
theorem dk_none {ks : List Int} {f : Int → Value} {k : Int} (h : k ∉ ks) : valueAt (dk ks f) k = none := by
  unfold valueAt dk
  rw [List.find?_map]
  have : ks.find? ((fun kv : Int × Value => decide (kv.1 = k)) ∘ fun k => (k, f k)) = none := by
    rw [List.find?_eq_none]; intro x hx; simp only [Function.comp, decide_eq_true_eq]; exact fun e => h (e ▸ hx)
  rw [this]; rfl
theorem dk_has (ks : List Int) (f : Int → Value) (k : Int) : hasK (dk ks f) k = decide (k ∈ ks) := by
  unfold hasK dk
  rw [List.any_map]
  by_cases h : k ∈ ks
  · rw [decide_eq_true h, List.any_eq_true]; exact ⟨k, h, by simp⟩
  · rw [decide_eq_false h]
    rw [List.any_eq_false]; intro x hx; simp only [Function.comp, beq_iff_eq]; exact fun e => h (e ▸ hx)
theorem dk_new {ks : List Int} {f : Int → Value} {k : Int} {v : Value} (h : k ∉ ks) : stored (dk ks f) k v = dk (ks ++ [k]) (fun j => if j = k then v else f j) := by
  unfold stored
  have e : (dk ks f).any (fun kv => decide (kv.1 = k)) = false := by
    unfold dk; rw [List.any_map, List.any_eq_false]; intro x hx; simp only [Function.comp, decide_eq_true_eq]; exact fun e => h (e ▸ hx)
  rw [e, if_neg (by decide)]
  unfold dk
  rw [List.map_append]
  refine congr (congrArg _ (List.map_congr_left fun j hj => ?_)) ?_
  · dsimp only; rw [if_neg (fun e : j = k => h (e ▸ hj))]
  · simp
theorem dk_old {ks : List Int} {f : Int → Value} {k : Int} {v : Value} (h : k ∈ ks) : stored (dk ks f) k v = dk ks (fun j => if j = k then v else f j) := by
  unfold stored
  have e : (dk ks f).any (fun kv => decide (kv.1 = k)) = true := by
    unfold dk; rw [List.any_map, List.any_eq_true]; exact ⟨k, h, by simp⟩
  rw [e, if_pos rfl]
  unfold dk
  rw [List.map_map]
  refine List.map_congr_left fun j hj => ?_
  simp only [Function.comp]
  split <;> rfl
theorem dk_without {ks : List Int} {f : Int → Value} {k : Int} : without (dk ks f) k = dk (ks.filter fun j => decide (j ≠ k)) f := by
  unfold without dk
  rw [List.filter_map]; rfl
theorem dk_keys (ks : List Int) (f : Int → Value) : ((dk ks f).map fun p => vi p.1) = ks.map vi := by
  unfold dk; rw [List.map_map]; rfl
theorem dk_congr {ks : List Int} {f g : Int → Value} (h : ∀ k ∈ ks, f k = g k) : dk ks f = dk ks g := List.map_congr_left fun k hk => by rw [h k hk]
/-- a set of ints: all keys bear True -/
noncomputable abbrev ds (ks : List Int) : List (Int × Value) := dk ks fun _ => vb true
noncomputable def addK (ks : List Int) (k : Int) : List Int := if k ∈ ks then ks else ks ++ [k]
theorem ds_add (ks : List Int) (k : Int) : stored (ds ks) k (vb true) = ds (addK ks k) := by
  unfold addK
  by_cases h : k ∈ ks
  · rw [if_pos h, dk_old h]; exact dk_congr fun j _ => by split <;> rfl
  · rw [if_neg h, dk_new h]; exact dk_congr fun j _ => by split <;> rfl
theorem mem_addK {ks : List Int} {k j : Int} : j ∈ addK ks k ↔ j ∈ ks ∨ j = k := by
  unfold addK
  split
  · constructor
    · exact .inl
    · rintro (h | rfl) <;> assumption
  · simp
theorem nodup_addK {ks : List Int} {k : Int} (h : ks.Nodup) : (addK ks k).Nodup := by
  unfold addK
  split
  · exact h
  · rename_i hk
    rw [List.nodup_append]
    exact ⟨h, by simp, fun a ha b hb => by rw [List.mem_singleton.mp hb]; exact fun e => hk (e ▸ ha)⟩
theorem len_addK (ks : List Int) (k : Int) : (addK ks k).length ≤ ks.length + 1 := by
  unfold addK; split <;> simp
theorem at_stored (ks : List Int) (f : Int → Value) (k : Int) (v : Value) : valueAt (stored (dk ks f) k v) k = some v := by
  by_cases h : k ∈ ks
  · rw [dk_old h, dk_at h, if_pos rfl]
  · rw [dk_new h, dk_at (List.mem_append_right _ (List.mem_singleton.mpr rfl)), if_pos rfl]
end Mine
namespace Mine
/-! what a heap operation asks, given what stands there -/
section
variable {P : Px} {σ : Hp} {Q : EQ} {QB : Bool → Prop} {QH : Hp → Prop} {QR : Rho → Prop} {ρ : Rho} {a b D : Addr} {x : Str} {v w : Value} {ep ep' : Nat}
structure Fr (σ : Hp) (c : Addr) : Prop where
  out : σ c = none
theorem ne_of' (h' : Fr σ b) {y : MO} (h : σ a = some y) : a ≠ b := ne_of h h'.out
theorem fr_intro {p : Addr → Prop} (h : ∀ c, Fr σ c → p c) : ∀ c, σ c = none → p c := fun c q => h c ⟨q⟩
theorem fr_intro2 {p : Addr → Nat → Prop} (h : ∀ c e, Fr σ c → p c e) : ∀ c e, σ c = none → p c e := fun c e q => h c e ⟨q⟩
theorem Fr.down {y : MO} (h : Fr (upd σ b y) a) : Fr σ a := ⟨(upd_none h.out).2⟩
theorem Ext.fr {σ₀ : Hp} (e : Ext σ₀ σ) (h : Fr σ a) : σ₀ a = Option.none := Ext.none e h.out
theorem Ext.newF {c : Addr} (h : Fr σ c) (x : MO) : Ext σ (upd σ c x) := Ext.new h.out x
theorem Ext.at {σ₀ : Hp} {y : MO} (e : Ext σ₀ σ) (h : σ₀ a = some y) : σ a = some y := e _ _ h
theorem ho_loc (h : ρ x = some v) (q : Q v σ) : Hold (locP x ρ σ Q) := ⟨by unfold locP; rw [h]; exact q⟩
theorem ho_attr {Ca : Addr} {m : Str → Option Value} {n : Nat} (h1 : σ a = some (.inst Ca D)) (h2 : σ D = some (.att m n)) (h3 : isCls Ca = true ∧ (fldOf Ca).contains x = true) (h4 : m x = some v) (h5 : plainV v = true) (q : Q v σ) : Hold (attrP (.ref a) x σ Q) := ⟨by
  unfold attrP; dsimp only; rw [h1]; dsimp only; rw [h2]; dsimp only; rw [h4]; exact ⟨h3, h5, q⟩⟩
theorem ho_setattr {Ca : Addr} {m : Str → Option Value} {n : Nat} (h1 : σ a = some (.inst Ca D)) (h2 : σ D = some (.att m n)) (h3 : isCls Ca = true ∧ (fldOf Ca).contains x = true) (h4 : n ≤ 100) (q : QH (upd σ D (.att (setR m x v) (n + if (m x).isSome then 0 else 1)))) : Hold (setattrP (.ref a) x v σ QH) := ⟨by
  unfold setattrP; dsimp only; rw [h1]; dsimp only; rw [h2]; exact ⟨h3, h4, q⟩⟩
theorem ho_meth {Ca : Addr} {m : Str → Option Value} {n : Nat} {f : Addr} {K : Value → Prop} (h1 : σ a = some (.inst Ca D)) (h2 : σ D = some (.att m n)) (h3 : m x = none) (h4 : isCls Ca = true) (h5 : (methOf Ca).lookup x = some f) (q : K (.ref f)) : Hold (methK (.ref a) x σ K) := ⟨by
  unfold methK methP; dsimp only; rw [h1]; dsimp only; rw [h2]; dsimp only; rw [h3, h4]; dsimp only; rw [h5]; exact q⟩
theorem ho_meth_list {xs : List Value} {f : Value} {K : Value → Prop} (h : σ a = some (.list xs)) (e : (if x = "append" then some (.builtin "list.append") else if x = "pop" then some (.builtin "list.pop") else if x = "extend" then some (.builtin "list.extend") else if x = "remove" then some (.builtin "list.remove") else none) = some f) (q : K f) : Hold (methK (.ref a) x σ K) := ⟨by
  unfold methK methP; dsimp only; rw [h]; dsimp only; rw [e]; exact q⟩
theorem ho_meth_dict {kvs : List (Int × Value)} {f : Value} {K : Value → Prop} (h : σ a = some (.dict kvs ep)) (e : (if x = "get" then some (.builtin "dict.get") else if x = "pop" then some (.builtin "dict.pop") else if x = "update" then some (.builtin "dict.update") else if x = "items" then some (.builtin "dict.items") else if x = "values" then some (.builtin "dict.values") else none) = some f) (q : K f) : Hold (methK (.ref a) x σ K) := ⟨by
  unfold methK methP; dsimp only; rw [h]; dsimp only; rw [e]; exact q⟩
theorem ho_get_dict {kvs : List (Int × Value)} {k : Int} {t : Nat} (h : σ a = some (.dict kvs ep)) (e : valueAt kvs k = some v) (q : Q v σ) : Hold (getP (.ref a) (.int k t) σ Q) := ⟨by
  unfold getP; dsimp only; rw [h]; dsimp only; rw [e]; exact q⟩
theorem ho_get_list {xs : List Value} {k : Int} {t : Nat} (h : σ a = some (.list xs)) (h0 : 0 ≤ k ∧ k < 2 ^ 63) (e : xs[k.toNat]? = some v) (q : Q v σ) : Hold (getP (.ref a) (.int k t) σ Q) := ⟨by
  unfold getP; dsimp only; rw [h]; dsimp only; rw [e]; exact ⟨h0, q⟩⟩
theorem ho_get_tup {xs : List Value} {k : Int} {t : Nat} (h : σ a = some (.tup xs)) (h0 : 0 ≤ k ∧ k < 2 ^ 63) (e : xs[k.toNat]? = some v) (q : Q v σ) : Hold (getP (.ref a) (.int k t) σ Q) := ⟨by
  unfold getP; dsimp only; rw [h]; dsimp only; rw [e]; exact ⟨h0, q⟩⟩
theorem ho_get_sd {kvs : List (Str × Value)} {t : Nat} (h : σ a = some (.sd kvs)) (e : valueAt kvs x = some v) (q : Q v σ) : Hold (getP (.ref a) (.str x t) σ Q) := ⟨by
  unfold getP; dsimp only; rw [h]; dsimp only; rw [e]; exact q⟩
theorem ho_set_dict {kvs : List (Int × Value)} {k : Int} {t : Nat} (h : σ a = some (.dict kvs ep)) (hl : kvs.length ≤ 10000) (q : ∀ ep, QH (upd σ a (.dict (stored kvs k v) ep))) : Hold (setP (.ref a) (.int k t) v σ QH) := ⟨by
  unfold setP; dsimp only; rw [h]; exact ⟨hl, q⟩⟩
theorem ho_set_sd {kvs : List (Str × Value)} {t : Nat} (h : σ a = some (.sd kvs)) (hl : kvs.length ≤ 10000) (q : QH (upd σ a (.sd (stored kvs x v)))) : Hold (setP (.ref a) (.str x t) v σ QH) := ⟨by
  unfold setP; dsimp only; rw [h]; exact ⟨hl, q⟩⟩
theorem any_mem (ns : List Int) (k : Int) : ns.any (· == k) = decide (k ∈ ns) := by
  by_cases h : k ∈ ns
  · rw [decide_eq_true h, List.any_eq_true]; exact ⟨k, h, by simp⟩
  · rw [decide_eq_false h, List.any_eq_false]; intro x hx; simp only [beq_iff_eq]; exact fun e => h (e ▸ hx)
theorem ho_in_dict {ks : List Int} {f : Int → Value} {k : Int} (h : σ a = some (.dict (dk ks f) ep)) (q1 : k ∈ ks → QB true) (q2 : k ∉ ks → QB false) : Hold (inP k a σ QB) := ⟨by
  unfold inP; rw [h]; dsimp only; rw [dk_has]
  by_cases hm : k ∈ ks
  · rw [decide_eq_true hm]; exact q1 hm
  · rw [decide_eq_false hm]; exact q2 hm⟩
theorem ho_in_list {ns : List Int} {k : Int} (h : σ a = some (.list (ns.map vi))) (q1 : k ∈ ns → QB true) (q2 : k ∉ ns → QB false) : Hold (inP k a σ QB) := ⟨by
  unfold inP; rw [h]; dsimp only; rw [allInt_vi]; dsimp only; rw [any_mem]
  by_cases hm : k ∈ ns
  · rw [decide_eq_true hm]; exact q1 hm
  · rw [decide_eq_false hm]; exact q2 hm⟩
theorem ho_in_tup {xs : List Value} {ns : List Int} {k : Int} (h : σ a = some (.tup xs)) (e : allInt xs = some ns) (q1 : k ∈ ns → QB true) (q2 : k ∉ ns → QB false) : Hold (inP k a σ QB) := ⟨by
  unfold inP; rw [h]; dsimp only; rw [e]; dsimp only; rw [any_mem]
  by_cases hm : k ∈ ns
  · rw [decide_eq_true hm]; exact q1 hm
  · rw [decide_eq_false hm]; exact q2 hm⟩
theorem ho_eq_dict {kvs : List (Int × Value)} (h : σ a = some (.dict kvs ep)) (h' : σ b = some (.dict [] ep')) (q1 : kvs = [] → QB true) (q2 : kvs ≠ [] → QB false) : Hold (eqP a b σ QB) := ⟨by
  unfold eqP; rw [h, h']; dsimp only
  cases kvs with
  | nil => exact q1 rfl
  | cons _ _ => exact q2 nofun⟩
theorem ho_eq_list {ns ms : List Int} (h : σ a = some (.list (ns.map vi))) (h' : σ b = some (.list (ms.map vi))) (q1 : ns = ms → QB true) (q2 : ns ≠ ms → QB false) : Hold (eqP a b σ QB) := ⟨by
  unfold eqP; rw [h, h']; dsimp only; rw [allInt_vi, allInt_vi]; dsimp only
  by_cases e : ns = ms
  · rw [decide_eq_true e]; exact q1 e
  · rw [decide_eq_false e]; exact q2 e⟩
theorem ho_ltT {x y : Int} (h : σ a = some (.tup [.bool false, vi x])) (h' : σ b = some (.tup [.bool false, vi y])) (q : ∀ r, QB r) : Hold (ltT a b σ QB) := ⟨⟨_, _, h, h'⟩, q⟩
theorem ho_add {xs ys : List Value} (h : σ a = some (.list xs)) (h' : σ b = some (.list ys)) (hl : xs.length + ys.length ≤ 10000) (q : ∀ c, σ c = none → Q (.ref c) (upd σ c (.list (xs ++ ys)))) : Hold (addL a b σ Q) := ⟨⟨_, _, h, h', hl, q⟩⟩
theorem ho_append {xs : List Value} (h : σ a = some (.list xs)) (hl : xs.length ≤ 10000) (q : Q .none (upd σ a (.list (xs ++ [v])))) : Hold (appendP a v σ Q) := ⟨by
  unfold appendP; rw [h]; exact ⟨hl, q⟩⟩
theorem ho_pop {xs : List Value} (h : σ a = some (.list (xs ++ [v]))) (hl : xs.length + 1 ≤ 10000) (q : Q v (upd σ a (.list xs))) : Hold (popP a σ Q) := ⟨by
  unfold popP; rw [h]; exact ⟨by simpa using hl, xs, v, rfl, q⟩⟩
theorem ho_extend {xs ys : List Value} (h : σ a = some (.list xs)) (h' : σ b = some (.list ys)) (hl : xs.length + ys.length ≤ 10000) (q : Q .none (upd σ a (.list (xs ++ ys)))) : Hold (extendP a b σ Q) := ⟨by
  unfold extendP; rw [h, h']; exact ⟨hl, q⟩⟩
theorem ho_remove {ns : List Int} {k : Int} (h : σ a = some (.list (ns.map vi))) (hl : ns.length ≤ 10000) (hk : k ∈ ns) (q : Q .none (upd σ a (.list ((ns.erase k).map vi)))) : Hold (removeP a k σ Q) := ⟨by
  unfold removeP; rw [h]; exact ⟨ns, rfl, hl, hk, q⟩⟩
theorem ho_dget {kvs : List (Int × Value)} {k : Int} (h : σ a = some (.dict kvs ep)) (q : Q ((valueAt kvs k).getD v) σ) : Hold (dgetP a k v σ Q) := ⟨by
  unfold dgetP; rw [h]; exact q⟩
theorem ho_dpop {kvs : List (Int × Value)} {k : Int} (h : σ a = some (.dict kvs ep)) (hl : kvs.length ≤ 10000) (e : valueAt kvs k = some v) (q : ∀ ep, Q v (upd σ a (.dict (without kvs k) ep))) : Hold (dpopP a k σ Q) := ⟨by
  unfold dpopP; rw [h]; dsimp only; rw [e]; exact ⟨hl, q⟩⟩
theorem ho_dupd {kvs more : List (Int × Value)} (h : σ a = some (.dict kvs ep)) (h' : σ b = some (.dict more ep')) (hn : a ≠ b) (hl : kvs.length + more.length ≤ 10000) (q : ∀ ep, Q .none (upd σ a (.dict (merged kvs more) ep))) : Hold (dupdP a b σ Q) := ⟨by
  unfold dupdP; rw [h, h']; exact ⟨hn, hl, q⟩⟩
theorem ho_items {kvs : List (Int × Value)} (h : σ a = some (.dict kvs ep)) (q : ∀ c, σ c = none → Q (.ref c) (upd σ c (.items a))) : Hold (itemsP a σ Q) := ⟨by
  refine ⟨?_, q⟩; unfold isDict; rw [h]; trivial⟩
theorem ho_values {kvs : List (Int × Value)} (h : σ a = some (.dict kvs ep)) (q : ∀ c, σ c = none → Q (.ref c) (upd σ c (.vals a))) : Hold (valuesP a σ Q) := ⟨by
  refine ⟨?_, q⟩; unfold isDict; rw [h]; trivial⟩
theorem ho_len_list {xs : List Value} (h : σ a = some (.list xs)) (hl : xs.length ≤ 10000) (q : Q (vi xs.length) σ) : Hold (lenP a σ Q) := ⟨by
  unfold lenP; rw [h]; exact ⟨hl, q⟩⟩
theorem ho_len_dict {kvs : List (Int × Value)} (h : σ a = some (.dict kvs ep)) (hl : kvs.length ≤ 10000) (q : Q (vi kvs.length) σ) : Hold (lenP a σ Q) := ⟨by
  unfold lenP; rw [h]; exact ⟨hl, q⟩⟩
theorem ho_range {n : Int} (h0 : 0 ≤ n) (hl : n ≤ 10000) (q : ∀ c, σ c = none → Q (.ref c) (upd σ c (.rng n.toNat))) : Hold (rangeP n σ Q) := ⟨⟨h0, hl, q⟩⟩
theorem ho_list_list {xs : List Value} (h : σ a = some (.list xs)) (hl : xs.length ≤ 10000) (q : ∀ c, σ c = none → Q (.ref c) (upd σ c (.list xs))) : Hold (listP a σ Q) := ⟨by
  unfold listP; rw [h]; exact ⟨hl, q⟩⟩
theorem ho_list_dict {ks : List Int} {f : Int → Value} (h : σ a = some (.dict (dk ks f) ep)) (hl : ks.length ≤ 10000) (q : ∀ c, σ c = none → Q (.ref c) (upd σ c (.list (ks.map vi)))) : Hold (listP a σ Q) := ⟨by
  unfold listP; rw [h]; refine ⟨by rw [dk_len]; exact hl, ?_⟩; rw [dk_keys]; exact q⟩
theorem ho_list_rng {n : Nat} (h : σ a = some (.rng n)) (hl : n ≤ 10000) (q : ∀ c, σ c = none → Q (.ref c) (upd σ c (.list (rangeL n)))) : Hold (listP a σ Q) := ⟨by
  unfold listP; rw [h]; exact ⟨hl, q⟩⟩
theorem ho_dict {kvs : List (Int × Value)} (h : σ a = some (.dict kvs ep)) (hl : kvs.length ≤ 10000) (q : ∀ c ep, σ c = none → Q (.ref c) (upd σ c (.dict kvs ep))) : Hold (dictP a σ Q) := ⟨by
  unfold dictP; rw [h]; exact ⟨hl, q⟩⟩
theorem ho_sorted {ns : List Int} (h : σ a = some (.list (ns.map vi))) (hl : ns.length < 64) (q : ∀ ms : List Int, ms.Perm ns → ms.Pairwise (· ≤ ·) → ∀ c, σ c = none → Q (.ref c) (upd σ c (.list (ms.map vi)))) : Hold (sortedP a σ Q ∨ sortedT a σ Q) := ⟨.inl (by
  unfold sortedP; rw [h]; dsimp only; rw [allInt_vi]; exact ⟨hl, q⟩)⟩
theorem ho_sortedT {xs : List Value} (h : σ a = some (.list xs)) (hl : xs.length ≤ 3) (ht : ∀ v ∈ xs, ∃ b i ns, v = .ref b ∧ σ b = some (.tup ((i :: ns).map vi))) (q : ∀ ys : List Value, ys.Perm xs → ∀ c, σ c = none → Q (.ref c) (upd σ c (.list ys))) : Hold (sortedP a σ Q ∨ sortedT a σ Q) := ⟨.inr (by
  unfold sortedT; rw [h]; refine ⟨hl, fun v hv => ?_, q⟩
  refine e3a2 (ht v hv) fun b i ns hR0_3 hb => ?_
  obtain rfl := hR0_3
  unfold intTup; dsimp only; rw [hb]; exact ⟨i, ns, allInt_vi _⟩)⟩
theorem ho_upto {C : Cx} {xs : List Value} {k : Int} {t : Nat} (h : σ a = some (.list xs)) (h0 : 0 ≤ k) (hl : xs.length ≤ 10000) (q : ∀ c, σ c = none → Q (.ref c) (upd σ c (.list (xs.take k.toNat)))) : Hold (uptoP C (.ref a) (.int k t) σ Q) := ⟨by
  unfold uptoP; dsimp only; rw [h]; exact .inl ⟨h0, hl, q⟩⟩
theorem ho_upto0 {C : Cx} {vs : Array Value} {k : Int} {t : Nat} (h : C.h₀.IsList a vs) (h0 : 0 ≤ k) (hl : vs.size ≤ 10000) (q : ∀ c, σ c = none → Q (.ref c) (upd σ c (.list ((vs.toList.map norm).take k.toNat)))) : Hold (uptoP C (.ref a) (.int k t) σ Q) := ⟨by
  unfold uptoP; dsimp only; exact .inr ⟨vs, h, h0, hl, q⟩⟩
theorem ho_rev {xs : List Value} (h : σ a = some (.list xs)) (hl : xs.length ≤ 10000) (q : ∀ c, σ c = none → Q (.ref c) (upd σ c (.list xs.reverse))) : Hold (revP (.ref a) σ Q) := ⟨by
  unfold revP; dsimp only; rw [h]; exact ⟨hl, q⟩⟩
theorem ho_tup {ts : List Expr} {xs : List Value} (h : σ a = some (.tup xs)) (q : asgs P ts xs ρ QR) : Hold (tupA P ts (.ref a) ρ σ QR) := ⟨by
  unfold tupA; dsimp only; rw [h]; exact q⟩
theorem ho_for {tgt : Expr} {body : Rho → Hp → SQ → Prop} {xs : List Value} {QS : SQ} (h : seqV σ a = some xs) (hl : xs.length ≤ 10000) (q : forL P tgt body a σ xs ρ σ QS) : Hold (forP P tgt body (.ref a) ρ σ QS) := ⟨by
  unfold forP; dsimp only
  split
  · rename_i d e
    unfold seqV at h; rw [e] at h; cases h
  · rw [h]; exact ⟨hl, q⟩⟩
theorem ho_for_items {es : List Expr} {c : Nat} {px : Pos} {body : Rho → Hp → SQ → Prop} {kvs : List (Int × Value)} {QS : SQ} (h : σ a = some (.items D)) (h' : σ D = some (.dict kvs ep)) (hl : kvs.length ≤ 10000) (q : forI P es body a σ kvs ρ σ QS) : Hold (forP P (.Tuple es c px) body (.ref a) ρ σ QS) := ⟨by
  unfold forP; dsimp only; rw [h]; dsimp only; rw [h']; exact ⟨hl, q⟩⟩
theorem seq_list {xs : List Value} (h : σ a = some (.list xs)) : seqV σ a = some xs := by unfold seqV; rw [h]
theorem seq_tup {xs : List Value} (h : σ a = some (.tup xs)) : seqV σ a = some xs := by unfold seqV; rw [h]
theorem seq_dict {ks : List Int} {f : Int → Value} (h : σ a = some (.dict (dk ks f) ep)) : seqV σ a = some (ks.map vi) := by unfold seqV; rw [h]; dsimp only; rw [dk_keys]
theorem seq_rng {n : Nat} (h : σ a = some (.rng n)) : seqV σ a = some (rangeL n) := by unfold seqV; rw [h]
theorem seq_vals {ks : List Int} {f : Int → Value} (h : σ a = some (.vals D)) (h' : σ D = some (.dict (dk ks f) ep)) : seqV σ a = some (ks.map f) := by
  unfold seqV; rw [h]; dsimp only; rw [h']; dsimp only [dk]; rw [List.map_map]; rfl
theorem ho_comp {px : Pos} {ifs : List Expr} {elt : Expr} {sc : Scope} {fe : Expr → Rho → Hp → EQ → Prop} {ft : Expr → Rho → Hp → TQ → Prop} {xs : List Value} (h : seqV σ a = some xs) (hl : xs.length ≤ 10000)
    (q : ∀ acc, σ acc = none → compL { P with ns := relN sc.names P.ns, fz := true } (.Name x px) ifs elt fe ft a σ acc xs (compR sc.names P.ns ρ) (upd σ acc (.list [])) fun σ => Q (.ref acc) σ) : Hold (compS P x px ifs elt sc fe ft ρ (.ref a) σ Q) := ⟨by
  unfold compS; dsimp only; rw [h]; exact ⟨hl, q⟩⟩
end
/-! sums that come again and again -/
theorem le_le {a b c d : Nat} (h : a ≤ b) (h' : b ≤ c) (e : Nat.ble c d = true) : a ≤ d := Nat.le_trans h (Nat.le_trans h' (Nat.le_of_ble_eq_true e))
theorem le_two {a b c d : Nat} (h : a ≤ c) (h' : b ≤ d) (e : Nat.ble c 5000 = true) (e' : Nat.ble d 5000 = true) : a + b ≤ 10000 :=
  Nat.add_le_add (b := 5000) (d := 5000) (Nat.le_trans h (Nat.le_of_ble_eq_true e)) (Nat.le_trans h' (Nat.le_of_ble_eq_true e'))
theorem le_part {a b n c : Nat} (h : n = a + b) (h' : n ≤ c) : a ≤ c := Nat.le_trans (Nat.le_add_right a b) (h ▸ h')
theorem le_part' {i : Int} {a b c : Nat} (h : i.toNat = a + b) (h' : i < ((c + 1 : Nat) : Int)) : a ≤ c := le_part h (by omega)
theorem le_part'' {i : Int} {a b n c : Nat} (h : i.toNat = a + b) (h1 : 0 ≤ i ∧ i < (n : Int)) (h2 : n ≤ c) : a ≤ c := le_part h (by omega)
end Mine
namespace Mine
set_option maxRecDepth 100000
set_option maxHeartbeats 4000000
set_option hygiene false
local macro_rules | `(tactic| tb_start) => `(tactic| ((try with_reducible refine exs_h ?_); (try first | refine (?_ : Hold _) | refine (?_ : _ ∧ _) | refine (?_ : Sp _ _ _ _ _ _) | refine (?_ : ∀ c : Addr, _ = none → _) | conv => whnf); repeat (first | (with_reducible refine exs_h ?_) | ((with_reducible first | refine ev_h ?_ | refine tst_h ?_ | refine ex_h ?_); first | refine (?_ : Hold _) | refine (?_ : _ ∧ _) | refine (?_ : Sp _ _ _ _ _ _) | refine (?_ : ∀ c : Addr, _ = none → _) | conv => whnf))))
local macro_rules | `(tactic| o_reads) => `(tactic| with_reducible first
  | assumption
  | exact upd_self _ _ _
  | (apply upd_some); o_reads; o_fieldsN
  | (apply Ext.at); assumption; o_reads)
local macro_rules | `(tactic| o_fieldsN) => `(tactic| with_reducible first
  | assumption
  | exact Ne.symm (by assumption)
  | exact ne_of' (by assumption) (by o_reads)
  | exact Ne.symm (ne_of' (by assumption) (by o_reads)))
local macro_rules | `(tactic| o_shape) => `(tactic| first
  | with_reducible assumption
  | rfl
  | exact ⟨rfl, rfl⟩
  | assumption
  | decide)
local macro_rules | `(tactic| o_readsAll) => `(tactic| first
  | with_reducible first
    | exact Nat.le_trans (by assumption) (Nat.le_of_ble_eq_true rfl)
    | exact le_le (by assumption) (by assumption) rfl
    | exact Nat.le_trans (by assumption) (Nat.le_add_right _ _)
    | exact Nat.le_trans (Nat.le_add_right _ _) (by assumption)
    | exact Nat.add_le_add_right (by assumption) _
    | exact Nat.le_add_right _ _
    | exact le_part (by assumption) (by assumption)
    | exact le_two (by assumption) (by assumption) rfl rfl
  | omega)
local macro_rules | `(tactic| w_left) => `(tactic| first
  | with_reducible first | assumption | exact Nat.le_of_ble_eq_true rfl
  | (rw [dk_len]); w_left
  | o_readsAll
  | (simp only [List.length_append, List.length_map, List.length_reverse, List.length_cons, List.length_nil]; o_readsAll)
  | exact Nat.le_of_ble_eq_true rfl
  | decide)
local macro_rules | `(tactic| w_fin) => `(tactic| first
  | with_reducible assumption
  | exact dk_at (by assumption)
  | exact at_stored _ _ _ _)
local macro_rules | `(tactic| tb_rel) => `(tactic| first
  | (with_reducible apply ho_loc); o_shape
  | (with_reducible first | apply ho_attr | apply ho_meth); o_reads; o_reads; o_shape; o_shape; o_shape
  | (with_reducible apply ho_setattr); o_reads; o_reads; o_shape; w_left
  | (with_reducible first | apply ho_meth_list | apply ho_get_sd); o_reads; rfl
  | (with_reducible apply ho_meth_dict); o_reads; rfl
  | (with_reducible apply ho_get_dict); o_reads; w_fin
  | (with_reducible apply ho_get_tup); o_reads; decide; rfl
  | (with_reducible apply ho_get_list); o_reads; decide; rfl
  | (with_reducible apply ho_set_dict); o_reads; w_left; intro _
  | (with_reducible first | apply ho_set_sd | apply ho_append | apply ho_len_list | apply ho_list_list | apply ho_rev); o_reads; w_left
  | (with_reducible first | apply ho_len_dict | apply ho_list_dict | apply ho_dict); o_reads; w_left
  | (with_reducible apply ho_list_rng); o_reads; w_left
  | (with_reducible first | apply ho_extend | apply ho_add); o_reads; o_reads; w_left
  | (with_reducible first | apply ho_items | apply ho_values | apply ho_dget | apply ho_tup); o_reads
  | (with_reducible apply And.intro); focus (and_intros <;> o_shape))

structure WellAt (σ : Hp) (w g : Addr) : Prop where
  at_ : ∃ (a l : Int) (ns : List Int), σ w = some (.sd [("given", .ref g), ("at", vi a), ("last", vi l)]) ∧ σ g = some (.list (ns.map vi)) ∧ 0 ≤ a ∧ ns.length ≤ 100
theorem WellAt.of {σ : Hp} {w g : Addr} {a l : Int} {ns : List Int} {kvs : List (Str × Value)} (h1 : σ w = some (.sd kvs)) (e : kvs = [(("given" : Str), .ref g), ("at", vi a), ("last", vi l)]) (h2 : σ g = some (.list (ns.map vi))) (h3 : 0 ≤ a) (h4 : ns.length ≤ 100) : WellAt σ w g :=
  ⟨a, l, ns, by rw [h1, e], h2, h3, h4⟩
theorem draw_spec {C : Cx} (B : Bs C) (hK : KOk C.K) {k : Nat} {w g : Addr} {size : Int} {σ : Hp} (hs : 0 < size) (hw : WellAt σ w g) :
    Sp C (k + 1) (.ref 262) [.ref w, vi size] σ fun v σ' => ∃ r, v = vi r ∧ 0 ≤ r ∧ r < size ∧ WellAt σ' w g ∧ ∀ b, b ≠ w → σ' b = σ b := by
  refine fn_startL B (fn_262 hK) lk_262_dbg rfl rfl ?_
  intro PX
  refine hideG fun PG kG => ?_
  obtain ⟨a, l, ns, h1, h2, h3, h4⟩ := hw
  refine kG ?_
  clear kG PG
  have hgw : g ≠ w := by rintro rfl; rw [h1] at h2; cases h2
  tb_start
  repeat (tb_rel; tb_start)
  split
  · rename_i hlt
    replace hlt : a < ((ns.map vi).length : Int) := of_decide_eq_true hlt
    rw [List.length_map] at hlt
    have hx : (ns.map vi)[a.toNat]? = some (vi (ns[a.toNat]'(by o_readsAll))) := by
      rw [List.getElem?_map, List.getElem?_eq_getElem (by o_readsAll)]; rfl
    tb_start
    repeat (tb_rel; tb_start)
    refine ho_get_list (by o_reads) ⟨h3, by o_readsAll⟩ hx ?_
    tb_start
    repeat (tb_rel; tb_start)
    refine ⟨by o_readsAll, _, rfl, Int.fmod_nonneg_of_pos _ (by o_readsAll), Int.fmod_lt_of_pos _ (by o_readsAll), WellAt.of (upd_self _ _ _) rfl (by o_reads) (by o_readsAll) h4, fun b hb => by rw [upd_ne _ _ hb, upd_ne _ _ hb]⟩
  · tb_start
    repeat (tb_rel; tb_start)
    refine ⟨by o_readsAll, _, rfl, Int.fmod_nonneg_of_pos _ (by o_readsAll), Int.fmod_lt_of_pos _ (by o_readsAll), WellAt.of (upd_self _ _ _) rfl (by o_reads) (by o_readsAll) h4, fun b hb => by rw [upd_ne _ _ hb, upd_ne _ _ hb]⟩
theorem nodup_le {l : List Int} : ∀ {m : List Int}, l.Nodup → (∀ x ∈ l, x ∈ m) → l.length ≤ m.length := by
  induction l with
  | nil => intro m _ _; exact Nat.zero_le _
  | cons x l ih =>
    intro m hn hs
    rw [List.nodup_cons] at hn
    have hx : x ∈ m := hs x (List.mem_cons_self ..)
    have := ih (m := m.erase x) hn.2 fun y hy => (List.mem_erase_of_ne (fun e : y = x => hn.1 (e ▸ hy))).mpr (hs y (List.mem_cons_of_mem _ hy))
    rw [List.length_erase_of_mem hx] at this
    have : 0 < m.length := List.length_pos_of_mem hx
    rw [List.length_cons]; o_readsAll
/-! the graph -/
structure Gr where
  keys : List Int
  near : Int → List Int
  cost : Int → Int
  ali : Int → Int
  cross : List Int
structure GA where
  g : Addr
  D : Addr
  N : Addr
  X : Addr
  Cs : Addr
  Cp : Addr
  Al : Addr
  nb : Int → Addr
structure GrOk (G : Gr) : Prop where
  nodup : G.keys.Nodup
  len : G.keys.length ≤ 10
  sub : ∀ k ∈ G.keys, ∀ j ∈ G.near k, j ∈ G.keys
  nd : ∀ k ∈ G.keys, (G.near k).Nodup
  xsub : ∀ j ∈ G.cross, j ∈ G.keys
  xnd : G.cross.Nodup
  al : ∀ k ∈ G.keys, G.ali k ∈ G.keys
theorem GrOk.nlen {G : Gr} (H : GrOk G) {k : Int} (h : k ∈ G.keys) : (G.near k).length ≤ 10 := Nat.le_trans (nodup_le (H.nd k h) (H.sub k h)) H.len
theorem GrOk.xlen {G : Gr} (H : GrOk G) : G.cross.length ≤ 10 := Nat.le_trans (nodup_le H.xnd H.xsub) H.len
structure GraphAt (σ : Hp) (A : GA) (G : Gr) (cps : List Value) : Prop where
  inst : σ A.g = some (.inst 187 A.D)
  att : ∃ m n, σ A.D = some (.att m n) ∧ n ≤ 50 ∧ m "near" = some (.ref A.N) ∧ m "crosses" = some (.ref A.X) ∧ m "cost" = some (.ref A.Cs) ∧ m "copies" = some (.ref A.Cp) ∧ m "alias" = some (.ref A.Al) ∧
    m "add" = none ∧ m "touch" = none ∧ m "join" = none ∧ m "leader" = none ∧ m "leaders" = none ∧ m "members" = none ∧ m "merge" = none
  near : ∃ ep, σ A.N = some (.dict (dk G.keys fun k => .ref (A.nb k)) ep)
  nbs : ∀ k ∈ G.keys, ∃ ep, σ (A.nb k) = some (.dict (ds (G.near k)) ep)
  cross : ∃ ep, σ A.X = some (.dict (ds G.cross) ep)
  cost : ∃ ep, σ A.Cs = some (.dict (dk G.keys fun k => vi (G.cost k)) ep)
  ali : ∃ ep, σ A.Al = some (.dict (dk G.keys fun k => vi (G.ali k)) ep)
  copies : σ A.Cp = some (.list cps)
  sep : A.N ≠ A.X ∧ A.N ≠ A.Cs ∧ A.N ≠ A.Al ∧ A.X ≠ A.Cs ∧ A.X ≠ A.Al ∧ A.Cs ≠ A.Al
  sepn : ∀ k ∈ G.keys, A.nb k ≠ A.N ∧ A.nb k ≠ A.X ∧ A.nb k ≠ A.Cs ∧ A.nb k ≠ A.Al
  inj : ∀ j ∈ G.keys, ∀ k ∈ G.keys, A.nb j = A.nb k → j = k
  ok : GrOk G
/-- the places that a graph's methods may change -/
noncomputable def Foot (A : GA) (ks : List Int) (b : Addr) : Prop := b = A.N ∨ b = A.X ∨ b = A.Cs ∨ b = A.Al ∨ ∃ k ∈ ks, b = A.nb k
theorem GraphAt.ext {σ σ' : Hp} {A : GA} {G : Gr} {cps : List Value} (H : GraphAt σ A G cps) (e : Ext σ σ') : GraphAt σ' A G cps := by
  refine e2a2 H.att fun m n h1 h2 => ?_
  refine e1a1 H.near fun e1 h3 => ?_
  refine e1a1 H.cross fun e2 h4 => ?_
  refine e1a1 H.cost fun e3 h5 => ?_
  refine e1a1 H.ali fun e4 h6 => ?_
  exact ⟨e _ _ H.inst, ⟨m, n, e _ _ h1, h2⟩, ⟨e1, e _ _ h3⟩, fun k hk => let ⟨ep, h⟩ := H.nbs k hk; ⟨ep, e _ _ h⟩, ⟨e2, e _ _ h4⟩, ⟨e3, e _ _ h5⟩, ⟨e4, e _ _ h6⟩, e _ _ H.copies, H.sep, H.sepn, H.inj, H.ok⟩
noncomputable def Gr0 : Gr := ⟨[], fun _ => [], fun _ => 0, fun _ => 0, []⟩
theorem GraphAt.new0 {σ : Hp} {x D N X Cs Cp Al : Addr} {m : Str → Option Value} {n e1 e2 e3 e4 : Nat} (h1 : σ x = some (.inst 187 D)) (h2 : σ D = some (.att m n)) (h3 : n ≤ 50)
    (h4 : m "near" = some (.ref N) ∧ m "crosses" = some (.ref X) ∧ m "cost" = some (.ref Cs) ∧ m "copies" = some (.ref Cp) ∧ m "alias" = some (.ref Al) ∧
    m "add" = none ∧ m "touch" = none ∧ m "join" = none ∧ m "leader" = none ∧ m "leaders" = none ∧ m "members" = none ∧ m "merge" = none)
    (a1 : σ N = some (.dict [] e1)) (a2 : σ X = some (.dict [] e2)) (a3 : σ Cs = some (.dict [] e3)) (a4 : σ Al = some (.dict [] e4)) (a5 : σ Cp = some (.list []))
    (hs : N ≠ X ∧ N ≠ Cs ∧ N ≠ Al ∧ X ≠ Cs ∧ X ≠ Al ∧ Cs ≠ Al) : GraphAt σ ⟨x, D, N, X, Cs, Cp, Al, fun _ => 0⟩ Gr0 [] :=
  ⟨h1, ⟨m, n, h2, h3, h4⟩, ⟨e1, a1⟩, fun k hk => (by cases hk), ⟨e2, a2⟩, ⟨e3, a3⟩, ⟨e4, a4⟩, a5, hs, fun k hk => (by cases hk), fun k hk => (by cases hk),
    ⟨List.nodup_nil, Nat.zero_le _, fun k hk => (by cases hk), fun k hk => (by cases hk), fun k hk => (by cases hk), List.nodup_nil, fun k hk => (by cases hk)⟩⟩
theorem graph_new {C : Cx} (B : Bs C) (hK : KOk C.K) {k : Nat} {σ : Hp} : Sp C (k + 2) (.ref 187) [] σ fun v σ' => ∃ A, v = .ref A.g ∧ GraphAt σ' A Gr0 [] ∧ Ext σ σ' ∧ (∀ b, b = A.g ∨ b = A.D ∨ b = A.N ∨ b = A.X ∨ b = A.Cs ∨ b = A.Cp ∨ b = A.Al → σ b = none) := by
  refine call_cls' B (by rfl) fun x D hx hD hne => ?_
  refine fn_startL B (fn_139 hK) lk_139_dbg rfl rfl ?_
  intro PX
  have hsx : upd (upd σ D (.att (fun _ => none) 0)) x (.inst 187 D) x = some (.inst 187 D) := upd_self _ _ _
  have hsD : upd (upd σ D (.att (fun _ => none) 0)) x (.inst 187 D) D = some (.att (fun _ => none) 0) := by rw [upd_ne _ _ hne.symm, upd_self]
  have hext : Ext σ (upd (upd σ D (.att (fun _ => none) 0)) x (.inst 187 D)) := (Ext.new hD _).trans (Ext.new (by rw [upd_ne _ _ hne]; exact hx) _)
  generalize upd (upd σ D (.att (fun _ => none) 0)) x (.inst 187 D) = σ₀ at *
  tb_start
  repeat (tb_rel; tb_start)
  refine fr_intro2 fun N ep hN => ?_
  tb_start
  repeat (tb_rel; tb_start)
  refine fr_intro2 fun X ep hX => ?_
  tb_start
  repeat (tb_rel; tb_start)
  refine fr_intro2 fun Cs ep hCs => ?_
  tb_start
  repeat (tb_rel; tb_start)
  refine fr_intro fun Cp hCp => ?_
  tb_start
  repeat (tb_rel; tb_start)
  refine fr_intro2 fun Al ep hAl => ?_
  tb_start
  repeat (tb_rel; tb_start)
  have fN := hext.fr hN
  have fX : σ X = none := hext.fr hX.down.down
  have fCs : σ Cs = none := hext.fr hCs.down.down.down.down
  have fCp : σ Cp = none := hext.fr hCp.down.down.down.down.down.down
  have fAl : σ Al = none := hext.fr hAl.down.down.down.down.down.down.down.down
  refine ⟨⟨x, D, N, X, Cs, Cp, Al, fun _ => 0⟩, rfl, ?_, ?_, ?_⟩
  · refine GraphAt.new0 (by o_reads) (by o_reads) (Nat.le_of_ble_eq_true rfl) ⟨rfl, rfl, rfl, rfl, rfl, rfl, rfl, rfl, rfl, rfl, rfl, rfl⟩ (by o_reads) (by o_reads) (by o_reads) (by o_reads) (by o_reads) ⟨?_, ?_, ?_, ?_, ?_, ?_⟩ <;> o_fieldsN
  · intro b y q
    have q0 := hext b y q
    have hbD : b ≠ D := ne_of q hD
    o_reads
  · rintro b (rfl | rfl | rfl | rfl | rfl | rfl | rfl) <;> assumption
theorem ne_kind {σ : Hp} {a b : Addr} {x y : MO} (h : σ a = some x) (h' : σ b = some y) (hxy : x ≠ y) : a ≠ b := fun e => by
  rw [e, h'] at h; exact hxy (Option.some.inj h).symm
section
variable {σ : Hp} {A : GA} {G : Gr} {cps : List Value}
theorem GraphAt.setNear (H : GraphAt σ A G cps) {k : Int} (hk : k ∈ G.keys) {l : List Int} (hl : ∀ j ∈ l, j ∈ G.keys) (hd : l.Nodup) (ep : Nat) :
    GraphAt (upd σ (A.nb k) (.dict (ds l) ep)) A { G with near := fun j => if j = k then l else G.near j } cps := by
  refine e2a2 H.att fun m n h1 h2 => ?_
  refine e1a1 H.near fun e1 h3 => ?_
  refine e1a1 H.cross fun e2 h4 => ?_
  refine e1a1 H.cost fun e3 h5 => ?_
  refine e1a1 H.ali fun e4 h6 => ?_
  refine e1a1 (H.nbs k hk) fun e5 h7 => ?_
  refine e0a4 (H.sepn k hk) fun n1 n2 n3 n4 => ?_
  refine ⟨upd_some H.inst (ne_kind H.inst h7 nofun), ⟨m, n, upd_some h1 (ne_kind h1 h7 nofun), h2⟩, ⟨e1, upd_some h3 n1.symm⟩, fun j hj => ?_, ⟨e2, upd_some h4 n2.symm⟩, ⟨e3, upd_some h5 n3.symm⟩, ⟨e4, upd_some h6 n4.symm⟩, upd_some H.copies (ne_kind H.copies h7 nofun), H.sep, H.sepn, H.inj, ?_⟩
  · by_cases e : j = k
    · subst e; refine ⟨ep, ?_⟩; dsimp only; rw [if_pos rfl]; exact upd_self _ _ _
    · refine e1a1 (H.nbs j hj) fun e6 h8 => ?_
      refine ⟨e6, ?_⟩; dsimp only; rw [if_neg e]; exact upd_some h8 fun q => e (H.inj j hj k hk q)
  · have O := H.ok
    refine ⟨O.nodup, O.len, fun j hj => ?_, fun j hj => ?_, O.xsub, O.xnd, O.al⟩ <;> dsimp only <;> split
    · exact hl
    · exact O.sub j hj
    · exact hd
    · exact O.nd j hj
theorem GraphAt.setCross (H : GraphAt σ A G cps) {l : List Int} (hl : ∀ j ∈ l, j ∈ G.keys) (hd : l.Nodup) (ep : Nat) :
    GraphAt (upd σ A.X (.dict (ds l) ep)) A { G with cross := l } cps := by
  refine e2a2 H.att fun m n h1 h2 => ?_
  refine e1a1 H.near fun e1 h3 => ?_
  refine e1a1 H.cross fun e2 h4 => ?_
  refine e1a1 H.cost fun e3 h5 => ?_
  refine e1a1 H.ali fun e4 h6 => ?_
  refine e0a6 H.sep fun s1 s2 s3 s4 s5 s6 => ?_
  refine ⟨upd_some H.inst (ne_kind H.inst h4 nofun), ⟨m, n, upd_some h1 (ne_kind h1 h4 nofun), h2⟩, ⟨e1, upd_some h3 s1⟩, fun j hj => ?_, ⟨ep, upd_self _ _ _⟩, ⟨e3, upd_some h5 s4.symm⟩, ⟨e4, upd_some h6 s5.symm⟩, upd_some H.copies (ne_kind H.copies h4 nofun), H.sep, H.sepn, H.inj, ?_⟩
  · refine e1a1 (H.nbs j hj) fun e6 h8 => ?_
    exact ⟨e6, upd_some h8 (H.sepn j hj).2.1⟩
  · have O := H.ok
    exact ⟨O.nodup, O.len, O.sub, O.nd, hl, hd, O.al⟩
theorem GraphAt.setCost (H : GraphAt σ A G cps) (f : Int → Int) (ep : Nat) :
    GraphAt (upd σ A.Cs (.dict (dk G.keys fun k => vi (f k)) ep)) A { G with cost := f } cps := by
  refine e2a2 H.att fun m n h1 h2 => ?_
  refine e1a1 H.near fun e1 h3 => ?_
  refine e1a1 H.cross fun e2 h4 => ?_
  refine e1a1 H.cost fun e3 h5 => ?_
  refine e1a1 H.ali fun e4 h6 => ?_
  refine e0a6 H.sep fun s1 s2 s3 s4 s5 s6 => ?_
  refine ⟨upd_some H.inst (ne_kind H.inst h5 nofun), ⟨m, n, upd_some h1 (ne_kind h1 h5 nofun), h2⟩, ⟨e1, upd_some h3 s2⟩, fun j hj => ?_, ⟨e2, upd_some h4 s4⟩, ⟨ep, upd_self _ _ _⟩, ⟨e4, upd_some h6 s6.symm⟩, upd_some H.copies (ne_kind H.copies h5 nofun), H.sep, H.sepn, H.inj, ?_⟩
  · refine e1a1 (H.nbs j hj) fun e6 h8 => ?_
    exact ⟨e6, upd_some h8 (H.sepn j hj).2.2.1⟩
  · have O := H.ok
    exact ⟨O.nodup, O.len, O.sub, O.nd, O.xsub, O.xnd, O.al⟩
theorem GraphAt.setAlias (H : GraphAt σ A G cps) (f : Int → Int) (hf : ∀ k ∈ G.keys, f k ∈ G.keys) (ep : Nat) :
    GraphAt (upd σ A.Al (.dict (dk G.keys fun k => vi (f k)) ep)) A { G with ali := f } cps := by
  refine e2a2 H.att fun m n h1 h2 => ?_
  refine e1a1 H.near fun e1 h3 => ?_
  refine e1a1 H.cross fun e2 h4 => ?_
  refine e1a1 H.cost fun e3 h5 => ?_
  refine e1a1 H.ali fun e4 h6 => ?_
  refine e0a6 H.sep fun s1 s2 s3 s4 s5 s6 => ?_
  refine ⟨upd_some H.inst (ne_kind H.inst h6 nofun), ⟨m, n, upd_some h1 (ne_kind h1 h6 nofun), h2⟩, ⟨e1, upd_some h3 s3⟩, fun j hj => ?_, ⟨e2, upd_some h4 s5⟩, ⟨e3, upd_some h5 s6⟩, ⟨ep, upd_self _ _ _⟩, upd_some H.copies (ne_kind H.copies h6 nofun), H.sep, H.sepn, H.inj, ?_⟩
  · refine e1a1 (H.nbs j hj) fun e6 h8 => ?_
    exact ⟨e6, upd_some h8 (H.sepn j hj).2.2.2⟩
  · have O := H.ok
    exact ⟨O.nodup, O.len, O.sub, O.nd, O.xsub, O.xnd, hf⟩
/-- a leader gets a row of its own anew -/
theorem GraphAt.newNear (H : GraphAt σ A G cps) {k : Int} (hk : k ∈ G.keys) {d : Addr} (hd : Fr σ d) (e e' : Nat) :
    GraphAt (upd (upd σ d (.dict (ds []) e)) A.N (.dict (dk G.keys fun j => if j = k then .ref d else .ref (A.nb j)) e')) { A with nb := fun j => if j = k then d else A.nb j } { G with near := fun j => if j = k then [] else G.near j } cps := by
  refine e2a2 H.att fun m n h1 h2 => ?_
  refine e1a1 H.near fun e1 h3 => ?_
  refine e1a1 H.cross fun e2 h4 => ?_
  refine e1a1 H.cost fun e3 h5 => ?_
  refine e1a1 H.ali fun e4 h6 => ?_
  refine e0a6 H.sep fun s1 s2 s3 s4 s5 s6 => ?_
  have dn : ∀ {b : Addr} {x : MO}, σ b = some x → b ≠ d := fun q => ne_of' hd q
  refine ⟨upd_some (upd_some H.inst (dn H.inst)) (ne_kind H.inst h3 nofun), ⟨m, n, upd_some (upd_some h1 (dn h1)) (ne_kind h1 h3 nofun), h2⟩, ⟨e', ?_⟩, fun j hj => ?_, ⟨e2, upd_some (upd_some h4 (dn h4)) s1.symm⟩, ⟨e3, upd_some (upd_some h5 (dn h5)) s2.symm⟩, ⟨e4, upd_some (upd_some h6 (dn h6)) s3.symm⟩, upd_some (upd_some H.copies (dn H.copies)) (ne_kind H.copies h3 nofun), H.sep, fun j hj => ?_, fun i hi j hj => ?_, ?_⟩
  · have e0 : (fun j => if j = k then Value.ref d else .ref (A.nb j)) = fun j => Value.ref (if j = k then d else A.nb j) := by funext j; split <;> rfl
    show upd _ A.N _ A.N = _
    rw [upd_self, e0]
  · by_cases q : j = k
    · subst q; refine ⟨e, ?_⟩; dsimp only; rw [if_pos rfl, if_pos rfl]; exact upd_some (upd_self _ _ _) (dn h3).symm
    · refine e1a1 (H.nbs j hj) fun e6 h8 => ?_
      refine ⟨e6, ?_⟩; dsimp only; rw [if_neg q, if_neg q]; exact upd_some (upd_some h8 (dn h8)) (H.sepn j hj).1
  · dsimp only
    split
    · exact ⟨(dn h3).symm, (dn h4).symm, (dn h5).symm, (dn h6).symm⟩
    · exact H.sepn j hj
  · dsimp only
    refine e1a1 (H.nbs i hi) fun _ q1 => ?_
    refine e1a1 (H.nbs j hj) fun _ q2 => ?_
    split <;> split
    · rename_i e1 e2; intro _; rw [e1, e2]
    · exact fun q => absurd q.symm (dn q2)
    · exact fun q => absurd q (dn q1)
    · exact H.inj i hi j hj
  · have O := H.ok
    refine ⟨O.nodup, O.len, fun j hj => ?_, fun j hj => ?_, O.xsub, O.xnd, O.al⟩ <;> dsimp only <;> split
    · nofun
    · exact O.sub j hj
    · exact List.nodup_nil
    · exact O.nd j hj
/-- a cell comes in -/
noncomputable def addG (G : Gr) (k c : Int) : Gr := { G with keys := G.keys ++ [k], near := fun j => if j = k then [] else G.near j, cost := fun j => if j = k then c else G.cost j, ali := fun j => if j = k then k else G.ali j }
theorem GraphAt.add (H : GraphAt σ A G cps) {k c : Int} (hk : k ∉ G.keys) (hn : G.keys.length + 1 ≤ 10) {d : Addr} (hd : Fr σ d) (e e1 e2 e3 : Nat) {τ : Hp}
    (hN : τ A.N = some (.dict (dk (G.keys ++ [k]) fun j => if j = k then .ref d else .ref (A.nb j)) e1)) (hC : τ A.Cs = some (.dict (dk (G.keys ++ [k]) fun j => if j = k then vi c else vi (G.cost j)) e2)) (hA : τ A.Al = some (.dict (dk (G.keys ++ [k]) fun j => if j = k then vi k else vi (G.ali j)) e3))
    (hD : τ d = some (.dict [] e)) (ho : ∀ b, b ≠ A.N → b ≠ A.Cs → b ≠ A.Al → b ≠ d → τ b = σ b) : GraphAt τ { A with nb := fun j => if j = k then d else A.nb j } (addG G k c) cps := by
  refine e2a2 H.att fun m n h1 h2 => ?_
  refine e1a1 H.near fun e1 h3 => ?_
  refine e1a1 H.cross fun e2 h4 => ?_
  refine e1a1 H.cost fun e3 h5 => ?_
  refine e1a1 H.ali fun e4 h6 => ?_
  refine e0a6 H.sep fun s1 s2 s3 s4 s5 s6 => ?_
  have dn : ∀ {b : Addr} {x : MO}, σ b = some x → b ≠ d := fun q => ne_of' hd q
  have f0 : (fun j => if j = k then Value.ref d else .ref (A.nb j)) = fun j => Value.ref (if j = k then d else A.nb j) := by funext j; split <;> rfl
  have f1 : (fun j => if j = k then vi c else vi (G.cost j)) = fun j => vi (if j = k then c else G.cost j) := by funext j; split <;> rfl
  have f2 : (fun j => if j = k then vi k else vi (G.ali j)) = fun j => vi (if j = k then k else G.ali j) := by funext j; split <;> rfl
  rw [f0] at hN
  rw [f1] at hC
  rw [f2] at hA
  have nk : ∀ {b : Addr} {x : MO}, σ b = some x → (∀ k e, x ≠ .dict k e) → τ b = some x := fun q hx => by
    rw [ho _ (ne_kind q h3 (hx _ _)) (ne_kind q h5 (hx _ _)) (ne_kind q h6 (hx _ _)) (dn q)]; exact q
  have ik : ∀ {j : Int}, j ∈ G.keys → j ≠ k := fun hj e => hk (e ▸ hj)
  refine ⟨nk H.inst nofun, ⟨m, n, nk h1 nofun, h2⟩, ⟨_, hN⟩, fun j hj => ?_, ⟨_, (ho _ s1.symm s4 s5 (dn h4)).trans h4⟩, ⟨_, hC⟩, ⟨_, hA⟩, nk H.copies nofun, H.sep, fun j hj => ?_, fun i hi j hj => ?_, ?_⟩
  · rcases List.mem_append.mp hj with hj | hj
    · refine e1a1 (H.nbs j hj) fun e6 h8 => ?_
      refine e0a4 (H.sepn j hj) fun n1 n2 n3 n4 => ?_
      refine ⟨e6, ?_⟩; dsimp only [addG]; rw [if_neg (ik hj), if_neg (ik hj), ho _ n1 n3 n4 (dn h8)]; exact h8
    · cases List.mem_singleton.mp hj
      refine ⟨e, ?_⟩; dsimp only [addG]; rw [if_pos rfl, if_pos rfl]; exact hD
  · rcases List.mem_append.mp hj with hj | hj
    · dsimp only; rw [if_neg (ik hj)]; exact H.sepn j hj
    · cases List.mem_singleton.mp hj
      dsimp only; rw [if_pos rfl]
      exact ⟨(dn h3).symm, (dn h4).symm, (dn h5).symm, (dn h6).symm⟩
  · dsimp only
    rcases List.mem_append.mp hi with hi | hi <;> rcases List.mem_append.mp hj with hj | hj
    · rw [if_neg (ik hi), if_neg (ik hj)]; exact H.inj i hi j hj
    · cases List.mem_singleton.mp hj
      refine e1a1 (H.nbs i hi) fun _ q1 => ?_
      rw [if_neg (ik hi), if_pos rfl]; exact fun q => absurd q (dn q1)
    · cases List.mem_singleton.mp hi
      refine e1a1 (H.nbs j hj) fun _ q1 => ?_
      rw [if_neg (ik hj), if_pos rfl]; exact fun q => absurd q.symm (dn q1)
    · cases List.mem_singleton.mp hi; cases List.mem_singleton.mp hj; exact fun _ => rfl
  · have O := H.ok
    have ms : ∀ {j : Int}, j ∈ G.keys → j ∈ G.keys ++ [k] := fun h => List.mem_append_left _ h
    refine ⟨?_, by dsimp only [addG]; rw [List.length_append]; exact hn, fun j hj => ?_, fun j hj => ?_, fun j hj => ms (O.xsub j hj), O.xnd, fun j hj => ?_⟩
    · exact List.nodup_append.mpr ⟨O.nodup, by simp, fun a ha b hb => by rw [List.mem_singleton.mp hb]; exact fun e => hk (e ▸ ha)⟩
    all_goals rcases List.mem_append.mp hj with hj | hj
    · dsimp only [addG]; rw [if_neg (ik hj)]; exact fun i hi => ms (O.sub j hj i hi)
    · cases List.mem_singleton.mp hj
      dsimp only [addG]; rw [if_pos rfl]; nofun
    · dsimp only [addG]; rw [if_neg (ik hj)]; exact O.nd j hj
    · cases List.mem_singleton.mp hj
      dsimp only [addG]; rw [if_pos rfl]; exact List.nodup_nil
    · dsimp only [addG]; rw [if_neg (ik hj)]; exact ms (O.al j hj)
    · cases List.mem_singleton.mp hj
      dsimp only [addG]; rw [if_pos rfl]; exact List.mem_append_right _ hj
end
theorem wh_ind {test : Rho → Hp → TQ → Prop} {body : Rho → Hp → SQ → Prop} {Q : SQ} (I : Nat → Rho → Hp → Prop)
    (step : ∀ n ρ σ, I n ρ σ → ∀ m, (∀ n' ρ σ, n' < n → I n' ρ σ → whP test body m ρ σ Q) → test ρ σ fun c σ => match c with
      | true => body ρ σ fun f ρ σ => match f with
        | .next => whP test body m ρ σ Q
        | .cont => whP test body m ρ σ Q
        | .brk => Q .next ρ σ
        | .ret v => Q (.ret v) ρ σ
      | false => Q .next ρ σ) {n : Nat} {ρ : Rho} {σ : Hp} (h : I n ρ σ) : ∃ m, whP test body m ρ σ Q := by
  have key : ∀ m n ρ σ, n < m → I n ρ σ → whP test body m ρ σ Q := by
    intro m
    induction m with
    | zero => intro n ρ σ h; o_readsAll
    | succ m ih => intro n ρ σ h hi; exact step n ρ σ hi m fun n' ρ σ h' hi' => ih n' ρ σ (by o_readsAll) hi'
  exact ⟨n + 1, key _ _ _ _ (Nat.lt_succ_self n) h⟩
inductive Chain (al : Int → Int) : Nat → Int → Int → Prop where
  | base {l : Int} (h : al l = l) : Chain al 0 l l
  | step {n : Nat} {x l : Int} (h : al x ≠ x) (c : Chain al n (al x) l) : Chain al (n + 1) x l
theorem GraphAt.elim {σ : Hp} {A : GA} {G : Gr} {cps : List Value} (H : GraphAt σ A G cps) {p : Prop} (k : ∀ (m : Str → Option Value) (nn e1 e2 e3 e4 : Nat), (σ A.g = some (.inst 187 A.D)) → (σ A.D = some (.att m nn)) → (nn ≤ 50) → (m "near" = some (.ref A.N)) → (m "crosses" = some (.ref A.X)) → (m "cost" = some (.ref A.Cs)) → (m "copies" = some (.ref A.Cp)) → (m "alias" = some (.ref A.Al)) → (m "add" = none) → (m "touch" = none) → (m "join" = none) → (m "leader" = none) → (m "leaders" = none) → (m "members" = none) → (m "merge" = none) → (σ A.N = some (.dict (dk G.keys fun k => .ref (A.nb k)) e1)) → (σ A.X = some (.dict (ds G.cross) e2)) → (σ A.Cs = some (.dict (dk G.keys fun k => vi (G.cost k)) e3)) → (σ A.Al = some (.dict (dk G.keys fun k => vi (G.ali k)) e4)) → (σ A.Cp = some (.list cps)) → (A.g ≠ A.N) → (A.g ≠ A.X) → (A.g ≠ A.Cs) → (A.g ≠ A.Al) → (A.D ≠ A.N) → (A.D ≠ A.X) → (A.D ≠ A.Cs) → (A.D ≠ A.Al) → (A.N ≠ A.X) → (A.N ≠ A.Cs) → (A.N ≠ A.Al) → (A.X ≠ A.Cs) → (A.X ≠ A.Al) → (A.Cs ≠ A.Al) → p) : p := by
  refine e2a13 H.att fun m n h1 h2 q1 q2 q3 q4 q5 q6 q7 q8 q9 q10 q11 => ?_
  refine e1a1 H.near fun e1 h3 => ?_
  refine e1a1 H.cross fun e2 h4 => ?_
  refine e1a1 H.cost fun e3 h5 => ?_
  refine e1a1 H.ali fun e4 h6 => ?_
  refine e0a6 H.sep fun s1 s2 s3 s4 s5 s6 => ?_
  exact k m n e1 e2 e3 e4 H.inst h1 h2 q1 q2 q3 q4 q5 q6 q7 q8 q9 q10 q11.1 q11.2 h3 h4 h5 h6 H.copies
    (ne_kind H.inst h3 nofun) (ne_kind H.inst h4 nofun) (ne_kind H.inst h5 nofun) (ne_kind H.inst h6 nofun) (ne_kind h1 h3 nofun) (ne_kind h1 h4 nofun) (ne_kind h1 h5 nofun) (ne_kind h1 h6 nofun) s1 s2 s3 s4 s5 s6
/-- a graph above what stood before -/
structure GIn (σ₀ σ : Hp) (A : GA) (G : Gr) (cps : List Value) : Prop where
  at_ : GraphAt σ A G cps
  ext : Ext σ₀ σ
  new : ∀ b, Foot A G.keys b → σ₀ b = none
theorem GIn.to {σ₀ σ σ' : Hp} {A A' : GA} {G G' : Gr} {cps cps' : List Value} (H : GIn σ₀ σ A G cps) (g : GraphAt σ' A' G' cps') (e : ExtB (Foot A G.keys) σ σ') (f : ∀ b, Foot A' G'.keys b → Foot A G.keys b ∨ σ b = none) : GIn σ₀ σ' A' G' cps' :=
  ⟨g, fun b x q => e b x (fun s => by rw [H.new b s] at q; cases q) (H.ext b x q), fun b s => (f b s).elim (H.new b) fun q => H.ext.none q⟩
theorem GIn.more {σ₀ σ σ' : Hp} {A : GA} {G : Gr} {cps : List Value} (H : GIn σ₀ σ A G cps) (e : Ext σ σ') : GIn σ₀ σ' A G cps := ⟨H.at_.ext e, H.ext.trans e, H.new⟩
theorem Foot.n {A : GA} {ks : List Int} : Foot A ks A.N := .inl rfl
theorem Foot.x {A : GA} {ks : List Int} : Foot A ks A.X := .inr (.inl rfl)
theorem Foot.c {A : GA} {ks : List Int} : Foot A ks A.Cs := .inr (.inr (.inl rfl))
theorem Foot.a {A : GA} {ks : List Int} : Foot A ks A.Al := .inr (.inr (.inr (.inl rfl)))
theorem Foot.r {A : GA} {ks : List Int} {k : Int} (h : k ∈ ks) : Foot A ks (A.nb k) := .inr (.inr (.inr (.inr ⟨k, h, rfl⟩)))
theorem GIn.setNear {σ₀ σ : Hp} {A : GA} {G : Gr} {cps : List Value} (H : GIn σ₀ σ A G cps) {k : Int} (hk : k ∈ G.keys) {l : List Int} (hl : ∀ j ∈ l, j ∈ G.keys) (hd : l.Nodup) (ep : Nat) :
    GIn σ₀ (upd σ (A.nb k) (.dict (ds l) ep)) A { G with near := fun j => if j = k then l else G.near j } cps := H.to (H.at_.setNear hk hl hd ep) (ExtB.put (Foot.r hk) _) fun _ => .inl
theorem GIn.setCross {σ₀ σ : Hp} {A : GA} {G : Gr} {cps : List Value} (H : GIn σ₀ σ A G cps) {l : List Int} (hl : ∀ j ∈ l, j ∈ G.keys) (hd : l.Nodup) (ep : Nat) :
    GIn σ₀ (upd σ A.X (.dict (ds l) ep)) A { G with cross := l } cps := H.to (H.at_.setCross hl hd ep) (ExtB.put Foot.x _) fun _ => .inl
theorem GIn.setCost {σ₀ σ : Hp} {A : GA} {G : Gr} {cps : List Value} (H : GIn σ₀ σ A G cps) (f : Int → Int) (ep : Nat) :
    GIn σ₀ (upd σ A.Cs (.dict (dk G.keys fun k => vi (f k)) ep)) A { G with cost := f } cps := H.to (H.at_.setCost f ep) (ExtB.put Foot.c _) fun _ => .inl
theorem GIn.setAlias {σ₀ σ : Hp} {A : GA} {G : Gr} {cps : List Value} (H : GIn σ₀ σ A G cps) (f : Int → Int) (hf : ∀ k ∈ G.keys, f k ∈ G.keys) (ep : Nat) :
    GIn σ₀ (upd σ A.Al (.dict (dk G.keys fun k => vi (f k)) ep)) A { G with ali := f } cps := H.to (H.at_.setAlias f hf ep) (ExtB.put Foot.a _) fun _ => .inl
theorem GIn.newNear {σ₀ σ : Hp} {A : GA} {G : Gr} {cps : List Value} (H : GIn σ₀ σ A G cps) {k : Int} (hk : k ∈ G.keys) {d : Addr} (hd : Fr σ d) (e e' : Nat) :
    GIn σ₀ (upd (upd σ d (.dict (ds []) e)) A.N (.dict (dk G.keys fun j => if j = k then .ref d else .ref (A.nb j)) e')) { A with nb := fun j => if j = k then d else A.nb j } { G with near := fun j => if j = k then [] else G.near j } cps := by
  refine H.to (H.at_.newNear hk hd e e') ((Ext.newF hd _).toB.trans (ExtB.put Foot.n _)) fun b s => ?_
  rcases s with s | s | s | s | ⟨j, hj, rfl⟩
  · exact .inl (.inl s)
  · exact .inl (.inr (.inl s))
  · exact .inl (.inr (.inr (.inl s)))
  · exact .inl (.inr (.inr (.inr (.inl s))))
  · dsimp only
    split
    · exact .inr hd.out
    · exact .inl (Foot.r hj)
theorem GIn.add {σ₀ σ : Hp} {A : GA} {G : Gr} {cps : List Value} (H : GIn σ₀ σ A G cps) {k c : Int} (hk : k ∉ G.keys) (hn : G.keys.length + 1 ≤ 10) {d : Addr} (hd : Fr σ d) (e e1 e2 e3 : Nat) {τ : Hp}
    (hN : τ A.N = some (.dict (dk (G.keys ++ [k]) fun j => if j = k then .ref d else .ref (A.nb j)) e1)) (hC : τ A.Cs = some (.dict (dk (G.keys ++ [k]) fun j => if j = k then vi c else vi (G.cost j)) e2)) (hA : τ A.Al = some (.dict (dk (G.keys ++ [k]) fun j => if j = k then vi k else vi (G.ali j)) e3))
    (hD : τ d = some (.dict [] e)) (ho : ∀ b, b ≠ A.N → b ≠ A.Cs → b ≠ A.Al → b ≠ d → τ b = σ b) : GIn σ₀ τ { A with nb := fun j => if j = k then d else A.nb j } (addG G k c) cps := by
  refine H.to (H.at_.add hk hn hd e e1 e2 e3 hN hC hA hD ho) (fun b x n q => by rw [ho b (fun e => n (e ▸ Foot.n)) (fun e => n (e ▸ Foot.c)) (fun e => n (e ▸ Foot.a)) (ne_of' hd q)]; exact q) fun b s => ?_
  rcases s with s | s | s | s | ⟨j, hj, rfl⟩
  · exact .inl (.inl s)
  · exact .inl (.inr (.inl s))
  · exact .inl (.inr (.inr (.inl s)))
  · exact .inl (.inr (.inr (.inr (.inl s))))
  · dsimp only
    split
    · exact .inr hd.out
    · rename_i q
      exact .inl (Foot.r ((List.mem_append.mp hj).resolve_right fun e => q (List.mem_singleton.mp e)))
/-- symmetric, without loops, rows at leaders alone -/
structure Nice (G : Gr) : Prop where
  sym : ∀ a ∈ G.keys, ∀ b ∈ G.near a, a ∈ G.near b
  irr : ∀ a ∈ G.keys, a ∉ G.near a
  led : ∀ a ∈ G.keys, G.near a ≠ [] → G.ali a = a
noncomputable def joinG (G : Gr) (p q : Int) : Gr := if p = q then G else { G with near := fun j => if j = q then addK (G.near q) p else if j = p then addK (G.near p) q else G.near j }
theorem GraphAt.row {σ : Hp} {A : GA} {G : Gr} {cps : List Value} (H : GraphAt σ A G cps) {k : Int} (hk : k ∈ G.keys) : ∃ ep, σ (A.nb k) = some (.dict (ds (G.near k)) ep) ∧ A.nb k ≠ A.N ∧ A.nb k ≠ A.X ∧ A.nb k ≠ A.Cs ∧ A.nb k ≠ A.Al ∧ A.g ≠ A.nb k ∧ A.D ≠ A.nb k ∧ (G.near k).length ≤ 10 := by
  refine e1a1 (H.nbs k hk) fun ep h => ?_
  refine e0a4 (H.sepn k hk) fun n1 n2 n3 n4 => ?_
  refine e2a2 H.att fun m n h1 _ => ?_
  exact ⟨ep, h, n1, n2, n3, n4, ne_kind H.inst h nofun, ne_kind h1 h nofun, H.ok.nlen hk⟩
theorem GraphAt.rowE {σ : Hp} {A : GA} {G : Gr} {cps : List Value} (H : GraphAt σ A G cps) {k : Int} (hk : k ∈ G.keys) {p : Prop} (K : ∀ ep : Nat, (σ (A.nb k) = some (.dict (ds (G.near k)) ep)) → (A.nb k ≠ A.N) → (A.nb k ≠ A.X) → (A.nb k ≠ A.Cs) → (A.nb k ≠ A.Al) → (A.g ≠ A.nb k) → (A.D ≠ A.nb k) → ((G.near k).length ≤ 10) → p) : p := by
  obtain ⟨ep, h0, h1, h2, h3, h4, h5, h6, h7⟩ := H.row hk
  exact K ep h0 h1 h2 h3 h4 h5 h6 h7
theorem add_sub {ks l : List Int} {k : Int} (h : ∀ j ∈ l, j ∈ ks) (hk : k ∈ ks) : ∀ j ∈ addK l k, j ∈ ks := fun j hj => (mem_addK.mp hj).elim (h j) fun e => e ▸ hk
section
variable {C : Cx} (B : Bs C) (hK : KOk C.K) {k : Nat} {σ₀ σ : Hp} {A : GA} {G : Gr} {cps : List Value}
include B hK
theorem leader_spec (H : GraphAt σ A G cps) {n : Nat} {x l : Int} (hx : x ∈ G.keys) (hc : Chain G.ali n x l) :
    Sp C (k + 1) (.ref 167) [.ref A.g, vi x] σ fun v σ' => v = vi l ∧ σ' = σ := by
  refine fn_startL B (fn_167 hK) lk_167_dbg rfl rfl ?_
  intro PX
  refine GraphAt.elim H fun m nn e1 e2 e3 e4 i1 i2 i3 i4 i5 i6 i7 i8 i9 i10 i11 i12 i13 i14 i15 d1 d2 d3 d4 d5 f1 f2 f3 f4 f5 f6 f7 f8 f9 f10 f11 f12 f13 f14 => ?_
  tb_start
  refine wh_ind (fun n ρ σ' => σ' = σ ∧ ∃ x, x ∈ G.keys ∧ ρ "self" = some (.ref A.g) ∧ ρ "register" = some (vi x) ∧ Chain G.ali n x l) ?_ (n := n) ⟨rfl, x, hx, rfl, rfl, hc⟩
  intro n ρ σ' hI0 m' ih
  refine hideG fun PG kG => ?_
  obtain ⟨rfl, x, hx, r1, r2, hc⟩ := hI0
  refine kG ?_
  clear kG PG
  tb_start
  repeat (tb_rel; tb_start)
  cases hc with
  | base q =>
    rw [show (G.ali l != l) = false by simp [q]]
    tb_start
    repeat (tb_rel; tb_start)
  | step q c =>
    rw [show (G.ali x != x) = true by simp [q]]
    tb_start
    repeat (tb_rel; tb_start)
    exact ih _ _ _ (Nat.lt_succ_self _) ⟨rfl, _, H.ok.al _ hx, (setR_ne _ _ (by decide)).trans r1, setR_self _ _ _, c⟩
theorem add_spec (H : GIn σ₀ σ A G cps) {x : Int} (hx : x ∉ G.keys) (hn : G.keys.length + 1 ≤ 10) :
    Sp C (k + 1) (.ref 146) [.ref A.g, vi x] σ fun v σ' => v = .none ∧ ∃ A', A'.g = A.g ∧ GIn σ₀ σ' A' (addG G x 0) cps := by
  refine fn_startL B (fn_146 hK) lk_146_dbg rfl rfl ?_
  intro PX
  refine GraphAt.elim H.at_ fun m nn e1 e2 e3 e4 i1 i2 i3 i4 i5 i6 i7 i8 i9 i10 i11 i12 i13 i14 i15 d1 d2 d3 d4 d5 f1 f2 f3 f4 f5 f6 f7 f8 f9 f10 f11 f12 f13 f14 => ?_
  tb_start
  repeat (tb_rel; tb_start)
  refine ho_in_dict (by o_reads) (fun q => absurd q hx) fun _ => ?_
  tb_start
  repeat (tb_rel; tb_start)
  have hlen := H.at_.ok.len
  refine fr_intro2 fun d ep hd => ?_
  tb_start
  repeat (tb_rel; tb_start)
  rename_i a1 a2 a3
  refine ⟨{ A with nb := fun j => if j = x then d else A.nb j }, rfl, H.add (d := d) hx hn hd ep a1 a2 a3 ?_ ?_ ?_ ?_ ?_⟩
  · rw [← dk_new hx]; o_reads
  · rw [← dk_new hx]; o_reads
  · rw [← dk_new hx]; o_reads
  · o_reads
  · intro b n1 n2 n3 n4
    rw [upd_ne _ _ n3, upd_ne _ _ n2, upd_ne _ _ n1, upd_ne _ _ n4]
theorem touch_spec (H : GIn σ₀ σ A G cps) {x c : Int} (hx : x ∉ G.keys) (hn : G.keys.length + 1 ≤ 10) :
    Sp C (k + 2) (.ref 153) [.ref A.g, vi x, vi c] σ fun v σ' => v = .none ∧ ∃ A', A'.g = A.g ∧ GIn σ₀ σ' A' (addG G x c) cps := by
  refine fn_startL B (fn_153 hK) lk_153_dbg rfl rfl ?_
  intro PX
  refine GraphAt.elim H.at_ fun m nn e1 e2 e3 e4 i1 i2 i3 i4 i5 i6 i7 i8 i9 i10 i11 i12 i13 i14 i15 d1 d2 d3 d4 d5 f1 f2 f3 f4 f5 f6 f7 f8 f9 f10 f11 f12 f13 f14 => ?_
  tb_start
  repeat (tb_rel; tb_start)
  refine Sp.mono (add_spec B hK H hx hn) fun v τ h => ?_
  refine hideG fun PG kG => ?_
  obtain ⟨rfl, A', hg, H'⟩ := h
  refine kG ?_
  clear kG PG
  clear i1 i2 i3 i4 i5 i6 i7 i8 i9 i10 i11 i12 i13 i14 i15 d1 d2 d3 d4 d5 m f1 f2 f3 f4 f5 f6 f7 f8 f9 f10 f11 f12 f13 f14
  refine GraphAt.elim H'.at_ fun m nn e1 e2 e3 e4 i1 i2 i3 i4 i5 i6 i7 i8 i9 i10 i11 i12 i13 i14 i15 d1 d2 d3 d4 d5 f1 f2 f3 f4 f5 f6 f7 f8 f9 f10 f11 f12 f13 f14 => ?_
  rw [hg] at i1
  have hk : x ∈ (addG G x 0).keys := List.mem_append_right _ (List.mem_singleton.mpr rfl)
  have hlen := H'.at_.ok.len
  tb_start
  repeat (tb_rel; tb_start)
  refine ⟨A', hg, ?_⟩
  have e0 : stored (dk (addG G x 0).keys fun k => vi ((addG G x 0).cost k)) x (vi ((addG G x 0).cost x + c)) = dk (addG G x 0).keys fun j => vi (if j = x then c else G.cost j) := by
    rw [dk_old hk]
    refine dk_congr fun j _ => ?_
    dsimp only [addG]
    split
    · rw [if_pos rfl, Int.zero_add]
    · rfl
  rw [e0]
  have := H'.setCost (fun j => if j = x then c else G.cost j)
  exact this _
theorem join_spec (H : GIn σ₀ σ A G cps) {p q : Int} (hp : p ∈ G.keys) (hq : q ∈ G.keys) :
    Sp C (k + 1) (.ref 160) [.ref A.g, vi p, vi q] σ fun v σ' => v = .none ∧ GIn σ₀ σ' A (joinG G p q) cps := by
  refine fn_startL B (fn_160 hK) lk_160_dbg rfl rfl ?_
  intro PX
  refine GraphAt.elim H.at_ fun m nn e1 e2 e3 e4 i1 i2 i3 i4 i5 i6 i7 i8 i9 i10 i11 i12 i13 i14 i15 d1 d2 d3 d4 d5 f1 f2 f3 f4 f5 f6 f7 f8 f9 f10 f11 f12 f13 f14 => ?_
  refine GraphAt.rowE H.at_ hp fun ep r1 r2 r3 r4 r5 r6 r7 r8 => ?_
  tb_start
  repeat (tb_rel; tb_start)
  unfold joinG
  by_cases hpq : p = q
  · rw [show (p != q) = false by simp [hpq], if_pos hpq]
    tb_start
    repeat (tb_rel; tb_start)
    exact H
  · rw [show (p != q) = true by simp [hpq], if_neg hpq]
    refine GraphAt.rowE H.at_ hq fun eq t1 t2 t3 t4 t5 t6 t7 t8 => ?_
    have hne : A.nb p ≠ A.nb q := fun e => hpq (H.at_.inj p hp q hq e)
    tb_start
    repeat (tb_rel; tb_start)
    rw [ds_add, ds_add]
    exact (H.setNear hp (add_sub (H.at_.ok.sub p hp) hq) (nodup_addK (H.at_.ok.nd p hp)) _).setNear hq (add_sub (H.at_.ok.sub q hq) hp) (nodup_addK (H.at_.ok.nd q hq)) _
end
/-- each cell's leader -/
structure Led (G : Gr) (ld : Int → Int) : Prop where
  key : ∀ x ∈ G.keys, ld x ∈ G.keys
  ch : ∀ x ∈ G.keys, ∃ n, Chain G.ali n x (ld x)
theorem Chain.end_ {al : Int → Int} {n : Nat} {x l : Int} (h : Chain al n x l) : al l = l := by
  induction h with
  | base h => exact h
  | step _ _ ih => exact ih
theorem Chain.uniq {al : Int → Int} {n m : Nat} {x l k : Int} (h : Chain al n x l) (h' : Chain al m x k) : l = k := by
  induction h generalizing m with
  | base h => cases h' with
    | base _ => rfl
    | step q _ => exact absurd h q
  | step q _ ih => cases h' with
    | base h => exact absurd h q
    | step _ c => exact ih c
theorem upd_upd {σ : Hp} {a : Addr} {x y : MO} : upd (upd σ a x) a y = upd σ a y := by
  funext b; unfold upd; split <;> rfl
/-- the same along ints, some of which are let through -/
theorem comp_int {P : Px} {tgt : Expr} {ifs : List Expr} {elt : Expr} {fe : Expr → Rho → Hp → EQ → Prop} {ft : Expr → Rho → Hp → TQ → Prop} {it c : Addr} {σ₀ σ₁ : Hp} {K : Hp → Prop} (R : Rho → Prop) (ks : List Int) (p : Int → Bool) (f : Int → Value) (hlen : ks.length ≤ 10000) (hst : ∀ l, stay it σ₀ (upd σ₁ c (.list l)))
    (step : ∀ y ∈ ks, ∀ ρ l (Kc : Rho → Hp → Prop), R ρ → l.length ≤ 10000 → (∀ ρ', R ρ' → p y = true → Kc ρ' (upd σ₁ c (.list (l ++ [f y])))) → (∀ ρ', R ρ' → p y = false → Kc ρ' (upd σ₁ c (.list l))) →
      tgtP P tgt (vi y) ρ (upd σ₁ c (.list l)) fun ρ => testsW (fun e => ft e ρ) ifs (upd σ₁ c (.list l)) fun ok σ => match ok with
        | true => fe elt ρ σ fun w σ => Hold (appendP c w σ fun _ σ => Kc ρ σ)
        | false => Kc ρ σ) {ρ : Rho} (hr : R ρ) (fin : K (upd σ₁ c (.list ((ks.filter p).map f)))) : compL P tgt ifs elt fe ft it σ₀ c (ks.map vi) ρ (upd σ₁ c (.list [])) K := by
  have key : ∀ (xs : List Int) (ρ : Rho) (l : List Value), (∀ y ∈ xs, y ∈ ks) → R ρ → l.length + xs.length ≤ 10000 → K (upd σ₁ c (.list (l ++ (xs.filter p).map f))) → compL P tgt ifs elt fe ft it σ₀ c (xs.map vi) ρ (upd σ₁ c (.list l)) K := by
    intro xs
    induction xs with
    | nil => intro ρ l _ _ _ hk; exact ⟨hst _, by rw [List.filter_nil, List.map_nil, List.append_nil] at hk; exact hk⟩
    | cons x xs ih =>
      intro ρ l hm hr hl hk
      rw [List.length_cons] at hl
      refine ⟨hst _, step x (hm x (List.mem_cons_self ..)) ρ l (fun ρ σ => compL P tgt ifs elt fe ft it σ₀ c (xs.map vi) ρ σ K) hr (by o_readsAll) (fun ρ' hr' hp => ?_) (fun ρ' hr' hp => ?_)⟩
      · refine ih ρ' (l ++ [f x]) (fun y hy => hm y (List.mem_cons_of_mem _ hy)) hr' (by rw [List.length_append]; simp only [List.length_cons, List.length_nil]; o_readsAll) ?_
        rw [List.filter_cons, if_pos hp] at hk
        rw [List.append_assoc]; exact hk
      · refine ih ρ' l (fun y hy => hm y (List.mem_cons_of_mem _ hy)) hr' (by o_readsAll) ?_
        rw [List.filter_cons, if_neg (by rw [hp]; decide)] at hk; exact hk
  exact key ks ρ [] (fun _ h => h) hr (by rw [List.length_nil]; o_readsAll) fin
section
variable {C : Cx} (B : Bs C) (hK : KOk C.K) {k : Nat} {σ₀ σ : Hp} {A : GA} {G : Gr} {cps : List Value}
include B hK
theorem leaders_spec (H : GraphAt σ A G cps) : Sp C (k + 1) (.ref 172) [.ref A.g] σ fun v σ' => ∃ c, v = .ref c ∧ Fr σ c ∧ σ' = upd σ c (.list ((G.keys.filter fun x => G.ali x == x).map vi)) := by
  refine fn_startL B (fn_172 hK) lk_172_dbg rfl rfl ?_
  intro PX
  refine GraphAt.elim H fun m nn e1 e2 e3 e4 i1 i2 i3 i4 i5 i6 i7 i8 i9 i10 i11 i12 i13 i14 i15 d1 d2 d3 d4 d5 f1 f2 f3 f4 f5 f6 f7 f8 f9 f10 f11 f12 f13 f14 => ?_
  have hlen := H.ok.len
  tb_start
  repeat (tb_rel; tb_start)
  refine ho_comp (seq_dict d1) (by w_left) (fr_intro fun c hc => ?_)
  refine comp_int (fun ρ => ρ "self" = some (.ref A.g)) G.keys (fun x => G.ali x == x) vi (by o_readsAll) (fun l => stay_dict d1 (by o_reads)) ?_ rfl ⟨c, rfl, hc, rfl⟩
  intro y hy ρ l Kc hr hl kt kf
  tb_start
  repeat (tb_rel; tb_start)
  split
  · rename_i q
    tb_start
    repeat (tb_rel; tb_start)
    rw [upd_upd]
    exact kt _ ((setR_ne _ _ (by decide)).trans hr) q
  · rename_i q
    exact kf _ ((setR_ne _ _ (by decide)).trans hr) q
theorem members_spec (H : GraphAt σ A G cps) {ld : Int → Int} (L : Led G ld) {x : Int} : Sp C (k + 2) (.ref 177) [.ref A.g, vi x] σ fun v σ' => ∃ c, v = .ref c ∧ Fr σ c ∧ σ' = upd σ c (.list ((G.keys.filter fun y => ld y == x).map vi)) := by
  refine fn_startL B (fn_177 hK) lk_177_dbg rfl rfl ?_
  intro PX
  refine GraphAt.elim H fun m nn e1 e2 e3 e4 i1 i2 i3 i4 i5 i6 i7 i8 i9 i10 i11 i12 i13 i14 i15 d1 d2 d3 d4 d5 f1 f2 f3 f4 f5 f6 f7 f8 f9 f10 f11 f12 f13 f14 => ?_
  have hlen := H.ok.len
  tb_start
  repeat (tb_rel; tb_start)
  refine ho_comp (seq_dict d1) (by w_left) (fr_intro fun c hc => ?_)
  refine comp_int (fun ρ => ρ "self" = some (.ref A.g) ∧ ρ "leader" = some (vi x)) G.keys (fun y => ld y == x) vi (by o_readsAll) (fun l => stay_dict d1 (by o_reads)) ?_ ⟨rfl, rfl⟩ ⟨c, rfl, hc, rfl⟩
  intro y hy ρ l Kc hI0 hl kt kf
  refine e0a2 hI0 fun r1 r2 => ?_
  clear hI0
  have H' : GraphAt (upd σ c (.list l)) A G cps := H.ext (Ext.newF hc _)
  refine e1a1 (L.ch y hy) fun n hch => ?_
  tb_start
  repeat (tb_rel; tb_start)
  refine Sp.mono (leader_spec B hK H' hy hch) fun v τ h => ?_
  refine e0a2 h fun hR4_0 hR4_1 => ?_
  clear h
  obtain rfl := hR4_0
  obtain rfl := hR4_1
  tb_start
  repeat (tb_rel; tb_start)
  split
  · rename_i q
    tb_start
    repeat (tb_rel; tb_start)
    rw [upd_upd]
    exact kt _ ⟨(setR_ne _ _ (by decide)).trans r1, (setR_ne _ _ (by decide)).trans r2⟩ q
  · rename_i q
    exact kf _ ⟨(setR_ne _ _ (by decide)).trans r1, (setR_ne _ _ (by decide)).trans r2⟩ q
end
/-- the rows after some of the neighbours have gone over -/
noncomputable def mergeN (G : Gr) (one other : Int) (done : List Int) (k : Int) : List Int :=
  if k = one then done.foldl addK (G.near one) else if k ∈ done then addK ((G.near k).filter fun j => decide (j ≠ other)) one else G.near k
noncomputable def mergeG (G : Gr) (one other : Int) : Gr :=
  { keys := G.keys, near := fun k => if k = other then [] else mergeN G one other (G.near other) k, cost := fun k => if k = one then G.cost one + G.cost other else G.cost k,
    ali := fun k => if k = other then one else G.ali k, cross := if other ∈ G.cross then addK G.cross one else G.cross }
theorem GIn.eq {σ₀ σ : Hp} {A : GA} {G G' : Gr} {cps : List Value} (H : GIn σ₀ σ A G cps) (e : G = G') : GIn σ₀ σ A G' cps := e ▸ H
theorem dk_old_vi {ks : List Int} {f : Int → Int} {k c : Int} (h : k ∈ ks) : stored (dk ks fun j => vi (f j)) k (vi c) = dk ks fun j => vi (if j = k then c else f j) := by
  rw [dk_old h]; refine dk_congr fun j _ => ?_; split <;> rfl
theorem mem_fold_addK {done : List Int} : ∀ {l : List Int} {j : Int}, j ∈ done.foldl addK l ↔ j ∈ l ∨ j ∈ done := by
  induction done with
  | nil => intro l j; simp
  | cons d r ih => intro l j; rw [List.foldl_cons, ih, mem_addK, List.mem_cons, or_assoc]
section
variable {C : Cx} (B : Bs C) (hK : KOk C.K) {k : Nat} {σ₀ σ : Hp} {A : GA} {G : Gr} {cps : List Value}
include B hK
theorem merge_spec (H : GIn σ₀ σ A G cps) (N : Nice G) {one other : Int} (h1 : one ∈ G.keys) (h2 : other ∈ G.keys) (hne : one ≠ other) (hno : other ∉ G.near one) :
    Sp C (k + 1) (.ref 184) [.ref A.g, vi one, vi other] σ fun v σ' => v = .none ∧ ∃ A', A'.g = A.g ∧ GIn σ₀ σ' A' (mergeG G one other) cps := by
  refine fn_startL B (fn_184 hK) lk_184_dbg rfl rfl ?_
  intro PX
  refine GraphAt.elim H.at_ fun m nn e1 e2 e3 e4 i1 i2 i3 i4 i5 i6 i7 i8 i9 i10 i11 i12 i13 i14 i15 d1 d2 d3 d4 d5 f1 f2 f3 f4 f5 f6 f7 f8 f9 f10 f11 f12 f13 f14 => ?_
  have hlen := H.at_.ok.len
  refine GraphAt.rowE H.at_ h2 fun ep r1 r2 r3 r4 r5 r6 r7 r8 => ?_
  tb_start
  repeat (tb_rel; tb_start)
  refine ho_for (seq_dict r1) (by w_left) ?_
  refine forL_ind (fun xs ρ σ' => ∃ done rest, xs = List.map vi rest ∧ G.near other = done ++ rest ∧ GIn σ₀ σ' A { G with near := mergeN G one other done } cps ∧ σ' (A.nb other) = some (.dict (ds (G.near other)) ep) ∧ ρ "self" = some (.ref A.g) ∧ ρ "one" = some (vi one) ∧ ρ "other" = some (vi other)) ?_ ?_ ?_ _ _ _ ⟨[], G.near other, rfl, rfl, H.eq ?_, r1, rfl, rfl, rfl⟩
  · intro xs ρ σ' hI0
    refine e2a5 hI0 fun done rest hR1_2 hk hG hr _ => ?_
    clear hI0
    obtain rfl := hR1_2
    exact stay_dict r1 hr
  · intro ρ σ' hI0
    refine e2a7 hI0 fun done rest q1 hk hG hr p1 p2 p3 => ?_
    clear hI0
    cases List.map_eq_nil_iff.mp q1.symm
    rw [List.append_nil] at hk
    clear i1 i2 i3 i4 i5 i6 i7 i8 i9 i10 i11 i12 i13 i14 i15 d1 d2 d3 d4 d5 m
    subst hk
    refine GraphAt.elim hG.at_ fun m nn e1 e2 e3 e4 i1 i2 i3 i4 i5 i6 i7 i8 i9 i10 i11 i12 i13 i14 i15 d1 d2 d3 d4 d5 f1 f2 f3 f4 f5 f6 f7 f8 f9 f10 f11 f12 f13 f14 => ?_
    tb_start
    repeat (tb_rel; tb_start)
    refine fr_intro2 fun d e5 hd => ?_
    tb_start
    repeat (tb_rel; tb_start)
    rw [dk_old h2, dk_old_vi h1]
    have G1 := (hG.newNear h2 hd e5)
    refine ho_in_dict (by o_reads) (fun hx => ?_) (fun hx => ?_)
    · have xl := H.at_.ok.xlen
      tb_start
      repeat (tb_rel; tb_start)
      rw [ds_add, dk_old_vi h2]
      refine ⟨{ A with nb := fun j => if j = other then d else A.nb j }, rfl, GIn.eq ((((G1 _).setCost (fun j => if j = one then G.cost one + G.cost other else G.cost j) _).setCross (l := addK G.cross one) (add_sub H.at_.ok.xsub h1) (nodup_addK H.at_.ok.xnd) _).setAlias (fun j => if j = other then one else G.ali j) (fun j hj => ?_) _) ?_⟩
      · split
        · exact h1
        · exact H.at_.ok.al j hj
      · unfold mergeG; rw [if_pos hx]
    · tb_start
      repeat (tb_rel; tb_start)
      rw [dk_old_vi h2]
      refine ⟨{ A with nb := fun j => if j = other then d else A.nb j }, rfl, GIn.eq (((G1 _).setCost (fun j => if j = one then G.cost one + G.cost other else G.cost j) _).setAlias (fun j => if j = other then one else G.ali j) (fun j hj => ?_) _) ?_⟩
      · split
        · exact h1
        · exact H.at_.ok.al j hj
      · unfold mergeG; rw [if_neg hx]
  · intro x xs ρ σ' hI0 ih
    refine e2a7 hI0 fun done rest q1 hk hG hr p1 p2 p3 => ?_
    clear hI0
    obtain ⟨y, rest, rfl⟩ : ∃ y r, rest = y :: r := by cases rest with
      | nil => cases q1
      | cons y r => exact ⟨y, r, rfl⟩
    refine e0a2 (List.cons.inj q1) fun hR4_0 hR4_1 => ?_
    obtain rfl := hR4_0
    obtain rfl := hR4_1
    have hy : y ∈ G.near other := by rw [hk]; simp
    have hyk := H.at_.ok.sub other h2 y hy
    have hyo : other ∈ G.near y := N.sym other h2 y hy
    have y1 : y ≠ one := fun e => hno (e ▸ hyo)
    have y2 : y ≠ other := fun e => N.irr other h2 (e ▸ hy)
    have hnd := H.at_.ok.nd other h2
    rw [hk] at hnd
    have yd : y ∉ done := fun q => (List.nodup_append.mp hnd).2.2 y q y (List.mem_cons_self ..) rfl
    have hyN : mergeN G one other done y = G.near y := by unfold mergeN; rw [if_neg y1, if_neg yd]
    clear i1 i2 i3 i4 i5 i6 i7 i8 i9 i10 i11 i12 i13 i14 i15 d1 d2 d3 d4 d5 m
    refine GraphAt.elim hG.at_ fun m nn e1 e2 e3 e4 i1 i2 i3 i4 i5 i6 i7 i8 i9 i10 i11 i12 i13 i14 i15 d1 d2 d3 d4 d5 f1 f2 f3 f4 f5 f6 f7 f8 f9 f10 f11 f12 f13 f14 => ?_
    refine GraphAt.rowE hG.at_ hyk fun ep1 t1 t2 t3 t4 t5 t6 t7 t8 => ?_
    refine GraphAt.rowE hG.at_ h1 fun ep2 u1 u2 u3 u4 u5 u6 u7 u8 => ?_
    dsimp only at t1 u1 t8 u8
    rw [hyN] at t1 t8
    have n1 : A.nb y ≠ A.nb one := fun e => y1 (H.at_.inj _ hyk _ h1 e)
    have n2 : A.nb y ≠ A.nb other := fun e => y2 (H.at_.inj _ hyk _ h2 e)
    have n3 : A.nb one ≠ A.nb other := fun e => hne (H.at_.inj _ h1 _ h2 e)
    tb_start
    repeat (tb_rel; tb_start)
    refine ho_dpop (by o_reads) (by w_left) (dk_at hyo) (fun e5 => ?_)
    rw [dk_without]
    have fl : ((G.near y).filter fun j => decide (j ≠ other)).length ≤ 10 := Nat.le_trans (List.length_filter_le ..) t8
    tb_start
    repeat (tb_rel; tb_start)
    rw [upd_upd, ds_add, ds_add]
    refine ih _ _ ⟨done ++ [y], rest, rfl, by rw [hk]; simp, GIn.eq ((hG.setNear hyk (l := addK ((G.near y).filter fun j => decide (j ≠ other)) one) (add_sub (fun j hj => H.at_.ok.sub y hyk j (List.mem_filter.mp hj).1) h1) (nodup_addK ((H.at_.ok.nd y hyk).filter _)) _).setNear h1 (l := addK (mergeN G one other done one) y) (add_sub (hG.at_.ok.sub one h1) hyk) (nodup_addK (hG.at_.ok.nd one h1)) _) ?_, by o_reads, (setR_ne _ _ (by decide)).trans p1, (setR_ne _ _ (by decide)).trans p2, (setR_ne _ _ (by decide)).trans p3⟩
    have : (fun j => if j = one then addK (mergeN G one other done one) y else if j = y then addK ((G.near y).filter fun j => decide (j ≠ other)) one else mergeN G one other done j) = mergeN G one other (done ++ [y]) := by
      funext j
      unfold mergeN
      by_cases j1 : j = one
      · rw [if_pos j1, if_pos j1, if_pos rfl, List.foldl_append]; rfl
      · rw [if_neg j1, if_neg j1]
        by_cases j2 : j = y
        · subst j2
          rw [if_pos rfl, if_neg j1, if_pos (by simp)]
        · rw [if_neg j2, if_neg j1]
          by_cases j3 : j ∈ done
          · rw [if_pos j3, if_pos (List.mem_append_left _ j3)]
          · rw [if_neg j3, if_neg (by simp [j2, j3])]
    rw [← this]
  · have : mergeN G one other [] = G.near := by
      funext j; unfold mergeN; split
      · rename_i e; rw [e]; rfl
      · rw [if_neg (by simp)]
    rw [this]
end
/-! the pools -/
structure PA where
  p : Addr
  D : Addr
  La : Addr
  Lk : Addr
structure PoolsAt (σ : Hp) (A : PA) (al kp : List Int) : Prop where
  inst : σ A.p = some (.inst 86 A.D)
  att : ∃ m n, σ A.D = some (.att m n) ∧ m "all" = some (.ref A.La) ∧ m "kept" = some (.ref A.Lk) ∧ m "of" = none
  la : σ A.La = some (.list (al.map vi))
  lk : σ A.Lk = some (.list (kp.map vi))
  n1 : al.length ≤ 10
  n2 : kp.length ≤ 10
theorem PoolsAt.ext {σ τ : Hp} {A : PA} {al kp : List Int} (H : PoolsAt σ A al kp) (e : Ext σ τ) : PoolsAt τ A al kp := by
  refine e2a2 H.att fun m n h1 h2 => ?_
  exact ⟨e _ _ H.inst, ⟨m, n, e _ _ h1, h2⟩, e _ _ H.la, e _ _ H.lk, H.n1, H.n2⟩
/-- what a register may have -/
noncomputable def rowOf (G : Gr) (al kp : List Int) (r : Int) : List Int := if r ∈ G.cross then kp else al
section
variable {C : Cx} (B : Bs C) (hK : KOk C.K) {k : Nat} {σ₀ σ : Hp} {A : GA} {G : Gr} {cps : List Value} {PP : PA} {al kp : List Int} {fz : Addr} {fe : Nat}
include B hK
theorem of_spec (H : GraphAt σ A G cps) (H2 : PoolsAt σ PP al kp) {r : Int} : Sp C (k + 1) (.ref 83) [.ref PP.p, .ref A.g, vi r] σ fun v σ' => ∃ c, v = .ref c ∧ σ c = some (.list ((rowOf G al kp r).map vi)) ∧ σ' = σ := by
  refine fn_startL B (fn_83 hK) lk_83_dbg rfl rfl ?_
  intro PX
  refine GraphAt.elim H fun m nn e1 e2 e3 e4 i1 i2 i3 i4 i5 i6 i7 i8 i9 i10 i11 i12 i13 i14 i15 d1 d2 d3 d4 d5 f1 f2 f3 f4 f5 f6 f7 f8 f9 f10 f11 f12 f13 f14 => ?_
  refine e2a4 H2.att fun m2 n2 j1 j2 j3 j4 => ?_
  have j5 := H2.inst
  tb_start
  repeat (tb_rel; tb_start)
  refine ho_in_dict (by o_reads) (fun hx => ?_) (fun hx => ?_)
  · tb_start
    repeat (tb_rel; tb_start)
    exact ⟨_, rfl, by unfold rowOf; rw [if_pos hx]; exact H2.lk, rfl⟩
  · tb_start
    repeat (tb_rel; tb_start)
    exact ⟨_, rfl, by unfold rowOf; rw [if_neg hx]; exact H2.la, rfl⟩
theorem worth_spec (H : GraphAt σ A G cps) {d r : Int} (hr : r ∈ G.keys) (h0 : 0 ≤ d) (h1 : d ≤ 1000) : Sp C (k + 1) (.ref 212) [.ref A.g, vi d, vi r] σ fun v σ' => (∃ n, v = vi n) ∧ σ' = σ := by
  refine fn_startL B (fn_212 hK) lk_212_dbg rfl rfl ?_
  intro PX
  refine GraphAt.elim H fun m nn e1 e2 e3 e4 i1 i2 i3 i4 i5 i6 i7 i8 i9 i10 i11 i12 i13 i14 i15 d1 d2 d3 d4 d5 f1 f2 f3 f4 f5 f6 f7 f8 f9 f10 f11 f12 f13 f14 => ?_
  tb_start
  repeat (tb_rel; tb_start)
  refine ⟨⟨by o_readsAll, by o_readsAll⟩, ?_⟩
  tb_start
  exact ⟨⟨_, rfl⟩, rfl⟩
theorem victim_spec (hf : σ fz = some (.dict (ds []) fe)) {r : Int} : Sp C (k + 1) (.ref 238) [.ref A.g, vi r, .ref fz] σ fun v σ' => v = vi r ∧ σ' = σ := by
  refine fn_startL B (fn_238 hK) lk_238_dbg rfl rfl ?_
  intro PX
  tb_start
  repeat (tb_rel; tb_start)
  refine ho_in_dict (by o_reads) (fun hx => by cases hx) (fun hx => ?_)
  tb_start
  repeat (tb_rel; tb_start)
theorem number_spec {a t w : Addr} {al tk ws : List Int} {et : Nat} (h1 : σ a = some (.list (al.map vi))) (h2 : σ t = some (.dict (ds tk) et)) (h3 : σ w = some (.list (ws.map vi))) (l1 : al.length ≤ 100) (l3 : ws.length ≤ 100) :
    Sp C (k + 1) (.ref 245) [.ref a, .ref t, .ref w] σ fun v σ' => ∃ n, v = vi n ∧ (n = -1 ∨ n ∈ al ∧ n ∉ tk) ∧ σ' = σ := by
  refine fn_startL B (fn_245 hK) lk_245_dbg rfl rfl ?_
  intro PX
  tb_start
  repeat (tb_rel; tb_start)
  refine ho_for (seq_list h3) (by w_left) ?_
  refine forL_ind (fun xs ρ σ' => σ' = σ ∧ (∃ l, xs = List.map vi l) ∧ ρ "allowed" = some (.ref a) ∧ ρ "taken" = some (.ref t) ∧ ρ "wished" = some (.ref w)) ?_ ?_ ?_ _ _ _ ⟨rfl, ⟨_, rfl⟩, rfl, rfl, rfl⟩
  · intro xs ρ σ' hI0
    refine e0a2 hI0 fun hR6_0 _ => ?_
    clear hI0
    obtain rfl := hR6_0
    exact stay_list h3 h3
  · intro ρ σ' hI0
    refine e0a5 hI0 fun hR7_0 _ r1 r2 r3 => ?_
    clear hI0
    obtain rfl := hR7_0
    tb_start
    repeat (tb_rel; tb_start)
    refine ho_for (seq_list h1) (by w_left) ?_
    refine forL_ind (fun xs ρ τ => τ = σ' ∧ (∃ l, xs = List.map vi l ∧ ∀ y ∈ l, y ∈ al) ∧ ρ "taken" = some (.ref t)) ?_ ?_ ?_ _ _ _ ⟨rfl, ⟨_, rfl, fun _ h => h⟩, r2⟩
    · intro xs ρ τ hI0
      refine e0a2 hI0 fun hR8_0 _ => ?_
      clear hI0
      obtain rfl := hR8_0
      exact stay_list h1 h1
    · intro ρ τ hI0
      refine e0a3 hI0 fun hR9_0 _ r1 => ?_
      clear hI0
      obtain rfl := hR9_0
      tb_start
      exact ⟨_, rfl, .inl rfl, rfl⟩
    · intro x xs ρ τ hI0 ih
      refine e0a3 hI0 fun hR10_0 hN10_1 r1 => ?_
      clear hI0
      obtain rfl := hR10_0
      refine e1a2 hN10_1 fun l q hl => ?_
      clear hN10_1
      obtain ⟨y, l, rfl⟩ : ∃ y r, l = y :: r := by cases l with
        | nil => cases q
        | cons y r => exact ⟨y, r, rfl⟩
      refine e0a2 (List.cons.inj q) fun hR12_0 hR12_1 => ?_
      obtain rfl := hR12_0
      obtain rfl := hR12_1
      tb_start
      repeat (tb_rel; tb_start)
      refine ho_in_dict (by o_reads) (fun hx => ?_) (fun hx => ?_)
      · tb_start
        exact ih _ _ ⟨rfl, ⟨_, rfl, fun y hy => hl y (List.mem_cons_of_mem _ hy)⟩, (setR_ne _ _ (by decide)).trans r1⟩
      · tb_start
        repeat (tb_rel; tb_start)
        exact ⟨_, rfl, .inr ⟨hl _ (List.mem_cons_self ..), hx⟩, rfl⟩
  · intro x xs ρ σ' hI0 ih
    refine e0a5 hI0 fun hR13_0 hN13_1 r1 r2 r3 => ?_
    clear hI0
    obtain rfl := hR13_0
    refine e1a1 hN13_1 fun l q => ?_
    clear hN13_1
    obtain ⟨y, l, rfl⟩ : ∃ y r, l = y :: r := by cases l with
      | nil => cases q
      | cons y r => exact ⟨y, r, rfl⟩
    refine e0a2 (List.cons.inj q) fun hR15_0 hR15_1 => ?_
    obtain rfl := hR15_0
    obtain rfl := hR15_1
    tb_start
    repeat (tb_rel; tb_start)
    refine ho_in_list h1 (fun hx => ?_) (fun hx => ?_)
    · tb_start
      repeat (tb_rel; tb_start)
      refine ho_in_dict (by o_reads) (fun hy => ?_) (fun hy => ?_)
      · tb_start
        exact ih _ _ ⟨rfl, ⟨_, rfl⟩, (setR_ne _ _ (by decide)).trans r1, (setR_ne _ _ (by decide)).trans r2, (setR_ne _ _ (by decide)).trans r3⟩
      · tb_start
        repeat (tb_rel; tb_start)
        exact ⟨_, rfl, .inr ⟨hx, hy⟩, rfl⟩
    · tb_start
      exact ih _ _ ⟨rfl, ⟨_, rfl⟩, (setR_ne _ _ (by decide)).trans r1, (setR_ne _ _ (by decide)).trans r2, (setR_ne _ _ (by decide)).trans r3⟩
end
theorem merged_ds (l m : List Int) : merged (ds l) (ds m) = ds (m.foldl addK l) := by
  unfold merged
  induction m generalizing l with
  | nil => rfl
  | cons x m ih => rw [List.foldl_cons, ← ih, ← ds_add]; rfl
theorem fold_len (m : List Int) : ∀ l : List Int, (m.foldl addK l).length ≤ l.length + m.length := by
  induction m with
  | nil => intro l; simp
  | cons x m ih => intro l; rw [List.foldl_cons, List.length_cons]; have := ih (addK l x); have := len_addK l x; o_readsAll
theorem exsW_app {f : Stmt → Rho → Hp → SQ → Prop} (a b : List Stmt) (Q : SQ) : ∀ ρ σ, exsW f (a ++ b) ρ σ Q = exsW f a ρ σ (nxt (exsW f b) Q) := by
  induction a with
  | nil => intro ρ σ; rfl
  | cons s r ih =>
    intro ρ σ
    show f s ρ σ _ = f s ρ σ _
    refine congrArg _ ?_
    funext fl ρ σ
    cases fl with
    | next => exact ih ρ σ
    | _ => rfl
theorem on_bool {c : Bool} {A D : Prop} (h1 : c = true → A) (h2 : c = false → D) : match (generalizing := false) c with | true => A | false => D := by
  cases c
  · exact h2 rfl
  · exact h1 rfl
/-- a loop's turns, each with what follows held unseen -/
theorem for_ind {P : Px} {tgt : Expr} {body : Rho → Hp → SQ → Prop} {it : Addr} {σ₀ : Hp} {Q : SQ} (I : List Value → Rho → Hp → Prop) (hs : ∀ xs ρ σ, I xs ρ σ → stay it σ₀ σ) (fin : ∀ ρ σ, I [] ρ σ → Q .next ρ σ)
    (step : ∀ x xs ρ σ, I (x :: xs) ρ σ → ∀ K : SQ, (∀ ρ σ, I xs ρ σ → K .next ρ σ) → (∀ ρ σ, I xs ρ σ → K .cont ρ σ) → (∀ ρ σ, Q .next ρ σ → K .brk ρ σ) → (∀ v ρ σ, Q (.ret v) ρ σ → K (.ret v) ρ σ) → tgtP P tgt x ρ σ fun ρ => body ρ σ K) {xs : List Value} {ρ : Rho} {σ : Hp} (h : I xs ρ σ) : forL P tgt body it σ₀ xs ρ σ Q :=
  forL_ind I hs fin (fun x xs ρ σ hi ih => step x xs ρ σ hi _ ih ih (fun _ _ h => h) fun _ _ _ h => h) xs ρ σ h
/-- a body cut in two -/
theorem exs_cut {f : Stmt → Rho → Hp → SQ → Prop} {body : List Stmt} {ρ : Rho} {σ : Hp} {Q : SQ} (n : Nat) (M : Rho → Hp → Prop) (h1 : ∀ K : SQ, (∀ ρ σ, M ρ σ → K .next ρ σ) → exsW f (body.take n) ρ σ K) (h2 : ∀ ρ σ, M ρ σ → exsW f (body.drop n) ρ σ Q) : exsW f body ρ σ Q := by
  rw [← List.take_append_drop n body, exsW_app]
  exact h1 _ fun ρ σ h => h2 ρ σ h
section
variable {C : Cx} (B : Bs C) (hK : KOk C.K) {k : Nat} {σ₀ σ : Hp} {A : GA} {G : Gr} {cps : List Value} {PP : PA} {al kp : List Int} {fz : Addr} {fe : Nat}
include B hK
theorem safe_spec (H : GraphAt σ A G cps) (H2 : PoolsAt σ PP al kp) {one other : Int} (h1 : one ∈ G.keys) (h2 : other ∈ G.keys) : Sp C (k + 2) (.ref 198) [.ref A.g, .ref PP.p, vi one, vi other] σ fun v σ' => (∃ b, v = .bool b) ∧ Ext σ σ' := by
  refine fn_startL B (fn_198 hK) lk_198_dbg rfl rfl ?_
  intro PX
  refine GraphAt.elim H fun m nn e1 e2 e3 e4 i1 i2 i3 i4 i5 i6 i7 i8 i9 i10 i11 i12 i13 i14 i15 d1 d2 d3 d4 d5 f1 f2 f3 f4 f5 f6 f7 f8 f9 f10 f11 f12 f13 f14 => ?_
  refine e2a4 H2.att fun m2 n2 j1 j2 j3 j4 => ?_
  have j5 := H2.inst
  have j6 := H2.la
  have j7 := H2.lk
  have j8 := H2.n1
  have j9 := H2.n2
  have hlen := H.ok.len
  refine GraphAt.rowE H h1 fun ep1 t1 t2 t3 t4 t5 t6 t7 t8 => ?_
  refine GraphAt.rowE H h2 fun ep2 u1 u2 u3 u4 u5 u6 u7 u8 => ?_
  refine exs_cut 2 (fun ρ σ' => σ' = σ ∧ ∃ size, ρ "graph" = some (.ref A.g) ∧ ρ "pools" = some (.ref PP.p) ∧ ρ "one" = some (vi one) ∧ ρ "other" = some (vi other) ∧ ρ "size" = some (vi size)) (fun K hQ => ?_) ?_
  · tb_start
    repeat (tb_rel; tb_start)
    refine ho_in_dict (by o_reads) (fun hx => ?_) (fun hx => ?_)
    · tb_start
      repeat (tb_rel; tb_start)
      exact hQ _ _ ⟨rfl, _, rfl, rfl, rfl, rfl, rfl⟩
    · tb_start
      repeat (tb_rel; tb_start)
      refine ho_in_dict (by o_reads) (fun hx => ?_) (fun hx => ?_)
      all_goals
        tb_start
        repeat (tb_rel; tb_start)
        exact hQ _ _ ⟨rfl, _, rfl, rfl, rfl, rfl, rfl⟩
  · intro ρ0 σ' hI0
    refine hideG fun PG kG => ?_
    obtain ⟨e0, size, g1, g2, g3, g4, g5⟩ := hI0
    refine kG ?_
    clear kG PG
    rw [e0]
    clear e0
    tb_start
    repeat (tb_rel; tb_start)
    split
    · tb_start
      exact ⟨⟨_, rfl⟩, Ext.refl _⟩
    · tb_start
      repeat (tb_rel; tb_start)
      refine fr_intro2 fun c ec hc => ?_
      tb_start
      repeat (tb_rel; tb_start)
      have hcn : c ≠ A.nb other := (ne_of' hc u1).symm
      refine ho_dupd (by o_reads) (by o_reads) hcn (by w_left) (fun e5 => ?_)
      rw [merged_ds, upd_upd]
      have fl := fold_len (G.near other) (G.near one)
      have fm : ∀ y ∈ (G.near other).foldl addK (G.near one), y ∈ G.keys := fun y hy => (mem_fold_addK.mp hy).elim (H.ok.sub _ h1 y) (H.ok.sub _ h2 y)
      have X1 : Ext σ (upd σ c (.dict (ds ((G.near other).foldl addK (G.near one))) e5)) := Ext.newF hc _
      have H' := H.ext X1
      have H2' := H2.ext X1
      tb_start
      repeat (tb_rel; tb_start)
      generalize (G.near other).foldl addK (G.near one) = fo at *
      refine ho_for (seq_dict (upd_self _ _ _)) (by w_left) ?_
      refine for_ind (fun xs ρ σ' => σ' = upd σ c (.dict (ds fo) e5) ∧ (∃ l, xs = List.map vi l ∧ ∀ y ∈ l, y ∈ G.keys) ∧ ∃ h, ρ "hard" = some (vi h) ∧ ρ "graph" = some (.ref A.g) ∧ ρ "pools" = some (.ref PP.p) ∧ ρ "one" = some (vi one) ∧ ρ "other" = some (vi other) ∧ ρ "size" = some (vi size)) ?_ ?_ ?_ ⟨rfl, ⟨_, rfl, fm⟩, _, by o_shape, by o_shape, by o_shape, by o_shape, by o_shape, by o_shape⟩
      · intro xs ρ σ' hI0
        refine e0a2 hI0 fun hR3_0 _ => ?_
        clear hI0
        obtain rfl := hR3_0
        exact stay_dict (upd_self _ _ _) (upd_self _ _ _)
      · intro ρ σ' hI0
        refine hideG fun PG kG => ?_
        obtain ⟨rfl, _, h, p1, p2, p3, p4, p5, p6⟩ := hI0
        refine kG ?_
        clear kG PG
        tb_start
        repeat (tb_rel; tb_start)
        exact ⟨⟨_, rfl⟩, X1⟩
      · intro x xs ρ σ' hI0 K kn _ _ _
        refine hideG fun PG kG => ?_
        obtain ⟨rfl, ⟨l, q, hl⟩, h, p1, p2, p3, p4, p5, p6⟩ := hI0
        refine kG ?_
        clear kG PG
        obtain ⟨y, l, rfl⟩ : ∃ y r, l = y :: r := by cases l with
          | nil => cases q
          | cons y r => exact ⟨y, r, rfl⟩
        refine e0a2 (List.cons.inj q) fun hR7_0 hR7_1 => ?_
        obtain rfl := hR7_0
        obtain rfl := hR7_1
        have hy := hl y (List.mem_cons_self ..)
        refine GraphAt.rowE H hy fun ep3 v1 v2 v3 v4 v5 v6 v7 v8 => ?_
        have back : ∀ (ρ' : Rho) (h : Int), ρ' "hard" = some (vi h) → ρ' "graph" = some (.ref A.g) ∧ ρ' "pools" = some (.ref PP.p) ∧ ρ' "one" = some (vi one) ∧ ρ' "other" = some (vi other) ∧ ρ' "size" = some (vi size) → _ := fun (ρ' : Rho) (h : Int) w1 w2 => kn ρ' (upd σ c (.dict (ds fo) e5)) ⟨rfl, ⟨l, rfl, fun y hy => hl y (List.mem_cons_of_mem _ hy)⟩, h, w1, w2⟩
        tb_start
        repeat (tb_rel; tb_start)
        refine ho_in_dict (by o_reads) (fun hx => ?_) (fun hx => ?_)
        · tb_start
          repeat (tb_rel; tb_start)
          refine ho_in_dict (by o_reads) (fun hx => ?_) (fun hx => ?_)
          all_goals
            tb_start
            repeat (tb_rel; tb_start)
            refine Sp.mono (of_spec B hK H' H2') fun v τ h => ?_
            refine e1a3 h fun b hR8_1 hb hR8_3 => ?_
            clear h
            obtain rfl := hR8_1
            obtain rfl := hR8_3
            have rl : (rowOf G al kp y).length ≤ 10 := by unfold rowOf; split <;> assumption
            tb_start
            repeat (tb_rel; tb_start)
            refine on_bool (fun _ => ?_) (fun _ => ?_)
            all_goals
              tb_start
              repeat (tb_rel; tb_start)
              refine back _ _ (by o_shape) ⟨by o_shape, by o_shape, by o_shape, by o_shape, by o_shape⟩
        · tb_start
          repeat (tb_rel; tb_start)
          refine Sp.mono (of_spec B hK H' H2') fun v τ h => ?_
          refine e1a3 h fun b hR9_1 hb hR9_3 => ?_
          clear h
          obtain rfl := hR9_1
          obtain rfl := hR9_3
          have rl : (rowOf G al kp y).length ≤ 10 := by unfold rowOf; split <;> assumption
          tb_start
          repeat (tb_rel; tb_start)
          refine on_bool (fun _ => ?_) (fun _ => ?_)
          all_goals
            tb_start
            repeat (tb_rel; tb_start)
            refine back _ _ (by o_shape) ⟨by o_shape, by o_shape, by o_shape, by o_shape, by o_shape⟩
end
theorem len_stored (ks : List Int) (f : Int → Value) (k : Int) (v : Value) : (stored (dk ks f) k v).length ≤ ks.length + 1 := by
  by_cases h : k ∈ ks
  · rw [dk_old h, dk_len]; o_readsAll
  · rw [dk_new h, dk_len, List.length_append]; simp
theorem map_cons {x : Value} {xs : List Value} {l : List Int} (q : x :: xs = List.map vi l) : ∃ y r, l = y :: r ∧ x = vi y ∧ xs = List.map vi r := by
  cases l with
  | nil => cases q
  | cons y r => obtain ⟨rfl, rfl⟩ := List.cons.inj q; exact ⟨y, r, rfl, rfl, rfl⟩
section
variable {C : Cx} (B : Bs C) (hK : KOk C.K) {k : Nat} {σ₀ σ : Hp} {A : GA} {G : Gr} {cps : List Value} {PP : PA} {al kp : List Int} {fz : Addr} {fe : Nat}
include B hK
theorem cheapest_spec (H : GraphAt σ A G cps) {dg lf : Addr} {ks l : List Int} {deg : Int → Int} {e1 e2 : Nat} (h1 : σ dg = some (.dict (dk ks fun r => vi (deg r)) e1)) (h2 : σ lf = some (.dict (ds l) e2)) (h3 : σ fz = some (.dict (ds []) fe))
    (hd0 : ∀ r ∈ l, 0 ≤ deg r ∧ deg r ≤ 1000) (hlk : ∀ r ∈ l, r ∈ ks) (hlg : ∀ r ∈ l, r ∈ G.keys) (hne : l ≠ []) (hll : l.length ≤ 100) :
    Sp C (k + 2) (.ref 219) [.ref A.g, .ref dg, .ref lf, .ref fz] σ fun v σ' => ∃ r, v = vi r ∧ r ∈ l ∧ Ext σ σ' := by
  refine fn_startL B (fn_219 hK) lk_219_dbg rfl rfl ?_
  intro PX
  refine exs_cut 1 (fun ρ σ' => Ext σ σ' ∧ ρ "graph" = some (.ref A.g) ∧ ρ "degree" = some (.ref dg) ∧ ρ "left" = some (.ref lf) ∧ ρ "frozen" = some (.ref fz) ∧ ρ "best" = some .none ∧ ρ "found" = some (vi (-1))) (fun K hQ => ?_) ?_
  · tb_start
    repeat (tb_rel; tb_start)
    refine fr_intro fun c hc => ?_
    tb_start
    repeat (tb_rel; tb_start)
    exact hQ _ _ ⟨Ext.newF hc _, rfl, rfl, rfl, rfl, rfl, rfl⟩
  · intro ρ0 σ1 hI0
    refine e0a7 hI0 fun x0 p1 p2 p3 p4 p5 p6 => ?_
    clear hI0
    tb_start
    repeat (tb_rel; tb_start)
    have k2 := x0.at h2
    refine ho_for (seq_dict k2) (by w_left) ?_
    refine for_ind (fun xs ρ σ' => Ext σ1 σ' ∧ (∃ rest, xs = List.map vi rest ∧ ∀ y ∈ rest, y ∈ l) ∧ ρ "graph" = some (.ref A.g) ∧ ρ "degree" = some (.ref dg) ∧ ρ "frozen" = some (.ref fz) ∧
      ((xs = List.map vi l ∧ ρ "best" = some .none ∧ ρ "found" = some (vi (-1))) ∨ ∃ b w r, ρ "best" = some (.ref b) ∧ σ' b = some (.tup [.bool false, vi w]) ∧ ρ "found" = some (vi r) ∧ r ∈ l)) ?_ ?_ ?_ ⟨Ext.refl _, ⟨l, rfl, fun _ h => h⟩, p1, p2, p4, .inl ⟨rfl, p5, p6⟩⟩
    · intro xs ρ σ' hI0
      refine e0a2 hI0 fun hx _ => ?_
      clear hI0
      exact stay_dict k2 (hx.at k2)
    · intro ρ σ' hI0
      refine e0a6 hI0 fun hx _ q1 q2 q3 q4 => ?_
      clear hI0
      rcases q4 with ⟨q, _⟩ | ⟨b, w, r, q4, q5, q6, q7⟩
      · exact absurd (List.map_eq_nil_iff.mp q.symm) hne
      · tb_start
        repeat (tb_rel; tb_start)
        exact ⟨r, rfl, q7, x0.trans hx⟩
    · intro x xs ρ σ' hI0 K kn _ _ _
      refine e0a6 hI0 fun hx hN4_1 q1 q2 q3 q4 => ?_
      clear hI0
      refine e1a2 hN4_1 fun rest q hl => ?_
      clear hN4_1
      refine e2a3 (map_cons q) fun y rest hR6_2 hR6_3 hR6_4 => ?_
      obtain rfl := hR6_2
      obtain rfl := hR6_3
      obtain rfl := hR6_4
      have hy := hl y (List.mem_cons_self ..)
      have hyk := hlk y hy
      have x1 := x0.trans hx
      have w1 := x1.at h1
      have w3 := x1.at h3
      refine e0a2 (hd0 y hy) fun g1 g2 => ?_
      have fin : ∀ {ρ' : Rho} {σ'' : Hp}, Ext σ' σ'' → ρ' "graph" = some (.ref A.g) → ρ' "degree" = some (.ref dg) → ρ' "frozen" = some (.ref fz) → (∃ b w r, ρ' "best" = some (.ref b) ∧ σ'' b = some (.tup [.bool false, vi w]) ∧ ρ' "found" = some (vi r) ∧ r ∈ l) → K .next ρ' σ'' := fun a b c d e =>
        kn _ _ ⟨hx.trans a, ⟨rest, rfl, fun y hy => hl y (List.mem_cons_of_mem _ hy)⟩, b, c, d, .inr e⟩
      tb_start
      repeat (tb_rel; tb_start)
      refine ho_in_dict w3 (fun h => by cases h) (fun _ => ?_)
      tb_start
      repeat (tb_rel; tb_start)
      refine Sp.mono (worth_spec B hK (H.ext x1) (hlg y hy) g1 g2) fun v τ h => ?_
      refine e0a2 h fun hN8_0 hR8_1 => ?_
      clear h
      refine e1a1 hN8_0 fun n hR9_1 => ?_
      clear hN8_0
      obtain rfl := hR9_1
      obtain rfl := hR8_1
      refine fr_intro fun c hc => ?_
      have xc : Ext τ (upd τ c (.tup [.bool false, vi n])) := Ext.newF hc _
      have tc : upd τ c (.tup [.bool false, vi n]) c = some (.tup [.bool false, vi n]) := upd_self _ _ _
      rcases q4 with ⟨_, q4, q5⟩ | ⟨b, w, r, q4, q5, q6, q7⟩
      · tb_start
        repeat (tb_rel; tb_start)
        refine fr_intro fun c' hc' => ?_
        tb_start
        repeat (tb_rel; tb_start)
        exact fin (xc.trans (Ext.newF hc' _)) (by o_shape) (by o_shape) (by o_shape) ⟨c, n, y, by o_shape, by o_reads, by o_shape, hy⟩
      · have tb := xc.at q5
        tb_start
        repeat (tb_rel; tb_start)
        refine ho_ltT tc tb (fun r => ?_)
        cases r
        · tb_start
          repeat (tb_rel; tb_start)
          exact fin xc (by o_shape) (by o_shape) (by o_shape) ⟨b, w, _, by o_shape, by o_reads, by o_shape, q7⟩
        · tb_start
          repeat (tb_rel; tb_start)
          refine fr_intro fun c' hc' => ?_
          tb_start
          repeat (tb_rel; tb_start)
          exact fin (xc.trans (Ext.newF hc' _)) (by o_shape) (by o_shape) (by o_shape) ⟨c, n, y, by o_shape, by o_reads, by o_shape, hy⟩
end
theorem while_ind {test : Rho → Hp → TQ → Prop} {body : Rho → Hp → SQ → Prop} {Q : SQ} (I : Nat → Rho → Hp → Prop)
    (step : ∀ n ρ σ, I n ρ σ → ∀ K : SQ, (∀ n' ρ σ, n' < n → I n' ρ σ → K .next ρ σ) → (∀ n' ρ σ, n' < n → I n' ρ σ → K .cont ρ σ) → (∀ ρ σ, Q .next ρ σ → K .brk ρ σ) → (∀ v ρ σ, Q (.ret v) ρ σ → K (.ret v) ρ σ) →
      ∀ R : Rho → Hp → Prop, (∀ ρ σ, Q .next ρ σ → R ρ σ) → test ρ σ fun c σ => match c with
      | true => body ρ σ K
      | false => R ρ σ) {n : Nat} {ρ : Rho} {σ : Hp} (h : I n ρ σ) : ∃ m, whP test body m ρ σ Q :=
  wh_ind I (fun n ρ σ hi m ih => step n ρ σ hi (fun f ρ σ => match f with
    | .next => whP test body m ρ σ Q
    | .cont => whP test body m ρ σ Q
    | .brk => Q .next ρ σ
    | .ret v => Q (.ret v) ρ σ) ih ih (fun _ _ h => h) (fun _ _ _ h => h) (fun ρ σ => Q .next ρ σ) fun _ _ h => h) h
theorem ho_eq_nil {σ : Hp} {QB : Bool → Prop} {a b : Addr} {ns : List Int} (h : σ a = some (.list (ns.map vi))) (h' : σ b = some (.list [])) (q1 : ns = [] → QB true) (q2 : ns ≠ [] → QB false) : Hold (eqP a b σ QB) := ho_eq_list (ms := []) h h' q1 q2
theorem Ext.put {σ σ' : Hp} {a : Addr} (e : Ext σ σ') (h : σ a = Option.none) (x : MO) : Ext σ (upd σ' a x) := fun b y q => by
  rw [upd_ne _ _ (ne_of q h)]; exact e b y q
structure Stk (σ σ' : Hp) (dg lf st lo : Addr) (ks : List Int) (deg : Int → Int) (l s w : List Int) : Prop where
  ext : Ext σ σ'
  n1 : σ dg = none
  n2 : σ lf = none
  n3 : σ st = none
  n4 : σ lo = none
  sep : dg ≠ lf ∧ dg ≠ st ∧ dg ≠ lo ∧ lf ≠ st ∧ lf ≠ lo ∧ st ≠ lo
  v1 : ∃ e, σ' dg = some (.dict (dk ks fun r => vi (deg r)) e)
  v2 : ∃ e, σ' lf = some (.dict (ds l) e)
  v3 : σ' st = some (.list (s.map vi))
  v4 : σ' lo = some (.list (w.map vi))
section
variable {σ σ' : Hp} {dg lf st lo : Addr} {ks l s w : List Int} {deg : Int → Int}
theorem Stk.more (H : Stk σ σ' dg lf st lo ks deg l s w) {τ : Hp} (e : Ext σ' τ) : Stk σ τ dg lf st lo ks deg l s w :=
  ⟨H.ext.trans e, H.n1, H.n2, H.n3, H.n4, H.sep, let ⟨a, h⟩ := H.v1; ⟨a, e _ _ h⟩, let ⟨a, h⟩ := H.v2; ⟨a, e _ _ h⟩, e _ _ H.v3, e _ _ H.v4⟩
theorem Stk.setDeg (H : Stk σ σ' dg lf st lo ks deg l s w) (ks' : List Int) (deg' : Int → Int) (e : Nat) : Stk σ (upd σ' dg (.dict (dk ks' fun r => vi (deg' r)) e)) dg lf st lo ks' deg' l s w := by
  refine e0a6 H.sep fun a1 a2 a3 a4 a5 a6 => ?_
  refine e1a1 H.v2 fun x v2 => ?_
  exact ⟨H.ext.put H.n1 _, H.n1, H.n2, H.n3, H.n4, H.sep, ⟨e, upd_self _ _ _⟩, ⟨x, upd_some v2 a1.symm⟩, upd_some H.v3 a2.symm, upd_some H.v4 a3.symm⟩
theorem Stk.setLeft (H : Stk σ σ' dg lf st lo ks deg l s w) (l' : List Int) (e : Nat) : Stk σ (upd σ' lf (.dict (ds l') e)) dg lf st lo ks deg l' s w := by
  refine e0a6 H.sep fun a1 a2 a3 a4 a5 a6 => ?_
  refine e1a1 H.v1 fun x v1 => ?_
  exact ⟨H.ext.put H.n2 _, H.n1, H.n2, H.n3, H.n4, H.sep, ⟨x, upd_some v1 a1⟩, ⟨e, upd_self _ _ _⟩, upd_some H.v3 a4.symm, upd_some H.v4 a5.symm⟩
theorem Stk.setStk (H : Stk σ σ' dg lf st lo ks deg l s w) (s' : List Int) : Stk σ (upd σ' st (.list (s'.map vi))) dg lf st lo ks deg l s' w := by
  refine e0a6 H.sep fun a1 a2 a3 a4 a5 a6 => ?_
  refine e1a1 H.v1 fun x v1 => ?_
  refine e1a1 H.v2 fun y v2 => ?_
  exact ⟨H.ext.put H.n3 _, H.n1, H.n2, H.n3, H.n4, H.sep, ⟨x, upd_some v1 a2⟩, ⟨y, upd_some v2 a4⟩, upd_self _ _ _, upd_some H.v4 a6.symm⟩
theorem Stk.setLow (H : Stk σ σ' dg lf st lo ks deg l s w) (w' : List Int) : Stk σ (upd σ' lo (.list (w'.map vi))) dg lf st lo ks deg l s w' := by
  refine e0a6 H.sep fun a1 a2 a3 a4 a5 a6 => ?_
  refine e1a1 H.v1 fun x v1 => ?_
  refine e1a1 H.v2 fun y v2 => ?_
  exact ⟨H.ext.put H.n4 _, H.n1, H.n2, H.n3, H.n4, H.sep, ⟨x, upd_some v1 a3⟩, ⟨y, upd_some v2 a5⟩, upd_some H.v3 a6, upd_self _ _ _⟩
end
noncomputable def RS (A : GA) (PP : PA) (fz dg lf st lo : Addr) (ρ : Rho) : Prop := ρ "graph" = some (.ref A.g) ∧ ρ "pools" = some (.ref PP.p) ∧ ρ "frozen" = some (.ref fz) ∧ ρ "degree" = some (.ref dg) ∧ ρ "left" = some (.ref lf) ∧ ρ "stack" = some (.ref st) ∧ ρ "low" = some (.ref lo)
/-- how many beside one are left -/
noncomputable def cnt (G : Gr) (l : List Int) (r : Int) : Int := (((G.near r).filter fun j => decide (j ∈ l)).length : Nat)
theorem filter_ne_len {l : List Int} {x : Int} (hn : l.Nodup) (hx : x ∈ l) : (l.filter fun j => decide (j ≠ x)).length + 1 = l.length := by
  induction l with
  | nil => cases hx
  | cons y l ih =>
    rw [List.nodup_cons] at hn
    by_cases e : y = x
    · subst e
      have : l.filter (fun j => decide (j ≠ y)) = l := List.filter_eq_self.mpr fun a ha => by
        rw [decide_eq_true_eq]; exact fun e => hn.1 (e ▸ ha)
      rw [List.filter_cons, if_neg (by simp), this]; rfl
    · rw [List.filter_cons, if_pos (by simpa using e), List.length_cons, List.length_cons, ih hn.2 ((List.mem_cons.mp hx).resolve_left fun q => e q.symm)]
theorem cnt_less {G : Gr} {l : List Int} {r x : Int} (hn : (G.near r).Nodup) (hx : x ∈ l) : cnt G (l.filter fun j => decide (j ≠ x)) r = cnt G l r - (if x ∈ G.near r then 1 else 0) := by
  unfold cnt
  have e : ((G.near r).filter fun j => decide (j ∈ l.filter fun j => decide (j ≠ x))) = ((G.near r).filter fun j => decide (j ∈ l)).filter fun j => decide (j ≠ x) := by
    rw [List.filter_filter]
    refine List.filter_congr fun j _ => ?_
    rw [Bool.eq_iff_iff]
    simp only [List.mem_filter, decide_eq_true_eq, Bool.and_eq_true]
    exact And.comm
  rw [e]
  split
  · rename_i h
    have := filter_ne_len (hn.filter fun j => decide (j ∈ l)) (x := x) (List.mem_filter.mpr ⟨h, by simpa using hx⟩)
    o_readsAll
  · rename_i h
    have : ((G.near r).filter fun j => decide (j ∈ l)).filter (fun j => decide (j ≠ x)) = (G.near r).filter fun j => decide (j ∈ l) := List.filter_eq_self.mpr fun a ha => by
      rw [decide_eq_true_eq]; exact fun e => h (e ▸ (List.mem_filter.mp ha).1)
    rw [this]; o_readsAll
theorem cnt_nonneg {G : Gr} {l : List Int} {r : Int} : 0 ≤ cnt G l r := by unfold cnt; o_readsAll
theorem cnt_le {G : Gr} {l : List Int} {r : Int} (h : (G.near r).length ≤ 10) : cnt G l r ≤ 10 := by
  unfold cnt
  have := List.length_filter_le (fun j => decide (j ∈ l)) (G.near r)
  o_readsAll
section
variable {C : Cx} (B : Bs C) (hK : KOk C.K) {k : Nat} {σ₀ σ : Hp} {A : GA} {G : Gr} {cps : List Value} {PP : PA} {al kp : List Int} {fz : Addr} {fe : Nat}
include B hK
theorem stacked_spec (H : GraphAt σ A G cps) (N : Nice G) (H2 : PoolsAt σ PP al kp) (hfz : σ fz = some (.dict (ds []) fe)) :
    Sp C (k + 3) (.ref 226) [.ref A.g, .ref PP.p, .ref fz] σ fun v σ' => ∃ c ms, v = .ref c ∧ σ' c = some (.list (List.map vi ms)) ∧ Ext σ σ' ∧ ms.Nodup ∧ ∀ x, x ∈ ms ↔ x ∈ G.keys ∧ G.ali x = x := by
  refine fn_startL B (fn_226 hK) lk_226_dbg rfl rfl ?_
  intro PX
  have hlen := H.ok.len
  have rl : ∀ y, (rowOf G al kp y).length ≤ 10 := fun y => by unfold rowOf; split; exact H2.n2; exact H2.n1
  have toNear : ∀ r ∈ G.keys, ∀ j ∈ G.near r, j ∈ G.keys ∧ G.ali j = j := fun r hr j hj => ⟨H.ok.sub r hr j hj, N.led j (H.ok.sub r hr j hj) (List.ne_nil_of_mem (N.sym r hr j hj))⟩
  refine exs_cut 2 (fun ρ σ' => ∃ dg lf st lo, RS A PP fz dg lf st lo ρ ∧ Stk σ σ' dg lf st lo [] (fun r => ((G.near r).length : Int)) [] [] []) (fun K hQ => ?_) ?_
  · tb_start
    repeat (tb_rel; tb_start)
    refine fr_intro2 fun dg eg hdg => ?_
    tb_start
    repeat (tb_rel; tb_start)
    refine fr_intro2 fun lf el hlf => ?_
    tb_start
    repeat (tb_rel; tb_start)
    refine fr_intro fun st hst => ?_
    tb_start
    repeat (tb_rel; tb_start)
    refine fr_intro fun tp htp => ?_
    tb_start
    repeat (tb_rel; tb_start)
    refine fr_intro fun lo hlo => ?_
    tb_start
    repeat (tb_rel; tb_start)
    have x1 : Ext σ (upd σ dg (.dict [] eg)) := Ext.newF hdg _
    have x2 := x1.trans (Ext.newF hlf (.dict [] el))
    have x3 := x2.trans (Ext.newF hst (.list []))
    have x4 := x3.trans (Ext.newF htp (.tup [.ref dg, .ref lf, .ref st]))
    exact hQ _ _ ⟨dg, lf, st, lo, ⟨rfl, rfl, rfl, rfl, rfl, rfl, rfl⟩, ⟨x4.trans (Ext.newF hlo _), hdg.out, x1.fr hlf, x2.fr hst, x4.fr hlo, ⟨by o_fieldsN, by o_fieldsN, by o_fieldsN, by o_fieldsN, by o_fieldsN, by o_fieldsN⟩, ⟨eg, by show _ = some (MO.dict [] eg); o_reads⟩, ⟨el, by show _ = some (MO.dict [] el); o_reads⟩, by show _ = some (MO.list []); o_reads, by show _ = some (MO.list []); o_reads⟩⟩
  intro ρ0 σ1 hI0
  refine e4a2 hI0 fun dg lf st lo p S1 => ?_
  clear hI0
  refine exs_cut 1 (fun ρ σ' => RS A PP fz dg lf st lo ρ ∧ ∃ w, w.length ≤ 10 ∧ Stk σ σ' dg lf st lo (G.keys.filter fun x => G.ali x == x) (fun r => ((G.near r).length : Int)) (G.keys.filter fun x => G.ali x == x) [] w) (fun K hQ => ?_) ?_
  · refine e0a7 p fun p1 p2 p3 p4 p5 p6 p7 => ?_
    clear p
    have H1 := H.ext S1.ext
    refine GraphAt.elim H1 fun m nn e1 e2 e3 e4 i1 i2 i3 i4 i5 i6 i7 i8 i9 i10 i11 i12 i13 i14 i15 d1 d2 d3 d4 d5 f1 f2 f3 f4 f5 f6 f7 f8 f9 f10 f11 f12 f13 f14 => ?_
    tb_start
    repeat (tb_rel; tb_start)
    refine Sp.mono (leaders_spec B hK H1) fun v τ h => ?_
    refine e1a3 h fun c hR13_1 hc hR13_3 => ?_
    clear h
    obtain rfl := hR13_1
    obtain rfl := hR13_3
    have xc := Ext.newF hc (.list ((G.keys.filter fun x => G.ali x == x).map vi))
    have S2 := S1.more xc
    have hL : ∀ y ∈ G.keys.filter (fun x => G.ali x == x), y ∈ G.keys := fun y h => (List.mem_filter.mp h).1
    have hLn : (G.keys.filter fun x => G.ali x == x).length ≤ 10 := Nat.le_trans (List.length_filter_le ..) hlen
    have hLd : (G.keys.filter fun x => G.ali x == x).Nodup := H.ok.nodup.filter _
    generalize (G.keys.filter fun x => G.ali x == x) = L at *
    refine ho_for (seq_list (upd_self _ _ _)) (by w_left) ?_
    have cd : ∀ {b : Addr}, σ b = none → σ1 b ≠ none → c ≠ b := fun h h' e => h' (e ▸ hc.out)
    generalize hτ : upd σ1 c (.list (L.map vi)) = τ at *
    have tc : τ c = some (.list (L.map vi)) := by rw [← hτ]; exact upd_self _ _ _
    have cn1 : c ≠ dg := (ne_of' hc (S1.v1.choose_spec)).symm
    have cn2 : c ≠ lf := (ne_of' hc (S1.v2.choose_spec)).symm
    have cn4 : c ≠ lo := (ne_of' hc S1.v4).symm
    refine for_ind (fun xs ρ σ' => ∃ done rest w, xs = List.map vi rest ∧ L = done ++ rest ∧ RS A PP fz dg lf st lo ρ ∧ w.length ≤ done.length ∧ Stk σ σ' dg lf st lo done (fun r => ((G.near r).length : Int)) done [] w ∧ σ' c = some (.list (L.map vi))) ?_ ?_ ?_ ⟨[], L, [], rfl, rfl, ⟨p1, p2, p3, p4, p5, p6, p7⟩, Nat.le_refl _, S2, tc⟩
    · intro xs ρ σ' hI0
      refine e3a6 hI0 fun done rest w hR14_3 e p hw S3 q => ?_
      clear hI0
      obtain rfl := hR14_3
      exact stay_list tc q
    · intro ρ σ' hI0
      refine e3a6 hI0 fun done rest w q1 e p hw S3 q => ?_
      clear hI0
      cases List.map_eq_nil_iff.mp q1.symm
      rw [List.append_nil] at e
      subst e
      exact hQ _ _ ⟨p, w, by o_readsAll, S3⟩
    · intro x xs ρ σ' hI0 K kn _ _ _
      refine e3a6 hI0 fun done rest w q1 e hN16_5 hw S3 q => ?_
      clear hI0
      refine e0a7 hN16_5 fun p1 p2 p3 p4 p5 p6 p7 => ?_
      clear hN16_5
      refine e2a3 (map_cons q1) fun y rest hR18_2 hR18_3 hR18_4 => ?_
      obtain rfl := hR18_2
      obtain rfl := hR18_3
      obtain rfl := hR18_4
      have hy := hL y (by rw [e]; simp)
      have hyd : y ∉ done := fun h => by
        rw [e] at hLd
        exact (List.nodup_append.mp hLd).2.2 y h y (List.mem_cons_self ..) rfl
      have hdl : done.length ≤ 10 := by rw [e, List.length_append] at hLn; o_readsAll
      clear m i2 i4 i5 i6 i7 i8 i9 i10 i11 i12 i13 i14 i15
      have H3 := H.ext S3.ext
      have P3 := H2.ext S3.ext
      refine GraphAt.elim H3 fun m nn e1 e2 e3 e4 i1 i2 i3 i4 i5 i6 i7 i8 i9 i10 i11 i12 i13 i14 i15 d1 d2 d3 d4 d5 f1 f2 f3 f4 f5 f6 f7 f8 f9 f10 f11 f12 f13 f14 => ?_
      refine GraphAt.rowE H3 hy fun ep r1 r2 r3 r4 r5 r6 r7 r8 => ?_
      refine e1a1 S3.v1 fun w1 v1 => ?_
      refine e1a1 S3.v2 fun w2 v2 => ?_
      have v3 := S3.v3
      have v4 := S3.v4
      refine e0a6 S3.sep fun a1 a2 a3 a4 a5 a6 => ?_
      have ft : ∀ {b : Addr} {x : MO}, σ b = some x → b ≠ dg ∧ b ≠ lf ∧ b ≠ lo := fun h => ⟨ne_of h S3.n1, ne_of h S3.n2, ne_of h S3.n4⟩
      tb_start
      repeat (tb_rel; tb_start)
      have q1 : stored (dk done fun r => vi ↑(G.near r).length) y (vi ↑(ds (G.near y)).length) = dk (done ++ [y]) fun r => vi ↑(G.near r).length := by
        rw [dk_new hyd]
        refine dk_congr fun j _ => ?_
        split
        · rename_i e; rw [e, dk_len]
        · rfl
      have q2 : stored (ds done) y (Value.bool true) = ds (done ++ [y]) := by
        rw [ds_add]; unfold addK; rw [if_neg hyd]
      rw [q1, q2]
      rename_i a1' a2'
      have S4 := (S3.setDeg (done ++ [y]) (fun r => ((G.near r).length : Int)) a1').setLeft (done ++ [y]) a2'
      have q4 : upd (upd σ' dg (.dict (dk (done ++ [y]) fun r => vi ↑(G.near r).length) a1')) lf (.dict (ds (done ++ [y])) a2') c = some (.list (L.map vi)) := upd_some (upd_some q cn1) cn2
      generalize hT : upd (upd σ' dg _) lf _ = T at S4 q4 ⊢
      have P4 := H2.ext S4.ext
      refine e2a4 P4.att fun m2 n2 j1 j2 j3 j4 => ?_
      have j5 := P4.inst
      have u4 := S4.v4
      tb_start
      repeat (tb_rel; tb_start)
      refine Sp.mono (of_spec B hK (H.ext S4.ext) P4) fun v τ' h => ?_
      refine e1a3 h fun b hR23_1 hb hR23_3 => ?_
      clear h
      obtain rfl := hR23_1
      obtain rfl := hR23_3
      have rly := rl y
      tb_start
      repeat (tb_rel; tb_start)
      refine on_bool (fun _ => ?_) (fun _ => ?_)
      · tb_start
        repeat (tb_rel; tb_start)
        refine kn _ _ ⟨done ++ [y], rest, w ++ [y], rfl, by rw [e]; simp, ⟨by o_shape, by o_shape, by o_shape, by o_shape, by o_shape, by o_shape, by o_shape⟩, by simp only [List.length_append, List.length_cons, List.length_nil]; o_readsAll, ?_, upd_some q4 cn4⟩
        have := S4.setLow (w ++ [y])
        rwa [List.map_append] at this
      · tb_start
        exact kn _ _ ⟨done ++ [y], rest, w, rfl, by rw [e]; simp, ⟨by o_shape, by o_shape, by o_shape, by o_shape, by o_shape, by o_shape, by o_shape⟩, by simp only [List.length_append, List.length_cons, List.length_nil]; o_readsAll, S4, q4⟩
  intro ρ1 σ2 hI0
  refine hideG fun PG kG => ?_
  obtain ⟨p, w, hw, S2⟩ := hI0
  refine kG ?_
  clear kG PG
  have hL : ∀ y ∈ G.keys.filter (fun x => G.ali x == x), y ∈ G.keys ∧ G.ali y = y := fun y h => by
    have := List.mem_filter.mp h; exact ⟨this.1, by simpa using this.2⟩
  have hLm : ∀ y, y ∈ G.keys → G.ali y = y → y ∈ G.keys.filter (fun x => G.ali x == x) := fun y h h' => List.mem_filter.mpr ⟨h, by simpa using h'⟩
  have hLn : (G.keys.filter fun x => G.ali x == x).length ≤ 10 := Nat.le_trans (List.length_filter_le ..) hlen
  have hLd : (G.keys.filter fun x => G.ali x == x).Nodup := H.ok.nodup.filter _
  have hdeg : ∀ r ∈ G.keys.filter (fun x => G.ali x == x), ((G.near r).length : Int) = cnt G (G.keys.filter fun x => G.ali x == x) r := fun r hr => by
    unfold cnt
    have : (G.near r).filter (fun j => decide (j ∈ G.keys.filter fun x => G.ali x == x)) = G.near r := List.filter_eq_self.mpr fun j hj => by
      have := toNear r (hL r hr).1 j hj
      rw [decide_eq_true_eq]; exact hLm j this.1 this.2
    rw [this]
  generalize (G.keys.filter fun x => G.ali x == x) = L at *
  refine exs_cut 1 (fun ρ σ' => RS A PP fz dg lf st lo ρ ∧ ∃ deg s w, Stk σ σ' dg lf st lo L deg [] s w ∧ s.Nodup ∧ ∀ x, x ∈ L ↔ x ∈ s) (fun K0 hQ => ?_) ?_
  · tb_start
    refine while_ind (fun n ρ σ' => RS A PP fz dg lf st lo ρ ∧ ∃ deg l s w, w.length + 11 * l.length ≤ n ∧ n ≤ 200 ∧ Stk σ σ' dg lf st lo L deg l s w ∧ l.Nodup ∧ s.Nodup ∧ (∀ x, x ∈ L ↔ x ∈ s ∨ x ∈ l) ∧ (∀ x ∈ s, x ∉ l) ∧ ∀ r ∈ l, deg r = cnt G l r) ?_ (n := 120)
      ⟨p, _, L, [], w, by o_readsAll, by o_readsAll, S2, hLd, List.nodup_nil, fun x => by simp, fun x h => (by cases h), hdeg⟩
    intro n ρ σ' hI0 K kn kc _ _ R hR
    refine hideG fun PG kG => ?_
    obtain ⟨p, deg, l, s, w, hn, hn2, S, ln, sn, hm, hds, hc⟩ := hI0
    refine kG ?_
    clear kG PG
    have pp := p
    refine e0a7 p fun p1 p2 p3 p4 p5 p6 p7 => ?_
    clear p
    refine e1a1 S.v2 fun w2 v2 => ?_
    tb_start
    repeat (tb_rel; tb_start)
    refine fr_intro2 fun d0 e0 hd0 => ?_
    tb_start
    repeat (tb_rel; tb_start)
    refine ho_eq_dict (by o_reads) (upd_self _ _ _) (fun h => ?_) (fun h => ?_)
    · cases List.map_eq_nil_iff.mp h
      exact hR _ _ (hQ _ _ ⟨pp, deg, s, w, S.more (Ext.newF hd0 _), sn, fun x => by rw [hm]; simp⟩)
    · have hne : l ≠ [] := fun e => h (by rw [e]; rfl)
      have hlL : ∀ r ∈ l, r ∈ L := fun r hr => (hm r).mpr (.inr hr)
      have S := S.more (Ext.newF hd0 (.dict [] e0))
      clear v2
      generalize upd σ' d0 (.dict [] e0) = σ3 at S ⊢
      show exsW _ _ ρ σ3 K
      refine exs_cut 1 (fun ρ' τ => RS A PP fz dg lf st lo ρ' ∧ ∃ w' x, Stk σ τ dg lf st lo L deg l s (w' ++ [x]) ∧ (w'.length + 1 + 11 * l.length ≤ n ∨ (w' = [] ∧ x ∈ l))) (fun K1 hQ1 => ?_) ?_
      · have v4 := S.v4
        tb_start
        repeat (tb_rel; tb_start)
        refine fr_intro fun d1 hd1 => ?_
        have xd := Ext.newF hd1 (.list [])
        have S5 := S.more xd
        tb_start
        repeat (tb_rel; tb_start)
        refine ho_eq_nil (by o_reads) (upd_self _ _ _) (fun hw => ?_) (fun hw => ?_)
        · have u4 := S5.v4
          refine e1a1 S5.v1 fun x1 u1 => ?_
          refine e1a1 S5.v2 fun x2 u2 => ?_
          have u5 := S5.ext.at hfz
          generalize upd σ3 d1 (.list []) = σ4 at *
          subst hw
          tb_start
          repeat (tb_rel; tb_start)
          refine Sp.mono (cheapest_spec B hK (H.ext S5.ext) u1 u2 u5 (fun r hr => ?_) hlL (fun r hr => (hL r (hlL r hr)).1) hne (by o_readsAll)) fun v τ h => ?_
          · rw [hc r hr]
            exact ⟨cnt_nonneg, Int.le_trans (cnt_le (H.ok.nlen (hL r (hlL r hr)).1)) (by decide)⟩
          · refine e1a3 h fun r hR30_1 hr hx => ?_
            clear h
            obtain rfl := hR30_1
            have S6 := S5.more hx
            have t4 := S6.v4
            tb_start
            repeat (tb_rel; tb_start)
            exact hQ1 _ _ ⟨pp, [], r, S6.setLow [r], .inr ⟨rfl, hr⟩⟩
        · obtain ⟨w', x, rfl⟩ : ∃ w' x, w = w' ++ [x] := ⟨w.dropLast, w.getLast hw, (List.dropLast_concat_getLast hw).symm⟩
          tb_start
          refine hQ1 _ _ ⟨pp, w', x, S5, .inl ?_⟩
          rw [List.length_append, List.length_singleton] at hn
          o_readsAll
      · intro ρ2 σ4 hI0
        refine hideG fun PG kG => ?_
        obtain ⟨p, w', x, S6, hx⟩ := hI0
        refine kG ?_
        clear kG PG
        refine exs_cut 1 (fun ρ' τ => RS A PP fz dg lf st lo ρ' ∧ ρ' "here" = some (vi x) ∧ Stk σ τ dg lf st lo L deg l s w') (fun K1 hQ1 => ?_) ?_
        · refine e0a7 p fun p1 p2 p3 p4 p5 p6 p7 => ?_
          clear p
          have v4 := S6.v4
          rw [List.map_append] at v4
          have wl : w'.length ≤ 200 := by rcases hx with h | h; o_readsAll; rw [h.1]; exact Nat.zero_le _
          tb_start
          repeat (tb_rel; tb_start)
          refine ho_pop v4 (by rw [List.length_map]; o_readsAll) ?_
          tb_start
          exact hQ1 _ _ ⟨⟨by o_shape, by o_shape, by o_shape, by o_shape, by o_shape, by o_shape, by o_shape⟩, by o_shape, S6.setLow w'⟩
        · intro ρ3 σ5 hI0
          refine e0a3 hI0 fun p p8 S7 => ?_
          clear hI0
          have pp := p
          refine e0a7 p fun p1 p2 p3 p4 p5 p6 p7 => ?_
          clear p
          refine e1a1 S7.v2 fun w2 v2 => ?_
          have v3 := S7.v3
          have x7 := S7.ext
          have sl : s.length ≤ 10 := Nat.le_trans (nodup_le sn fun y hy => (hm y).mpr (.inl hy)) hLn
          tb_start
          repeat (tb_rel; tb_start)
          refine ho_in_dict v2 (fun hxl => ?_) (fun hxl => ?_)
          · have hxk := (hL x (hlL x hxl)).1
            refine GraphAt.elim H fun m nn e1 e2 e3 e4 i1 i2 i3 i4 i5 i6 i7 i8 i9 i10 i11 i12 i13 i14 i15 d1 d2 d3 d4 d5 f1 f2 f3 f4 f5 f6 f7 f8 f9 f10 f11 f12 f13 f14 => ?_
            refine GraphAt.rowE H hxk fun ep r1 r2 r3 r4 r5 r6 r7 r8 => ?_
            have fr2 : Fr σ lf := ⟨S7.n2⟩
            have fr3 : Fr σ st := ⟨S7.n3⟩
            have h23 := S7.sep.2.2.2.1
            have ll := filter_ne_len ln hxl
            have lw : l.length ≤ 100 := by o_readsAll
            tb_start
            repeat (tb_rel; tb_start)
            refine ho_dpop v2 (by w_left) (dk_at hxl) (fun e5 => ?_)
            rw [dk_without]
            tb_start
            repeat (tb_rel; tb_start)
            have S8 : Stk σ (upd (upd σ5 lf (.dict (ds (l.filter fun j => decide (j ≠ x))) e5)) st (.list (List.map vi s ++ [vi x]))) dg lf st lo L deg (l.filter fun j => decide (j ≠ x)) (s ++ [x]) w' := by
              have := (S7.setLeft (l.filter fun j => decide (j ≠ x)) e5).setStk (s ++ [x])
              rwa [List.map_append] at this
            have row8 : ∀ τ, Ext σ τ → τ (A.nb x) = some (.dict (ds (G.near x)) ep) := fun τ h => h.at r1
            have x8 := S8.ext
            generalize hl' : (l.filter fun j => decide (j ≠ x)) = l' at *
            have hl'm : ∀ r, r ∈ l' ↔ r ∈ l ∧ r ≠ x := fun r => by rw [← hl', List.mem_filter, decide_eq_true_eq]
            have hl'l : ∀ r ∈ l', r ∈ l := fun r h => ((hl'm r).mp h).1
            have wl' : w'.length ≤ 200 := by rcases hx with h | h; o_readsAll; rw [h.1]; exact Nat.zero_le _
            have dl : ∀ {a b : List Int}, G.near x = a ++ b → a.length ≤ 10 := fun h => by rw [h, List.length_append] at r8; o_readsAll
            have hcl : ∀ r ∈ l', cnt G l' r = cnt G l r - (if r ∈ G.near x then 1 else 0) := fun r hr => by
              have hrk := (hL r (hlL r ((hl'm r).mp hr).1)).1
              rw [← hl', cnt_less (H.ok.nd r hrk) hxl]
              congr 1
              by_cases q : x ∈ G.near r
              · rw [if_pos q, if_pos (N.sym r hrk x q)]
              · rw [if_neg q, if_neg fun q' => q (N.sym x hxk r q')]
            refine ho_for (seq_dict (row8 _ x8)) (by w_left) ?_
            generalize upd (upd σ5 lf _) st _ = σ6 at *
            refine for_ind (fun xs ρ τ => ∃ done rest w2 deg2, xs = List.map vi rest ∧ G.near x = done ++ rest ∧ RS A PP fz dg lf st lo ρ ∧ w2.length ≤ w'.length + done.length ∧ Stk σ τ dg lf st lo L deg2 l' (s ++ [x]) w2 ∧ ∀ r ∈ l', deg2 r = cnt G l r - (if r ∈ done then 1 else 0)) ?_ ?_ ?_
              ⟨[], G.near x, w', deg, rfl, rfl, pp, by simp, S8, fun r hr => by rw [hc r ((hl'm r).mp hr).1, if_neg (by simp), Int.sub_zero]⟩
            · intro xs ρ τ hI0
              refine e4a6 hI0 fun done rest w2 deg2 _ _ _ _ S9 _ => ?_
              clear hI0
              exact stay_dict (row8 _ x8) (row8 _ S9.ext)
            · intro ρ τ hI0
              refine e4a6 hI0 fun done rest w2 deg2 q1 hk p hw2 S9 hd2 => ?_
              clear hI0
              cases List.map_eq_nil_iff.mp q1.symm
              rw [List.append_nil] at hk
              subst hk
              refine kn (w2.length + 11 * l'.length) _ _ ?_ ⟨p, deg2, l', s ++ [x], w2, Nat.le_refl _, ?_, S9, ?_, ?_, ?_, ?_, ?_⟩
              · rcases hx with h | h
                · o_readsAll
                · rw [h.1, List.length_nil] at hw2; o_readsAll
              · rcases hx with h | h
                · o_readsAll
                · rw [h.1, List.length_nil] at hw2; o_readsAll
              · rw [← hl']; exact ln.filter _
              · rw [List.nodup_append]
                exact ⟨sn, by simp, fun a ha b hb => by rw [List.mem_singleton.mp hb]; exact fun e => hds a ha (e ▸ hxl)⟩
              · intro r
                rw [hm, List.mem_append, List.mem_singleton, hl'm]
                by_cases q : r = x
                · subst q; simp [hxl]
                · simp [q]
              · intro r hr hr'
                rw [hl'm] at hr'
                rcases List.mem_append.mp hr with q | q
                · exact hds r q hr'.1
                · exact hr'.2 (List.mem_singleton.mp q)
              · intro r hr
                rw [hd2 r hr, hcl r hr]
            · intro y xs ρ τ hI0 K2 kn2 _ _ _
              refine e4a6 hI0 fun done rest w2 deg2 q1 hk p hw2 S9 hd2 => ?_
              clear hI0
              refine e2a3 (map_cons q1) fun y rest hR39_2 hR39_3 hR39_4 => ?_
              obtain rfl := hR39_2
              obtain rfl := hR39_3
              obtain rfl := hR39_4
              have hyx : y ∈ G.near x := by rw [hk]; simp
              have hyk := H.ok.sub x hxk y hyx
              have hyd : y ∉ done := fun h => by
                have := H.ok.nd x hxk
                rw [hk] at this
                exact (List.nodup_append.mp this).2.2 y h y (List.mem_cons_self ..) rfl
              have pp := p
              refine e0a7 p fun p1 p2 p3 p4 p5 p6 p7 => ?_
              clear p
              refine e1a1 S9.v1 fun y1 t1 => ?_
              refine e1a1 S9.v2 fun y2 t2 => ?_
              have t4 := S9.v4
              have x9 := S9.ext
              have fr1 : Fr σ dg := ⟨S9.n1⟩
              refine e2a4 H2.att fun m2 n2 j1 j2 j3 j4 => ?_
              have j5 := H2.inst
              have back : ∀ (ρ' : Rho) (τ' : Hp) w3 deg3, RS A PP fz dg lf st lo ρ' → w3.length ≤ w2.length + 1 → Stk σ τ' dg lf st lo L deg3 l' (s ++ [x]) w3 → (∀ r ∈ l', deg3 r = deg2 r - (if r = y then 1 else 0)) → K2 .next ρ' τ' := fun ρ' τ' w3 deg3 a b c d =>
                kn2 _ _ ⟨done ++ [y], rest, w3, deg3, rfl, by rw [hk]; simp, a, by rw [List.length_append, List.length_singleton]; o_readsAll, c, fun r hr => by
                  rw [d r hr, hd2 r hr]
                  by_cases q : r = y
                  · subst q
                    rw [if_neg hyd, if_pos rfl, if_pos (by simp)]; o_readsAll
                  · rw [if_neg q]
                    by_cases q' : r ∈ done
                    · rw [if_pos q', if_pos (List.mem_append_left _ q')]; o_readsAll
                    · rw [if_neg q', if_neg (by simp [q, q'])]; o_readsAll⟩
              clear kn kc kn2 hn hm hds hc hl'm hcl hdeg
              tb_start
              repeat (tb_rel; tb_start)
              refine ho_in_dict t2 (fun hyl => ?_) (fun hyl => ?_)
              · have hyL : y ∈ L := hlL y (hl'l y hyl)
                have q1 : stored (dk L fun r => vi (deg2 r)) y (vi (deg2 y - 1)) = dk L fun j => vi (if j = y then deg2 y - 1 else deg2 j) := dk_old_vi hyL
                have dfin : ∀ r ∈ l', (if r = y then deg2 y - 1 else deg2 r) = deg2 r - (if r = y then 1 else 0) := fun r _ => by
                  by_cases q : r = y
                  · rw [if_pos q, if_pos q, q]
                  · rw [if_neg q, if_neg q, Int.sub_zero]
                tb_start
                repeat (tb_rel; tb_start)
                rw [q1]
                rename_i a5
                have S10 := S9.setDeg L (fun j => if j = y then deg2 y - 1 else deg2 j) a5
                generalize upd τ dg (.dict (dk L fun j => vi (if j = y then deg2 y - 1 else deg2 j)) a5) = τ2 at S10 ⊢
                have H10 := H.ext S10.ext
                have P10 := H2.ext S10.ext
                have t5 := S10.v4
                refine Sp.mono (of_spec B hK H10 P10) fun v τ' h => ?_
                refine e1a3 h fun b hR44_1 hb hR44_3 => ?_
                clear h
                obtain rfl := hR44_1
                obtain rfl := hR44_3
                have rly := rl y
                have w2l : w2.length ≤ 300 := by have := dl hk; o_readsAll
                tb_start
                repeat (tb_rel; tb_start)
                refine on_bool (fun _ => ?_) (fun _ => ?_)
                · tb_start
                  repeat (tb_rel; tb_start)
                  refine back _ _ (w2 ++ [y]) _ ⟨by o_shape, by o_shape, by o_shape, by o_shape, by o_shape, by o_shape, by o_shape⟩ (by simp) ?_ dfin
                  have := S10.setLow (w2 ++ [y])
                  rwa [List.map_append] at this
                · tb_start
                  exact back _ _ w2 _ ⟨by o_shape, by o_shape, by o_shape, by o_shape, by o_shape, by o_shape, by o_shape⟩ (by o_readsAll) S10 dfin
              · tb_start
                exact back _ _ w2 deg2 ⟨by o_shape, by o_shape, by o_shape, by o_shape, by o_shape, by o_shape, by o_shape⟩ (by o_readsAll) S9 (fun r hr => by rw [if_neg (fun q : r = y => hyl (q ▸ hr)), Int.sub_zero])
          · tb_start
            exact kc (w'.length + 11 * l.length) _ _ (by rcases hx with h | h; o_readsAll; exact absurd h.2 hxl) ⟨pp, deg, l, s, w', Nat.le_refl _, by rcases hx with h | h; o_readsAll; exact absurd h.2 hxl, S7, ln, sn, hm, hds, hc⟩
  · intro ρ2 σ3 hI0
    refine hideG fun PG kG => ?_
    obtain ⟨⟨p1, p2, p3, p4, p5, p6, p7⟩, deg, s, w, S3, sn, hs⟩ := hI0
    refine kG ?_
    clear kG PG
    tb_start
    repeat (tb_rel; tb_start)
    exact ⟨st, s, rfl, S3.v3, S3.ext, sn, fun x => by rw [← hs]; exact ⟨hL x, fun h => hLm x h.1 h.2⟩⟩
end
/-! the makers of pools and spills -/
structure SpA where
  s : Addr
  D : Addr
  Fz : Addr
  Fx : Addr
  Ft : Addr
structure SpillsAt (σ : Hp) (A : SpA) (xk : List Int) (xf : Int → Int) (tk : List Int) (tf : Int → Int) (many : Int) : Prop where
  inst : σ A.s = some (.inst 121 A.D)
  att : ∃ m n, σ A.D = some (.att m n) ∧ n ≤ 50 ∧ m "frozen" = some (.ref A.Fz) ∧ m "fixed" = some (.ref A.Fx) ∧ m "fetched" = some (.ref A.Ft) ∧ m "many" = some (vi many)
  fz : ∃ e, σ A.Fz = some (.dict (ds []) e)
  fx : ∃ e, σ A.Fx = some (.dict (dk xk fun k => vi (xf k)) e)
  ft : ∃ e, σ A.Ft = some (.dict (dk tk fun k => vi (tf k)) e)
  sep : A.Fz ≠ A.Fx ∧ A.Fz ≠ A.Ft ∧ A.Fx ≠ A.Ft
section
variable {C : Cx} (B : Bs C) (hK : KOk C.K) {k : Nat} {σ : Hp}
include B hK
theorem pools_new {t s : Addr} {tl sl : List Int} (H1 : σ t = some (.list (tl.map vi))) (H2 : σ s = some (.list (sl.map vi))) (l1 : tl.length ≤ 5) (l2 : sl.length ≤ 5) :
    Sp C (k + 2) (.ref 86) [.ref t, .ref s] σ fun v σ' => ∃ A, v = .ref A.p ∧ PoolsAt σ' A (tl ++ sl) sl ∧ Ext σ σ' := by
  refine call_cls' B (by rfl) fun x D hx hD hne => ?_
  refine fn_startL B (fn_76 hK) lk_76_dbg rfl rfl ?_
  intro PX
  have hsx : upd (upd σ D (.att (fun _ => none) 0)) x (.inst 86 D) x = some (.inst 86 D) := upd_self _ _ _
  have hsD : upd (upd σ D (.att (fun _ => none) 0)) x (.inst 86 D) D = some (.att (fun _ => none) 0) := by rw [upd_ne _ _ hne.symm, upd_self]
  have hext : Ext σ (upd (upd σ D (.att (fun _ => none) 0)) x (.inst 86 D)) := (Ext.new hD _).trans (Ext.new (by rw [upd_ne _ _ hne]; exact hx) _)
  generalize upd (upd σ D (.att (fun _ => none) 0)) x (.inst 86 D) = σ₀ at *
  have k1 := hext.at H1
  have k2 := hext.at H2
  have sD : s ≠ D := ne_kind k2 hsD nofun
  tb_start
  repeat (tb_rel; tb_start)
  refine fr_intro fun c1 h1 => ?_
  tb_start
  repeat (tb_rel; tb_start)
  refine fr_intro fun c2 h2 => ?_
  tb_start
  repeat (tb_rel; tb_start)
  refine fr_intro fun c3 h3 => ?_
  tb_start
  repeat (tb_rel; tb_start)
  refine fr_intro fun c4 h4 => ?_
  tb_start
  repeat (tb_rel; tb_start)
  refine ⟨⟨x, D, c3, c4⟩, rfl, ⟨by o_reads, ⟨_, _, by o_reads, rfl, rfl, rfl⟩, ?_, by o_reads, ?_, by o_readsAll⟩, ?_⟩
  · rw [List.map_append]; o_reads
  · rw [List.length_append]; o_readsAll
  · intro b y q
    have q0 := hext b y q
    have hbD : b ≠ D := ne_of q hD
    o_reads
theorem spills_new : Sp C (k + 2) (.ref 121) [] σ fun v σ' => ∃ A, v = .ref A.s ∧ SpillsAt σ' A [] (fun _ => 0) [] (fun _ => 0) 0 ∧ Ext σ σ' ∧ (∀ b, b = A.s ∨ b = A.D ∨ b = A.Fz ∨ b = A.Fx ∨ b = A.Ft → σ b = none) := by
  refine call_cls' B (by rfl) fun x D hx hD hne => ?_
  refine fn_startL B (fn_104 hK) lk_104_dbg rfl rfl ?_
  intro PX
  have hsx : upd (upd σ D (.att (fun _ => none) 0)) x (.inst 121 D) x = some (.inst 121 D) := upd_self _ _ _
  have hsD : upd (upd σ D (.att (fun _ => none) 0)) x (.inst 121 D) D = some (.att (fun _ => none) 0) := by rw [upd_ne _ _ hne.symm, upd_self]
  have hext : Ext σ (upd (upd σ D (.att (fun _ => none) 0)) x (.inst 121 D)) := (Ext.new hD _).trans (Ext.new (by rw [upd_ne _ _ hne]; exact hx) _)
  generalize upd (upd σ D (.att (fun _ => none) 0)) x (.inst 121 D) = σ₀ at *
  tb_start
  repeat (tb_rel; tb_start)
  refine fr_intro2 fun N ep hN => ?_
  tb_start
  repeat (tb_rel; tb_start)
  refine fr_intro2 fun X ep hX => ?_
  tb_start
  repeat (tb_rel; tb_start)
  refine fr_intro2 fun Cs ep hCs => ?_
  tb_start
  repeat (tb_rel; tb_start)
  have fN := hext.fr hN
  have fX : σ X = none := hext.fr hX.down.down
  have fCs : σ Cs = none := hext.fr hCs.down.down.down.down
  refine ⟨⟨x, D, N, X, Cs⟩, rfl, ⟨by o_reads, ⟨_, _, by o_reads, Nat.le_of_ble_eq_true rfl, rfl, rfl, rfl, rfl⟩, ⟨_, by show _ = some (MO.dict [] _); o_reads⟩, ⟨_, by show _ = some (MO.dict [] _); o_reads⟩, ⟨_, by show _ = some (MO.dict [] _); o_reads⟩, ⟨?_, ?_, ?_⟩⟩, ?_, ?_⟩
  · o_fieldsN
  · o_fieldsN
  · o_fieldsN
  · intro b y q
    have q0 := hext b y q
    have hbD : b ≠ D := ne_of q hD
    o_reads
  · rintro b (rfl | rfl | rfl | rfl | rfl) <;> assumption
/-- an Allocation, new -/
theorem alloc_new : Sp C (k + 2) (.ref 58) [] σ fun v σ' => ∃ x D P I T S m n, v = .ref x ∧ σ' x = some (.inst 58 D) ∧ σ' D = some (.att m n) ∧ n ≤ 50 ∧ (m "place" = some (.ref P) ∧ m "incoming" = some (.ref I) ∧ m "fetched" = some (.ref T) ∧ m "saved_used" = some (.ref S) ∧ m "spills" = some (vi 0)) ∧
    (∃ e, σ' P = some (.dict [] e)) ∧ (∃ e, σ' I = some (.dict [] e)) ∧ P ≠ I ∧ Ext σ σ' ∧ σ x = none ∧ σ D = none ∧ σ P = none ∧ σ I = none := by
  refine call_cls' B (by rfl) fun x D hx hD hne => ?_
  refine fn_startL B (fn_55 hK) lk_55_dbg rfl rfl ?_
  intro PX
  have hsx : upd (upd σ D (.att (fun _ => none) 0)) x (.inst 58 D) x = some (.inst 58 D) := upd_self _ _ _
  have hsD : upd (upd σ D (.att (fun _ => none) 0)) x (.inst 58 D) D = some (.att (fun _ => none) 0) := by rw [upd_ne _ _ hne.symm, upd_self]
  have hext : Ext σ (upd (upd σ D (.att (fun _ => none) 0)) x (.inst 58 D)) := (Ext.new hD _).trans (Ext.new (by rw [upd_ne _ _ hne]; exact hx) _)
  generalize upd (upd σ D (.att (fun _ => none) 0)) x (.inst 58 D) = σ₀ at *
  tb_start
  repeat (tb_rel; tb_start)
  refine fr_intro2 fun N ep hN => ?_
  tb_start
  repeat (tb_rel; tb_start)
  refine fr_intro2 fun X ep hX => ?_
  tb_start
  repeat (tb_rel; tb_start)
  refine fr_intro2 fun Cs ep hCs => ?_
  tb_start
  repeat (tb_rel; tb_start)
  refine fr_intro fun Su hSu => ?_
  tb_start
  repeat (tb_rel; tb_start)
  have fN := hext.fr hN
  have fX : σ X = none := hext.fr hX.down.down
  refine ⟨x, D, N, X, Cs, Su, _, _, rfl, by o_reads, by o_reads, Nat.le_of_ble_eq_true rfl, ⟨rfl, rfl, rfl, rfl, rfl⟩, ⟨_, by o_reads⟩, ⟨_, by o_reads⟩, by o_fieldsN, ?_, hx, hD, fN, fX⟩
  intro b y q
  have q0 := hext b y q
  have hbD : b ≠ D := ne_of q hD
  o_reads
end
/-! what merging keeps -/
structure Cov (G : Gr) (ld : Int → Int) (E : Int → Int → Prop) (X : Int → Prop) : Prop where
  led : Led G ld
  nice : Nice G
  edge : ∀ a ∈ G.keys, ∀ b ∈ G.keys, E a b → ld b ∈ G.near (ld a)
  crs : ∀ a ∈ G.keys, X a → ld a ∈ G.cross
theorem Led.fix {G : Gr} {ld : Int → Int} (L : Led G ld) {x : Int} (h : x ∈ G.keys) : G.ali (ld x) = ld x := let ⟨_, c⟩ := L.ch x h; c.end_
noncomputable def mld (ld : Int → Int) (one other x : Int) : Int := if ld x = other then one else ld x
theorem Chain.merge {al : Int → Int} {n : Nat} {x l one other : Int} (h : Chain al n x l) (h1 : al one = one) (h2 : al other = other) (hne : one ≠ other) : ∃ m, Chain (fun k => if k = other then one else al k) m x (if l = other then one else l) := by
  have b1 : Chain (fun k => if k = other then one else al k) 0 one one := .base (by rw [if_neg hne]; exact h1)
  induction h with
  | @base l hl =>
    by_cases e : l = other
    · subst e
      rw [if_pos rfl]
      exact ⟨1, .step (by rw [if_pos rfl]; exact hne) (by rw [if_pos rfl]; exact b1)⟩
    · rw [if_neg e]
      exact ⟨0, .base (by rw [if_neg e]; exact hl)⟩
  | @step n x l hx c ih =>
    refine e1a1 ih fun m ih => ?_
    have e : x ≠ other := fun e => hx (e ▸ h2)
    exact ⟨m + 1, .step (by rw [if_neg e]; exact hx) (by rw [if_neg e]; exact ih)⟩
section
variable {G : Gr} {one other : Int}
theorem near_other : (mergeG G one other).near other = [] := by show (if other = other then _ else _) = _; rw [if_pos rfl]
theorem mem_one (hne : one ≠ other) {j : Int} : j ∈ (mergeG G one other).near one ↔ j ∈ G.near one ∨ j ∈ G.near other := by
  show j ∈ (if one = other then [] else mergeN G one other (G.near other) one) ↔ _
  rw [if_neg hne]
  unfold mergeN
  rw [if_pos rfl, mem_fold_addK]
theorem mem_beside {k : Int} (h1 : k ≠ other) (h2 : k ≠ one) (h3 : k ∈ G.near other) {j : Int} : j ∈ (mergeG G one other).near k ↔ (j ∈ G.near k ∧ j ≠ other) ∨ j = one := by
  show j ∈ (if k = other then [] else mergeN G one other (G.near other) k) ↔ _
  rw [if_neg h1]
  unfold mergeN
  rw [if_neg h2, if_pos h3, mem_addK, List.mem_filter, decide_eq_true_eq]
theorem mem_far {k : Int} (h1 : k ≠ other) (h2 : k ≠ one) (h3 : k ∉ G.near other) {j : Int} : j ∈ (mergeG G one other).near k ↔ j ∈ G.near k := by
  show j ∈ (if k = other then [] else mergeN G one other (G.near other) k) ↔ _
  rw [if_neg h1]
  unfold mergeN
  rw [if_neg h2, if_neg h3]
theorem near_into (hne : one ≠ other) {k j : Int} (h1 : k ≠ other) (hj : j ∈ G.near k) (hjo : j ≠ other) : j ∈ (mergeG G one other).near k := by
  by_cases h2 : k = one
  · subst h2; exact (mem_one hne).mpr (.inl hj)
  · by_cases h3 : k ∈ G.near other
    · exact (mem_beside h1 h2 h3).mpr (.inl ⟨hj, hjo⟩)
    · exact (mem_far h1 h2 h3).mpr hj
theorem Nice.merge (N : Nice G) (O : GrOk G) (h1 : one ∈ G.keys) (h2 : other ∈ G.keys) (hne : one ≠ other) (hno : other ∉ G.near one) (a1 : G.ali one = one) : Nice (mergeG G one other) := by
  have hon : one ∉ G.near other := fun h => hno (N.sym other h2 one h)
  have key : ∀ a ∈ G.keys, ∀ b ∈ (mergeG G one other).near a, a ≠ other ∧ b ≠ other ∧ (b ∈ G.near a ∨ a = one ∧ b ∈ G.near other ∨ a ∈ G.near other ∧ b = one) := by
    intro a ha b hb
    have ao : a ≠ other := fun e => by rw [e, near_other] at hb; cases hb
    by_cases e1 : a = one
    · subst e1
      rcases (mem_one hne).mp hb with h | h
      · exact ⟨ao, fun e => hno (e ▸ h), .inl h⟩
      · exact ⟨ao, fun e => N.irr other h2 (e ▸ h), .inr (.inl ⟨rfl, h⟩)⟩
    · by_cases e2 : a ∈ G.near other
      · rcases (mem_beside ao e1 e2).mp hb with h | h
        · exact ⟨ao, h.2, .inl h.1⟩
        · exact ⟨ao, h ▸ hne, .inr (.inr ⟨e2, h⟩)⟩
      · have h := (mem_far ao e1 e2).mp hb
        exact ⟨ao, fun e => e2 (N.sym a ha other (e ▸ h)), .inl h⟩
  refine ⟨fun a ha b hb => ?_, fun a ha h => ?_, fun a ha h => ?_⟩
  · refine e0a3 (key a ha b hb) fun ao bo h => ?_
    rcases h with h | ⟨rfl, h⟩ | ⟨h, rfl⟩
    · exact near_into hne bo (N.sym a ha b h) ao
    · exact (mem_beside bo (fun e => hon (by rw [← e]; exact h)) h).mpr (.inr rfl)
    · exact (mem_one hne).mpr (.inr h)
  · refine e0a3 (key a ha a h) fun _ _ q => ?_
    rcases q with q | ⟨rfl, q⟩ | ⟨q, rfl⟩
    · exact N.irr a ha q
    · exact hon q
    · exact hon q
  · have ao : a ≠ other := fun e => h (by rw [e, near_other])
    show (if a = other then one else G.ali a) = a
    rw [if_neg ao]
    by_cases e1 : a = one
    · rw [e1]; exact a1
    · by_cases e2 : a ∈ G.near other
      · exact N.led a ha (List.ne_nil_of_mem (N.sym other h2 a e2))
      · refine e1a1 (List.exists_mem_of_ne_nil _ h) fun b hb => ?_
        exact N.led a ha (List.ne_nil_of_mem ((mem_far ao e1 e2).mp hb))
theorem Cov.merge {ld : Int → Int} {E : Int → Int → Prop} {X : Int → Prop} (V : Cov G ld E X) (O : GrOk G) (h1 : one ∈ G.keys) (h2 : other ∈ G.keys) (hne : one ≠ other) (hno : other ∉ G.near one) (a1 : G.ali one = one) (a2 : G.ali other = other) :
    Cov (mergeG G one other) (mld ld one other) E X := by
  have N := V.nice
  refine ⟨⟨fun x hx => ?_, fun x hx => ?_⟩, N.merge O h1 h2 hne hno a1, fun a ha b hb hE => ?_, fun a ha hX => ?_⟩
  · show mld ld one other x ∈ G.keys
    unfold mld; split
    · exact h1
    · exact V.led.key x hx
  · refine e1a1 (V.led.ch x hx) fun n c => ?_
    exact c.merge a1 a2 hne
  · have q := V.edge a ha b hb hE
    have pk := V.led.key a ha
    have q' := N.sym _ pk _ q
    unfold mld
    by_cases e1 : ld a = other
    · rw [if_pos e1]
      rw [e1] at q
      rw [if_neg (show ld b ≠ other from fun e => N.irr other h2 (by rw [e] at q; exact q))]
      exact (mem_one hne).mpr (.inr q)
    · rw [if_neg e1]
      by_cases e2 : ld b = other
      · rw [if_pos e2]
        rw [e2] at q q'
        exact (mem_beside e1 (show ld a ≠ one from fun e => hno (by rw [← e]; exact q)) q').mpr (.inr rfl)
      · rw [if_neg e2]
        exact near_into hne e1 q e2
  · have q := V.crs a ha hX
    show mld ld one other a ∈ (if other ∈ G.cross then addK G.cross one else G.cross)
    unfold mld
    by_cases e1 : ld a = other
    · rw [if_pos e1]
      rw [e1] at q
      rw [if_pos q]
      exact mem_addK.mpr (.inr rfl)
    · rw [if_neg e1]
      split
      · exact mem_addK.mpr (.inl q)
      · exact q
noncomputable def leadN (G : Gr) : Nat := (G.keys.filter fun x => G.ali x == x).length
theorem leadN_merge (O : GrOk G) (h2 : other ∈ G.keys) (hne : one ≠ other) (a2 : G.ali other = other) : leadN (mergeG G one other) + 1 = leadN G := by
  have e : ((mergeG G one other).keys.filter fun x => (mergeG G one other).ali x == x) = (G.keys.filter fun x => G.ali x == x).filter fun j => decide (j ≠ other) := by
    rw [List.filter_filter]
    refine List.filter_congr fun x _ => ?_
    show ((if x = other then one else G.ali x) == x) = _
    by_cases e : x = other
    · subst e; rw [if_pos rfl]; simp [hne]
    · rw [if_neg e]; simp [e]
  unfold leadN
  rw [e]
  exact filter_ne_len (O.nodup.filter _) (List.mem_filter.mpr ⟨h2, by simpa using a2⟩)
end
/-- what copies a graph bears -/
noncomputable def CpsOk (σ₀ : Hp) (ks : List Int) (cps : List Value) : Prop := cps.length ≤ 3 ∧ ∀ v ∈ cps, ∃ b wt x y, v = .ref b ∧ σ₀ b = some (.tup [vi wt, vi x, vi y]) ∧ x ∈ ks ∧ y ∈ ks
theorem CpsOk.ext {σ₀ σ : Hp} {ks : List Int} {cps : List Value} (H : CpsOk σ₀ ks cps) (e : Ext σ₀ σ) : CpsOk σ ks cps := ⟨H.1, fun v hv => let ⟨b, wt, x, y, q1, q2, q3⟩ := H.2 v hv; ⟨b, wt, x, y, q1, e.at q2, q3⟩⟩
theorem Ext.upd {σ τ : Hp} (e : Ext σ τ) (c : Addr) (x : MO) : Ext (Mine.upd σ c x) (Mine.upd τ c x) := fun b y q => by
  by_cases h : b = c
  · subst h; rw [upd_self] at q ⊢; exact q
  · rw [upd_ne _ _ h] at q ⊢; exact e b y q
theorem GraphAt.foot {σ : Hp} {A : GA} {G : Gr} {cps : List Value} (H : GraphAt σ A G cps) {b : Addr} (h : Foot A G.keys b) : ∃ x, σ b = some x := by
  refine e1a1 H.near fun e1 h3 => ?_
  refine e1a1 H.cross fun e2 h4 => ?_
  refine e1a1 H.cost fun e3 h5 => ?_
  refine e1a1 H.ali fun e4 h6 => ?_
  rcases h with rfl | rfl | rfl | rfl | ⟨k, hk, rfl⟩
  · exact ⟨_, h3⟩
  · exact ⟨_, h4⟩
  · exact ⟨_, h5⟩
  · exact ⟨_, h6⟩
  · refine e1a1 (H.nbs k hk) fun ep h => ?_
    exact ⟨_, h⟩
theorem GIn.fresh {σ₀ σ : Hp} {A : GA} {G : Gr} {cps : List Value} (H : GIn σ₀ σ A G cps) {c : Addr} (hc : Fr σ c) (x : MO) : GIn (upd σ₀ c x) (upd σ c x) A G cps :=
  ⟨H.at_.ext (Ext.newF hc x), H.ext.upd c x, fun b hb => by
    refine e1a1 (H.at_.foot hb) fun y hy => ?_
    rw [upd_ne _ _ (ne_of' hc hy)]; exact H.new b hb⟩
noncomputable def RC (A : GA) (PP : PA) (fz c : Addr) (ρ : Rho) : Prop := ρ "graph" = some (.ref A.g) ∧ ρ "pools" = some (.ref PP.p) ∧ ρ "frozen" = some (.ref fz) ∧ ρ "waiting" = some (.ref c)
section
variable {C : Cx} (B : Bs C) (hK : KOk C.K) {k : Nat} {σ₀ σ : Hp} {A : GA} {G : Gr} {cps : List Value} {PP : PA} {al kp : List Int} {fz : Addr} {fe : Nat} {ld : Int → Int} {E : Int → Int → Prop} {X : Int → Prop}
include B hK
theorem coalesce_spec (H : GIn σ₀ σ A G cps) (V : Cov G ld E X) (H2 : PoolsAt σ₀ PP al kp) (hfz : σ₀ fz = some (.dict (ds []) fe)) (hc0 : CpsOk σ₀ G.keys cps) :
    Sp C (k + 3) (.ref 205) [.ref A.g, .ref PP.p, .ref fz] σ fun v σ' => v = .none ∧ ∃ A' G' ld', A'.g = A.g ∧ GIn σ₀ σ' A' G' cps ∧ G'.keys = G.keys ∧ Cov G' ld' E X := by
  refine fn_startL B (fn_205 hK) lk_205_dbg rfl rfl ?_
  intro PX
  refine exs_cut 1 (fun ρ σ' => ∃ c ys, RC A PP fz c ρ ∧ List.Perm ys cps ∧ GIn (upd σ₀ c (.list ys)) σ' A G cps ∧ Ext σ₀ (upd σ₀ c (.list ys))) (fun K hQ => ?_) ?_
  · refine GraphAt.elim H.at_ fun m nn e1 e2 e3 e4 i1 i2 i3 i4 i5 i6 i7 i8 i9 i10 i11 i12 i13 i14 i15 d1 d2 d3 d4 d5 f1 f2 f3 f4 f5 f6 f7 f8 f9 f10 f11 f12 f13 f14 => ?_
    tb_start
    repeat (tb_rel; tb_start)
    refine ho_sortedT d5 hc0.1 (fun v hv => ?_) (fun ys hys => fr_intro fun c hc => ?_)
    · refine e4a3 (hc0.2 v hv) fun b wt x y q1 q2 _ => ?_
      exact ⟨b, wt, [x, y], q1, H.ext.at q2⟩
    · tb_start
      exact hQ _ _ ⟨c, ys, ⟨rfl, rfl, rfl, rfl⟩, hys, H.fresh hc _, Ext.new (H.ext.fr hc) _⟩
  intro ρ0 σ1 hI0
  refine e2a4 hI0 fun c ys p hys H1 x0 => ?_
  clear hI0
  have H2 := H2.ext x0
  have hfz := x0.at hfz
  have hc0 := hc0.ext x0
  have hcc : upd σ₀ c (.list ys) c = some (.list ys) := upd_self _ _ _
  have hyl : ys.length ≤ 3 := by rw [hys.length_eq]; exact hc0.1
  have back : ∀ {σ' A' G'}, GIn (upd σ₀ c (.list ys)) σ' A' G' cps → GIn σ₀ σ' A' G' cps := fun h => ⟨h.at_, x0.trans h.ext, fun b hb => x0.none (h.new b hb)⟩
  generalize upd σ₀ c (.list ys) = τ₀ at *
  have hch : (∃ A' G' ld', A'.g = A.g ∧ GIn τ₀ σ1 A' G' cps ∧ G'.keys = G.keys ∧ Cov G' ld' E X) := ⟨A, G, ld, rfl, H1, rfl, V⟩
  clear H1
  refine exs_cut 1 (fun ρ σ' => RC A PP fz c ρ ∧ σ' = σ1 ∧ ρ "changed" = some (.bool true)) (fun K hQ => ?_) ?_
  · refine e0a4 p fun p1 p2 p3 p4 => ?_
    clear p
    tb_start
    exact hQ _ _ ⟨⟨by o_shape, by o_shape, by o_shape, by o_shape⟩, rfl, by o_shape⟩
  intro ρ1 σ2 hI0
  refine e0a3 hI0 fun p hR4_1 pch => ?_
  clear hI0
  obtain rfl := hR4_1
  refine e3a4 hch fun A1 G1 ld1 a1 H1 k1 V1 => ?_
  clear hch
  tb_start
  refine while_ind (fun n ρ σ' => RC A PP fz c ρ ∧ ∃ A' G' ld' ch, A'.g = A.g ∧ GIn τ₀ σ' A' G' cps ∧ G'.keys = G.keys ∧ Cov G' ld' E X ∧ ρ "changed" = some (.bool ch) ∧ n = 2 * leadN G' + (if ch = true then 1 else 0)) ?_ ⟨p, A1, G1, ld1, true, a1, H1, k1, V1, pch, rfl⟩
  intro n ρ σ' hI0 K kn kc _ _ R hR
  refine hideG fun PG kG => ?_
  obtain ⟨p, A2, G2, ld2, ch, a2, H3, k2, V2, pch, hn⟩ := hI0
  refine kG ?_
  clear kG PG
  refine e0a4 p fun p1 p2 p3 p4 => ?_
  clear p
  tb_start
  repeat (tb_rel; tb_start)
  cases ch with
  | false =>
    tb_start
    refine hR _ _ ?_
    tb_start
    exact ⟨rfl, A2, G2, ld2, a2, back H3, k2, V2⟩
  | true =>
    tb_start
    repeat (tb_rel; tb_start)
    refine ho_for (seq_list (H3.ext.at hcc)) (by o_readsAll) ?_
    refine for_ind (fun xs ρ σ'' => (∀ v ∈ xs, v ∈ ys) ∧ RC A PP fz c ρ ∧ ∃ A' G' ld' ch, A'.g = A.g ∧ GIn τ₀ σ'' A' G' cps ∧ G'.keys = G.keys ∧ Cov G' ld' E X ∧ ρ "changed" = some (.bool ch) ∧ leadN G' ≤ leadN G2 ∧ (ch = true → leadN G' < leadN G2)) ?_ ?_ ?_
      ⟨fun _ h => h, ⟨by o_shape, by o_shape, by o_shape, by o_shape⟩, A2, G2, ld2, false, a2, H3, k2, V2, by o_shape, Nat.le_refl _, nofun⟩
    · intro xs ρ τ hI0
      refine hideG fun PG kG => ?_
      obtain ⟨_, _, A', G', ld', ch, _, h, _⟩ := hI0
      refine kG ?_
      clear kG PG
      exact stay_list (H3.ext.at hcc) (h.ext.at hcc)
    · intro ρ τ hI0
      refine hideG fun PG kG => ?_
      obtain ⟨_, p, A', G', ld', ch, b1, b2, b3, b4, b5, b6, b7⟩ := hI0
      refine kG ?_
      clear kG PG
      refine kn (2 * leadN G' + (if ch = true then 1 else 0)) _ _ ?_ ⟨p, A', G', ld', ch, b1, b2, b3, b4, b5, rfl⟩
      rw [hn, if_pos rfl]
      cases ch
      · rw [if_neg (by decide)]; o_readsAll
      · have := b7 rfl; rw [if_pos rfl]; o_readsAll
    · intro v xs ρ τ hI0 K2 kn2 kc2 _ _
      refine hideG fun PG kG => ?_
      obtain ⟨hxs, ⟨p1, p2, p3, p4⟩, A3, G3, ld3, ch, b1, b2, b3, b4, b5, b6, b7⟩ := hI0
      refine kG ?_
      clear kG PG
      have hv := hxs v (List.mem_cons_self ..)
      refine e4a4 (hc0.2 v (hys.mem_iff.mp hv)) fun b wt x y hR12_4 q2 q3 q4 => ?_
      obtain rfl := hR12_4
      rw [← b3] at q3 q4
      have hb := b2.ext.at q2
      refine e1a1 (b4.led.ch x q3) fun n1 c1 => ?_
      refine e1a1 (b4.led.ch y q4) fun n2 c2 => ?_
      have l1 := b4.led.key x q3
      have l2 := b4.led.key y q4
      have s1 := c1.end_
      have s2 := c2.end_
      have keepI : ∀ (ρ' : Rho) (τ' : Hp), Ext τ τ' → RC A PP fz c ρ' → ρ' "changed" = some (.bool ch) → K2 .cont ρ' τ' ∧ K2 .next ρ' τ' := fun ρ' τ' h1 h2 h3 =>
        ⟨kc2 _ _ ⟨fun v hv => hxs v (List.mem_cons_of_mem _ hv), h2, A3, G3, ld3, ch, b1, b2.more h1, b3, b4, h3, b6, b7⟩, kn2 _ _ ⟨fun v hv => hxs v (List.mem_cons_of_mem _ hv), h2, A3, G3, ld3, ch, b1, b2.more h1, b3, b4, h3, b6, b7⟩⟩
      have mergeI : ∀ (ρ' : Rho) (τ' : Hp) A4, A4.g = A3.g → ld3 x ≠ ld3 y → ld3 y ∉ G3.near (ld3 x) → GIn τ₀ τ' A4 (mergeG G3 (ld3 x) (ld3 y)) cps → RC A PP fz c ρ' → ρ' "changed" = some (.bool true) → K2 .next ρ' τ' := fun ρ' τ' A4 e1 e2 e3 e4 e5 e6 =>
        have := leadN_merge (one := ld3 x) b2.at_.ok l2 e2 s2
        kn2 _ _ ⟨fun v hv => hxs v (List.mem_cons_of_mem _ hv), e5, A4, _, _, true, e1.trans b1, e4, b3, b4.merge b2.at_.ok l1 l2 e2 e3 s1 s2, e6, by o_readsAll, fun _ => by o_readsAll⟩
      clear kn2 kc2 kn kc hxs
      rw [← b1] at p1
      tb_start
      repeat (tb_rel; tb_start)
      refine GraphAt.elim b2.at_ fun m nn e1 e2 e3 e4 i1 i2 i3 i4 i5 i6 i7 i8 i9 i10 i11 i12 i13 i14 i15 d1 d2 d3 d4 d5 f1 f2 f3 f4 f5 f6 f7 f8 f9 f10 f11 f12 f13 f14 => ?_
      tb_start
      repeat (tb_rel; tb_start)
      refine Sp.mono (leader_spec B hK b2.at_ q3 c1) fun v τ' h => ?_
      refine e0a2 h fun hR15_0 hR15_1 => ?_
      clear h
      obtain rfl := hR15_0
      obtain rfl := hR15_1
      tb_start
      repeat (tb_rel; tb_start)
      refine Sp.mono (leader_spec B hK b2.at_ q4 c2) fun v τ'' h => ?_
      refine e0a2 h fun hR16_0 hR16_1 => ?_
      clear h
      obtain rfl := hR16_0
      obtain rfl := hR16_1
      tb_start
      repeat (tb_rel; tb_start)
      refine fr_intro fun tp htp => ?_
      have xt := Ext.newF htp (.tup [vi (ld3 x), vi (ld3 y)])
      have b2' := b2.more xt
      tb_start
      repeat (tb_rel; tb_start)
      generalize upd τ'' tp (.tup [vi (ld3 x), vi (ld3 y)]) = τ3 at *
      by_cases hq : ld3 x = ld3 y
      · rw [show (ld3 x == ld3 y) = true by simp [hq]]
        tb_start
        exact (keepI _ _ xt ⟨by rw [b1] at p1; o_shape, by o_shape, by o_shape, by o_shape⟩ (by o_shape)).1
      · rw [show (ld3 x == ld3 y) = false by simp [hq]]
        refine GraphAt.rowE b2'.at_ l1 fun ep r1 r2 r3 r4 r5 r6 r7 r8 => ?_
        have hz := b2'.ext.at hfz
        clear m i2 i4 i5 i6 i7 i8 i9 i10 i11 i12 i13 i14 i15 d1
        refine GraphAt.elim b2'.at_ fun m nn e1 e2 e3 e4 i1 i2 i3 i4 i5 i6 i7 i8 i9 i10 i11 i12 i13 i14 i15 d1 d2 d3 d4 d5 f1 f2 f3 f4 f5 f6 f7 f8 f9 f10 f11 f12 f13 f14 => ?_
        tb_start
        repeat (tb_rel; tb_start)
        refine ho_in_dict r1 (fun hx => ?_) (fun hx => ?_)
        · tb_start
          exact (keepI _ _ xt ⟨by rw [b1] at p1; o_shape, by o_shape, by o_shape, by o_shape⟩ (by o_shape)).1
        · tb_start
          repeat (tb_rel; tb_start)
          refine ho_in_dict hz (fun h => by cases h) (fun _ => ?_)
          tb_start
          repeat (tb_rel; tb_start)
          refine ho_in_dict hz (fun h => by cases h) (fun _ => ?_)
          tb_start
          repeat (tb_rel; tb_start)
          refine Sp.mono (safe_spec B hK b2'.at_ (H2.ext b2'.ext) l1 l2) fun v τ4 h => ?_
          refine e0a2 h fun hN17_0 x4 => ?_
          clear h
          refine e1a1 hN17_0 fun bb hR18_1 => ?_
          clear hN17_0
          obtain rfl := hR18_1
          have b3' := b2'.more x4
          cases bb with
          | false =>
            tb_start
            exact (keepI _ _ (xt.trans x4) ⟨by rw [b1] at p1; o_shape, by o_shape, by o_shape, by o_shape⟩ (by o_shape)).2
          | true =>
            refine GraphAt.elim b3'.at_ fun m nn e1 e2 e3 e4 i1 i2 i3 i4 i5 i6 i7 i8 i9 i10 i11 i12 i13 i14 i15 _ _ _ _ _ _ _ _ _ _ _ _ _ _ _ _ _ _ _ => ?_
            tb_start
            repeat (tb_rel; tb_start)
            refine Sp.mono (merge_spec B hK b3' b4.nice l1 l2 hq hx) fun v τ5 h => ?_
            refine hideG fun PG kG => ?_
            obtain ⟨rfl, A4, g4, h4⟩ := h
            refine kG ?_
            clear kG PG
            tb_start
            repeat (tb_rel; tb_start)
            exact mergeI _ _ A4 g4 hq hx h4 ⟨by rw [b1] at p1; o_shape, by o_shape, by o_shape, by o_shape⟩ (by o_shape)
end
theorem ho_dgetE {σ : Hp} {Q : EQ} {a : Addr} {ep : Nat} {v u : Value} {kvs : List (Int × Value)} {k : Int} (h : σ a = some (.dict kvs ep)) (e : (valueAt kvs k).getD v = u) (q : Q u σ) : Hold (dgetP a k v σ Q) := ho_dget h (by rw [e]; exact q)
theorem dk_getD_mem {ks : List Int} {f : Int → Value} {k : Int} {v : Value} (h : k ∈ ks) : (valueAt (dk ks f) k).getD v = f k := by rw [dk_at h]; rfl
theorem dk_getD_not {ks : List Int} {f : Int → Value} {k : Int} {v : Value} (h : k ∉ ks) : (valueAt (dk ks f) k).getD v = v := by rw [dk_none h]; rfl
local macro_rules | `(tactic| tb_rel) => `(tactic| ((with_reducible apply ho_dgetE); o_reads; first | exact dk_getD_mem (by assumption) | exact dk_getD_not (by assumption)))
structure MatesAt (σ σ' : Hp) (c : Addr) (n : Nat) (ks : List Int) (lst : Int → Addr) : Prop where
  ext : Ext σ σ'
  new : σ c = none
  at_ : ∃ e, σ' c = some (.dict (dk ks fun k => .ref (lst k)) e)
  ls : ∀ k ∈ ks, ∃ l : List Int, σ' (lst k) = some (.list (l.map vi)) ∧ l.length ≤ n
  kn : ks.length ≤ n
theorem MatesAt.more {σ σ' τ : Hp} {c : Addr} {n : Nat} {ks : List Int} {lst : Int → Addr} (H : MatesAt σ σ' c n ks lst) (e : Ext σ' τ) : MatesAt σ τ c n ks lst :=
  ⟨H.ext.trans e, H.new, let ⟨x, h⟩ := H.at_; ⟨x, e.at h⟩, fun k hk => let ⟨l, h, h'⟩ := H.ls k hk; ⟨l, e.at h, h'⟩, H.kn⟩
theorem stored_ref (ks : List Int) (lst : Int → Addr) (one : Int) (a : Addr) : stored (dk ks fun k => .ref (lst k)) one (.ref a) = dk (addK ks one) fun k => .ref (if k = one then a else lst k) := by
  unfold addK
  have e : (fun j => if j = one then Value.ref a else .ref (lst j)) = fun j => .ref (if j = one then a else lst j) := by funext j; split <;> rfl
  by_cases h : one ∈ ks
  · rw [if_pos h, dk_old h, e]
  · rw [if_neg h, dk_new h, e]
theorem MatesAt.put {σ σ' : Hp} {c : Addr} {n : Nat} {ks : List Int} {lst : Int → Addr} (H : MatesAt σ σ' c n ks lst) {one : Int} {a : Addr} {l : List Int} (ha : σ' a = some (.list (l.map vi))) (hl : l.length ≤ n + 1) (e : Nat) :
    MatesAt σ (upd σ' c (.dict (stored (dk ks fun k => .ref (lst k)) one (.ref a)) e)) c (n + 1) (addK ks one) fun j => if j = one then a else lst j := by
  refine e1a1 H.at_ fun x hx => ?_
  refine ⟨H.ext.put H.new _, H.new, ⟨e, by rw [stored_ref]; exact upd_self _ _ _⟩, fun k hk => ?_, Nat.le_trans (len_addK _ _) (Nat.succ_le_succ H.kn)⟩
  by_cases q : k = one
  · rw [if_pos q]
    exact ⟨l, upd_some ha (ne_kind ha hx nofun), hl⟩
  · rw [if_neg q]
    refine e1a2 (H.ls k ((mem_addK.mp hk).resolve_right q)) fun l' h1 h2 => ?_
    exact ⟨l', upd_some h1 (ne_kind h1 hx nofun), by o_readsAll⟩
section
variable {C : Cx} (B : Bs C) (hK : KOk C.K) {k : Nat} {σ₀ σ : Hp} {A : GA} {G : Gr} {cps : List Value} {ld : Int → Int}
include B hK
theorem mates_spec (H : GraphAt σ A G cps) (L : Led G ld) (hc0 : CpsOk σ G.keys cps) :
    Sp C (k + 2) (.ref 233) [.ref A.g] σ fun v σ' => ∃ c n ks lst, v = .ref c ∧ MatesAt σ σ' c n ks lst ∧ n ≤ 10 := by
  refine fn_startL B (fn_233 hK) lk_233_dbg rfl rfl ?_
  intro PX
  refine GraphAt.elim H fun m nn e1 e2 e3 e4 i1 i2 i3 i4 i5 i6 i7 i8 i9 i10 i11 i12 i13 i14 i15 d1 d2 d3 d4 d5 f1 f2 f3 f4 f5 f6 f7 f8 f9 f10 f11 f12 f13 f14 => ?_
  tb_start
  repeat (tb_rel; tb_start)
  refine fr_intro2 fun c ec hc => ?_
  have M0 : MatesAt σ (upd σ c (.dict [] ec)) c 0 [] (fun _ => 0) := ⟨Ext.newF hc _, hc.out, ⟨ec, upd_self _ _ _⟩, nofun, Nat.le_refl _⟩
  generalize upd σ c (.dict [] ec) = σ1 at *
  have x1 := M0.ext
  have w5 := x1.at d5
  have w1 := x1.at i1
  have w2 := x1.at i2
  tb_start
  repeat (tb_rel; tb_start)
  refine ho_sortedT w5 hc0.1 (fun v hv => ?_) (fun ys hys => fr_intro fun c1 hc1 => ?_)
  · refine e4a3 (hc0.2 v hv) fun b wt x y q1 q2 _ => ?_
    exact ⟨b, wt, [x, y], q1, x1.at q2⟩
  have M1 := M0.more (Ext.newF hc1 (.list ys))
  have yl : ys.length ≤ 3 := by rw [hys.length_eq]; exact hc0.1
  have fc1 : Fr σ c1 := ⟨x1.fr hc1⟩
  have ncc : c1 ≠ c := by
    refine e1a1 M0.at_ fun e h => ?_
    exact (ne_of' hc1 h).symm
  have hcc : upd σ1 c1 (.list ys) c1 = some (.list ys) := upd_self _ _ _
  refine ho_for (seq_list hcc) (by o_readsAll) ?_
  generalize upd σ1 c1 (.list ys) = σ2 at *
  -- the list of rows is kept beside what stood
  have M2 : MatesAt (upd σ c1 (.list ys)) σ2 c 0 [] (fun _ => 0) := ⟨fun b y q => by
      by_cases h : b = c1
      · subst h; rw [upd_self] at q; cases q; exact hcc
      · rw [upd_ne _ _ h] at q; exact M1.ext b y q, by rw [upd_ne _ _ ncc.symm]; exact hc.out, M1.at_, nofun, Nat.le_refl _⟩
  have x2 : Ext σ (upd σ c1 (.list ys)) := Ext.newF fc1 _
  have hcc2 : upd σ c1 (.list ys) c1 = some (.list ys) := upd_self _ _ _
  have back : ∀ {τ n ks lst}, MatesAt (upd σ c1 (.list ys)) τ c n ks lst → MatesAt σ τ c n ks lst := fun h => ⟨x2.trans h.ext, hc.out, h.at_, h.ls, h.kn⟩
  have H' := H.ext x2
  have hc0 := hc0.ext x2
  generalize upd σ c1 (.list ys) = σ3 at *
  refine for_ind (fun xs ρ τ => (∃ done, ys = done ++ xs ∧ ∃ n ks lst, n ≤ 2 * done.length ∧ MatesAt σ3 τ c n ks lst) ∧ ρ "graph" = some (.ref A.g) ∧ ρ "found" = some (.ref c)) ?_ ?_ ?_ ⟨⟨[], rfl, 0, [], _, Nat.le_refl _, M2⟩, rfl, rfl⟩
  · intro xs ρ τ hI0
    refine e0a2 hI0 fun hN5_0 _ => ?_
    clear hI0
    obtain ⟨done, _, n, ks, lst, _, h⟩ := hN5_0
    exact stay_list hcc (h.ext.at hcc2)
  · intro ρ τ hI0
    refine e0a3 hI0 fun hN7_0 p1 p2 => ?_
    clear hI0
    obtain ⟨done, q, n, ks, lst, hn, h⟩ := hN7_0
    rw [List.append_nil] at q
    subst q
    tb_start
    repeat (tb_rel; tb_start)
    exact ⟨c, n, ks, lst, rfl, back h, by o_readsAll⟩
  · intro v xs ρ τ hI0 K kn kc _ _
    refine e0a3 hI0 fun hN9_0 p1 p2 => ?_
    clear hI0
    obtain ⟨done, q, n, ks, lst, hn, M3⟩ := hN9_0
    refine e4a4 (hc0.2 v (hys.mem_iff.mp (by rw [q]; simp))) fun b wt x y hR11_4 q2 q3 q4 => ?_
    obtain rfl := hR11_4
    have hb := M3.ext.at q2
    refine e1a1 (L.ch x q3) fun n1 c1' => ?_
    refine e1a1 (L.ch y q4) fun n2 c2' => ?_
    have l1 := L.key x q3
    have l2 := L.key y q4
    have dn : done.length + 1 + xs.length ≤ 3 := by rw [q, List.length_append, List.length_cons] at yl; o_readsAll
    have keepI : ∀ (ρ' : Rho) (τ' : Hp) n' ks' lst', n' ≤ n + 2 → MatesAt σ3 τ' c n' ks' lst' → ρ' "graph" = some (.ref A.g) → ρ' "found" = some (.ref c) → K .next ρ' τ' := fun ρ' τ' n' ks' lst' h1 h2 h3 h4 =>
      kn _ _ ⟨⟨done ++ [.ref b], by rw [q]; simp, n', ks', lst', by rw [List.length_append, List.length_singleton]; o_readsAll, h2⟩, h3, h4⟩
    clear kn kc
    have H3 := H'.ext M3.ext
    clear i1 i2 i3 i4 i5 i6 i7 i8 i9 i10 i11 i12 i13 i14 i15 d1 d2 d3 d4 d5 w1 w2 w5 m
    refine GraphAt.elim H3 fun m nn e1 e2 e3 e4 i1 i2 i3 i4 i5 i6 i7 i8 i9 i10 i11 i12 i13 i14 i15 d1 d2 d3 d4 d5 _ _ _ _ _ _ _ _ _ _ _ _ _ _ => ?_
    tb_start
    repeat (tb_rel; tb_start)
    refine Sp.mono (leader_spec B hK H3 q3 c1') fun v τ' h => ?_
    refine e0a2 h fun hR14_0 hR14_1 => ?_
    clear h
    obtain rfl := hR14_0
    obtain rfl := hR14_1
    tb_start
    repeat (tb_rel; tb_start)
    refine Sp.mono (leader_spec B hK H3 q4 c2') fun v τ'' h => ?_
    refine e0a2 h fun hR15_0 hR15_1 => ?_
    clear h
    obtain rfl := hR15_0
    obtain rfl := hR15_1
    tb_start
    repeat (tb_rel; tb_start)
    refine fr_intro fun tp htp => ?_
    have xt := Ext.newF htp (.tup [vi (ld x), vi (ld y)])
    have M4 := M3.more xt
    tb_start
    repeat (tb_rel; tb_start)
    generalize upd τ'' tp (.tup [vi (ld x), vi (ld y)]) = τ3 at *
    by_cases hq : ld x = ld y
    · rw [show (ld x != ld y) = false by simp [hq]]
      tb_start
      exact keepI _ _ n ks lst (by o_readsAll) M4 (by o_shape) (by o_shape)
    · rw [show (ld x != ld y) = true by simp [hq]]
      have H4 := H'.ext M4.ext
      refine GraphAt.rowE H4 l1 fun ep r1 r2 r3 r4 r5 r6 r7 r8 => ?_
      clear i1 i2 i3 i4 i5 i6 i7 i8 i9 i10 i11 i12 i13 i14 i15 d1 d2 d3 d4 d5 m
      refine GraphAt.elim H4 fun m nn e1 e2 e3 e4 i1 i2 i3 i4 i5 i6 i7 i8 i9 i10 i11 i12 i13 i14 i15 d1 d2 d3 d4 d5 _ _ _ _ _ _ _ _ _ _ _ _ _ _ => ?_
      tb_start
      repeat (tb_rel; tb_start)
      refine ho_in_dict r1 (fun hx => ?_) (fun hx => ?_)
      · tb_start
        exact keepI _ _ n ks lst (by o_readsAll) M4 (by o_shape) (by o_shape)
      · show exsW _ _ _ τ3 _
        refine exs_cut 1 (fun ρ' τ => (∃ ks' lst', MatesAt σ3 τ c (n + 1) ks' lst') ∧ ρ' "graph" = some (.ref A.g) ∧ ρ' "found" = some (.ref c) ∧ ρ' "one" = some (vi (ld x)) ∧ ρ' "other" = some (vi (ld y))) (fun K1 hQ1 => ?_) ?_
        · refine e1a1 M4.at_ fun ec v1 => ?_
          by_cases hm : ld x ∈ ks
          · refine e1a2 (M4.ls _ hm) fun l u1 u2 => ?_
            tb_start
            repeat (tb_rel; tb_start)
            refine fr_intro fun a1 h1 => ?_
            tb_start
            repeat (tb_rel; tb_start)
            refine fr_intro fun a2 h2 => ?_
            tb_start
            repeat (tb_rel; tb_start)
            refine fr_intro fun a3 h3 => ?_
            tb_start
            repeat (tb_rel; tb_start)
            refine ho_set_dict (by o_reads) (by rw [dk_len]; have := M4.kn; o_readsAll) (fun _ => ?_)
            tb_start
            have x5 := ((Ext.newF h1 (.list [])).trans (Ext.newF h2 (.list [vi (ld y)]))).trans (Ext.newF h3 (.list (l.map vi ++ [vi (ld y)])))
            refine hQ1 _ _ ⟨⟨_, _, (M4.more x5).put (l := l ++ [ld y]) (by rw [List.map_append]; exact upd_self _ _ _) (by rw [List.length_append, List.length_singleton]; o_readsAll) _⟩, by o_shape, by o_shape, by o_shape, by o_shape⟩
          · tb_start
            repeat (tb_rel; tb_start)
            refine fr_intro fun a1 h1 => ?_
            tb_start
            repeat (tb_rel; tb_start)
            refine fr_intro fun a2 h2 => ?_
            tb_start
            repeat (tb_rel; tb_start)
            refine fr_intro fun a3 h3 => ?_
            tb_start
            repeat (tb_rel; tb_start)
            refine ho_set_dict (by o_reads) (by rw [dk_len]; have := M4.kn; o_readsAll) (fun _ => ?_)
            tb_start
            have x5 := ((Ext.newF h1 (.list [])).trans (Ext.newF h2 (.list [vi (ld y)]))).trans (Ext.newF h3 (.list ([] ++ [vi (ld y)])))
            refine hQ1 _ _ ⟨⟨_, _, (M4.more x5).put (l := [ld y]) (upd_self _ _ _) (by simp) _⟩, by o_shape, by o_shape, by o_shape, by o_shape⟩
        · intro ρ2 τ4 hI0
          refine e0a5 hI0 fun hN18_0 p1 p2 p3 p4 => ?_
          clear hI0
          refine e2a1 hN18_0 fun ks2 lst2 M5 => ?_
          clear hN18_0
          refine e1a1 M5.at_ fun ec v1 => ?_
          by_cases hm : ld y ∈ ks2
          · refine e1a2 (M5.ls _ hm) fun l u1 u2 => ?_
            tb_start
            repeat (tb_rel; tb_start)
            refine fr_intro fun a1 h1 => ?_
            tb_start
            repeat (tb_rel; tb_start)
            refine fr_intro fun a2 h2 => ?_
            tb_start
            repeat (tb_rel; tb_start)
            refine fr_intro fun a3 h3 => ?_
            tb_start
            repeat (tb_rel; tb_start)
            refine ho_set_dict (by o_reads) (by rw [dk_len]; have := M5.kn; o_readsAll) (fun _ => ?_)
            tb_start
            have x5 := ((Ext.newF h1 (.list [])).trans (Ext.newF h2 (.list [vi (ld x)]))).trans (Ext.newF h3 (.list (l.map vi ++ [vi (ld x)])))
            exact keepI _ _ _ _ _ (Nat.le_refl _) ((M5.more x5).put (l := l ++ [ld x]) (by rw [List.map_append]; exact upd_self _ _ _) (by rw [List.length_append, List.length_singleton]; o_readsAll) _) (by o_shape) (by o_shape)
          · tb_start
            repeat (tb_rel; tb_start)
            refine fr_intro fun a1 h1 => ?_
            tb_start
            repeat (tb_rel; tb_start)
            refine fr_intro fun a2 h2 => ?_
            tb_start
            repeat (tb_rel; tb_start)
            refine fr_intro fun a3 h3 => ?_
            tb_start
            repeat (tb_rel; tb_start)
            refine ho_set_dict (by o_reads) (by rw [dk_len]; have := M5.kn; o_readsAll) (fun _ => ?_)
            tb_start
            have x5 := ((Ext.newF h1 (.list [])).trans (Ext.newF h2 (.list [vi (ld x)]))).trans (Ext.newF h3 (.list ([] ++ [vi (ld x)])))
            exact keepI _ _ _ _ _ (Nat.le_refl _) ((M5.more x5).put (l := [ld x]) (upd_self _ _ _) (by simp) _) (by o_shape) (by o_shape)
end
/-- what has been given colours, what is lost -/
structure Part (G : Gr) (al kp done cs : List Int) (f : Int → Int) (ls : List Int) : Prop where
  all : ∀ x ∈ done, x ∈ cs ∨ x ∈ ls
  lsub : ∀ x ∈ ls, x ∈ done
  lnd : ls.Nodup
  csub : ∀ x ∈ cs, x ∈ done
  row : ∀ x ∈ cs, f x ∈ rowOf G al kp x
  apart : ∀ x ∈ cs, ∀ y ∈ cs, y ∈ G.near x → f x ≠ f y
theorem Part.lose {G : Gr} {al kp done cs ls : List Int} {f : Int → Int} (H : Part G al kp done cs f ls) {r : Int} : Part G al kp (done ++ [r]) cs f (addK ls r) :=
  ⟨fun x hx => by
      rcases List.mem_append.mp hx with h | h
      · exact (H.all x h).imp_right fun h => mem_addK.mpr (.inl h)
      · exact .inr (mem_addK.mpr (.inr (List.mem_singleton.mp h))),
    fun x hx => by
      rcases mem_addK.mp hx with h | h
      · exact List.mem_append_left _ (H.lsub x h)
      · exact List.mem_append_right _ (List.mem_singleton.mpr h),
    nodup_addK H.lnd, fun x hx => List.mem_append_left _ (H.csub x hx), H.row, H.apart⟩
theorem Part.give {G : Gr} {al kp done cs ls : List Int} {f : Int → Int} (H : Part G al kp done cs f ls) (N : Nice G) (hk : ∀ x ∈ done, x ∈ G.keys) {r n : Int} {tk : List Int} (hr : r ∈ G.keys) (hd : r ∉ done) (hn : n ∈ rowOf G al kp r) (ht : n ∉ tk) (hnb : ∀ y ∈ G.near r, y ∈ cs → f y ∈ tk) :
    Part G al kp (done ++ [r]) (cs ++ [r]) (fun j => if j = r then n else f j) ls := by
  have ne : ∀ {x}, x ∈ cs → x ≠ r := fun hx e => hd (e ▸ H.csub _ hx)
  refine ⟨fun x hx => ?_, fun x hx => List.mem_append_left _ (H.lsub x hx), H.lnd, fun x hx => ?_, fun x hx => ?_, fun x hx y hy hxy => ?_⟩
  · rcases List.mem_append.mp hx with h | h
    · exact (H.all x h).imp_left fun h => List.mem_append_left _ h
    · exact .inl (List.mem_append_right _ h)
  · rcases List.mem_append.mp hx with h | h
    · exact List.mem_append_left _ (H.csub x h)
    · exact List.mem_append_right _ h
  · rcases List.mem_append.mp hx with h | h
    · rw [if_neg (ne h)]; exact H.row x h
    · cases List.mem_singleton.mp h
      rw [if_pos rfl]; exact hn
  · rcases List.mem_append.mp hx with h | h <;> rcases List.mem_append.mp hy with h' | h'
    · rw [if_neg (ne h), if_neg (ne h')]; exact H.apart x h y h' hxy
    · cases List.mem_singleton.mp h'
      rw [if_neg (ne h), if_pos rfl]
      exact fun e => ht (by rw [← e]; exact hnb x (N.sym x (hk x (H.csub x h)) _ hxy) h)
    · cases List.mem_singleton.mp h
      rw [if_neg (ne h'), if_pos rfl]
      exact fun e => ht (by rw [e]; exact hnb _ hxy h')
    · cases List.mem_singleton.mp h; cases List.mem_singleton.mp h'
      exact absurd hxy (N.irr _ hr)
structure Two (σ τ : Hp) (c1 c2 : Addr) (cs : List Int) (f : Int → Int) (ls : List Int) : Prop where
  ext : Ext σ τ
  n1 : σ c1 = none
  n2 : σ c2 = none
  ne : c1 ≠ c2
  v1 : ∃ e, τ c1 = some (.dict (dk cs fun k => vi (f k)) e)
  v2 : ∃ e, τ c2 = some (.dict (ds ls) e)
theorem Two.more {σ τ υ : Hp} {c1 c2 : Addr} {cs ls : List Int} {f : Int → Int} (H : Two σ τ c1 c2 cs f ls) (e : Ext τ υ) : Two σ υ c1 c2 cs f ls :=
  ⟨H.ext.trans e, H.n1, H.n2, H.ne, let ⟨x, h⟩ := H.v1; ⟨x, e.at h⟩, let ⟨x, h⟩ := H.v2; ⟨x, e.at h⟩⟩
theorem Two.put1 {σ τ : Hp} {c1 c2 : Addr} {cs ls : List Int} {f : Int → Int} (H : Two σ τ c1 c2 cs f ls) (cs' : List Int) (f' : Int → Int) (e : Nat) : Two σ (upd τ c1 (.dict (dk cs' fun k => vi (f' k)) e)) c1 c2 cs' f' ls :=
  ⟨H.ext.put H.n1 _, H.n1, H.n2, H.ne, ⟨e, upd_self _ _ _⟩, let ⟨x, h⟩ := H.v2; ⟨x, upd_some h H.ne.symm⟩⟩
theorem Two.put2 {σ τ : Hp} {c1 c2 : Addr} {cs ls : List Int} {f : Int → Int} (H : Two σ τ c1 c2 cs f ls) (ls' : List Int) (e : Nat) : Two σ (upd τ c2 (.dict (ds ls') e)) c1 c2 cs f ls' :=
  ⟨H.ext.put H.n2 _, H.n1, H.n2, H.ne, let ⟨x, h⟩ := H.v1; ⟨x, upd_some h H.ne⟩, ⟨e, upd_self _ _ _⟩⟩
/-- a heap, but for two places -/
noncomputable def hide (c1 c2 : Addr) (τ : Hp) : Hp := fun b => if b = c1 ∨ b = c2 then none else τ b
theorem hide_at {c1 c2 : Addr} {τ : Hp} {b : Addr} {x : MO} (h : τ b = some x) (h1 : b ≠ c1) (h2 : b ≠ c2) : hide c1 c2 τ b = some x := by
  unfold hide; rw [if_neg (by rintro (e | e); exact h1 e; exact h2 e)]; exact h
theorem hide_ext {c1 c2 : Addr} {τ : Hp} : Ext (hide c1 c2 τ) τ := fun b x h => by
  unfold hide at h; split at h
  · cases h
  · exact h
theorem ext_hide {c1 c2 : Addr} {σ τ : Hp} (e : Ext σ τ) (h1 : σ c1 = none) (h2 : σ c2 = none) : Ext σ (hide c1 c2 τ) := fun b x h => hide_at (e b x h) (ne_of h h1) (ne_of h h2)
theorem hide_1 {c1 c2 : Addr} {τ : Hp} : hide c1 c2 τ c1 = none := by unfold hide; rw [if_pos (.inl rfl)]
theorem hide_2 {c1 c2 : Addr} {τ : Hp} : hide c1 c2 τ c2 = none := by unfold hide; rw [if_pos (.inr rfl)]
noncomputable def RK (A : GA) (PP : PA) (fz c1 c2 cm : Addr) (ρ : Rho) : Prop := ρ "graph" = some (.ref A.g) ∧ ρ "pools" = some (.ref PP.p) ∧ ρ "frozen" = some (.ref fz) ∧ ρ "colours" = some (.ref c1) ∧ ρ "lost" = some (.ref c2) ∧ ρ "mates" = some (.ref cm)
section
variable {C : Cx} (B : Bs C) (hK : KOk C.K) {k : Nat} {σ : Hp} {A : GA} {G : Gr} {cps : List Value} {PP : PA} {al kp : List Int} {fz : Addr} {fe : Nat} {ld : Int → Int}
include B hK
theorem coloured_spec (H : GraphAt σ A G cps) (N : Nice G) (L : Led G ld) (H2 : PoolsAt σ PP al kp) (hfz : σ fz = some (.dict (ds []) fe)) (hc0 : CpsOk σ G.keys cps) (hal : ∀ n ∈ al, 0 ≤ n) (hkp : ∀ n ∈ kp, 0 ≤ n) :
    Sp C (k + 4) (.ref 250) [.ref A.g, .ref PP.p, .ref fz] σ fun v σ' => ∃ t c1 c2 cs f ls e1 e2 done, v = .ref t ∧ σ' t = some (.tup [.ref c1, .ref c2]) ∧ σ' c1 = some (.dict (dk cs fun k => vi (f k)) e1) ∧ σ' c2 = some (.dict (ds ls) e2) ∧ Ext σ σ' ∧ σ c1 = none ∧ σ c2 = none ∧
      Part G al kp done cs f ls ∧ ∀ x, x ∈ done ↔ x ∈ G.keys ∧ G.ali x = x := by
  refine fn_startL B (fn_250 hK) lk_250_dbg rfl rfl ?_
  intro PX
  have hlen := H.ok.len
  have rl : ∀ y, (rowOf G al kp y).length ≤ 10 := fun y => by unfold rowOf; split; exact H2.n2; exact H2.n1
  have rp : ∀ y n, n ∈ rowOf G al kp y → 0 ≤ n := fun y n h => by unfold rowOf at h; split at h; exact hkp n h; exact hal n h
  refine exs_cut 2 (fun ρ τ => ∃ (c1 c2 cm : Addr) (n : Nat) (ks : List Int) (lst : Int → Addr), RK A PP fz c1 c2 cm ρ ∧ n ≤ 10 ∧ Ext σ τ ∧ σ c1 = none ∧ σ c2 = none ∧ c1 ≠ c2 ∧ (∃ e, τ c1 = some (.dict [] e)) ∧ (∃ e, τ c2 = some (.dict [] e)) ∧ cm ≠ c1 ∧ cm ≠ c2 ∧ (∃ e, τ cm = some (.dict (dk ks fun k => .ref (lst k)) e)) ∧ ∀ k ∈ ks, ∃ l : List Int, τ (lst k) = some (.list (l.map vi)) ∧ l.length ≤ n) (fun K hQ => ?_) ?_
  · tb_start
    repeat (tb_rel; tb_start)
    refine fr_intro2 fun c1 ec1 h1 => ?_
    tb_start
    repeat (tb_rel; tb_start)
    refine fr_intro2 fun c2 ec2 h2 => ?_
    tb_start
    repeat (tb_rel; tb_start)
    refine fr_intro fun tp htp => ?_
    tb_start
    repeat (tb_rel; tb_start)
    have x1 : Ext σ (upd σ c1 (.dict [] ec1)) := Ext.newF h1 _
    have x2 := x1.trans (Ext.newF h2 (.dict [] ec2))
    have x3 := x2.trans (Ext.newF htp (.tup [.ref c1, .ref c2]))
    have u1 : upd (upd (upd σ c1 (.dict [] ec1)) c2 (.dict [] ec2)) tp (.tup [.ref c1, .ref c2]) c1 = some (.dict [] ec1) := by o_reads
    have u2 : upd (upd (upd σ c1 (.dict [] ec1)) c2 (.dict [] ec2)) tp (.tup [.ref c1, .ref c2]) c2 = some (.dict [] ec2) := by o_reads
    have n12 : c1 ≠ c2 := by o_fieldsN
    generalize upd (upd (upd σ c1 (.dict [] ec1)) c2 (.dict [] ec2)) tp (.tup [.ref c1, .ref c2]) = τ at *
    refine Sp.mono (mates_spec B hK (H.ext x3) L (hc0.ext x3)) fun v τ' h => ?_
    refine e4a3 h fun cm n ks lst hR1_4 M hn => ?_
    clear h
    obtain rfl := hR1_4
    tb_start
    repeat (tb_rel; tb_start)
    exact hQ _ _ ⟨c1, c2, cm, n, ks, lst, ⟨by o_shape, by o_shape, by o_shape, by o_shape, by o_shape, by o_shape⟩, hn, x3.trans M.ext, h1.out, x1.fr h2, n12, ⟨_, M.ext.at u1⟩, ⟨_, M.ext.at u2⟩, (ne_of u1 M.new).symm, (ne_of u2 M.new).symm, M.at_, M.ls⟩
  intro ρ0 τ0 hI0
  refine e6a12 hI0 fun c1 c2 cm n ks lst hN2_6 hn x0 n1 n2 n12 hN2_12 hN2_13 m1 m2 hN2_16 ml => ?_
  clear hI0
  refine e0a6 hN2_6 fun p1 p2 p3 p4 p5 p6 => ?_
  clear hN2_6
  refine e1a1 hN2_12 fun ec1 v1 => ?_
  clear hN2_12
  refine e1a1 hN2_13 fun ec2 v2 => ?_
  clear hN2_13
  refine e1a1 hN2_16 fun em v3 => ?_
  clear hN2_16
  have fr1 : Fr σ c1 := ⟨n1⟩
  have fr2 : Fr σ c2 := ⟨n2⟩
  tb_start
  repeat (tb_rel; tb_start)
  refine Sp.mono (stacked_spec B hK (H.ext x0) N (H2.ext x0) (x0.at hfz)) fun v τ1 h => ?_
  refine e2a5 h fun cst ms hR7_2 hst x1 msn hms => ?_
  clear h
  obtain rfl := hR7_2
  have msl : ms.length ≤ 10 := Nat.le_trans (nodup_le msn fun y hy => ((hms y).mp hy).1) hlen
  tb_start
  repeat (tb_rel; tb_start)
  refine fr_intro fun cr hcr => ?_
  have x2 := x1.trans (Ext.newF hcr (.list (ms.map vi).reverse))
  have w1 := x2.at v1
  have w2 := x2.at v2
  have w3 := x2.at v3
  have w4 : upd τ1 cr (.list (ms.map vi).reverse) cr = some (.list (ms.map vi).reverse) := upd_self _ _ _
  have wl : ∀ k ∈ ks, ∃ l : List Int, upd τ1 cr (.list (ms.map vi).reverse) (lst k) = some (.list (l.map vi)) ∧ l.length ≤ n := fun k hk => let ⟨l, h, h'⟩ := ml k hk; ⟨l, x2.at h, h'⟩
  have x3 := x0.trans x2
  tb_start
  refine ho_for (seq_list w4) (by rw [List.length_reverse, List.length_map]; o_readsAll) ?_
  generalize upd τ1 cr (.list (ms.map vi).reverse) = τ2 at *
  clear hst x1 x2 v1 v2 v3 ml hcr
  -- the heap, but for colours and lost
  have xb := ext_hide x3 n1 n2
  have Hb := H.ext xb
  have Pb := H2.ext xb
  have fb := xb.at hfz
  have b3 := hide_at w3 m1 m2
  have b4 := hide_at w4 (ne_kind w4 w1 nofun) (ne_kind w4 w2 nofun)
  have bl : ∀ k ∈ ks, ∃ l : List Int, hide c1 c2 τ2 (lst k) = some (.list (l.map vi)) ∧ l.length ≤ n := fun k hk => let ⟨l, h, h'⟩ := wl k hk; ⟨l, hide_at h (ne_kind h w1 nofun) (ne_kind h w2 nofun), h'⟩
  have T0 : Two (hide c1 c2 τ2) τ2 c1 c2 [] (fun _ => 0) [] := ⟨hide_ext, hide_1, hide_2, n12, ⟨_, w1⟩, ⟨_, w2⟩⟩
  have xout : Ext σ (hide c1 c2 τ2) := xb
  generalize hide c1 c2 τ2 = β at *
  clear w1 w2 w3 wl x3
  have rlen : ms.reverse.length ≤ 10 := by rw [List.length_reverse]; exact msl
  have hmr : ∀ x, x ∈ ms.reverse ↔ x ∈ G.keys ∧ G.ali x = x := fun x => by rw [List.mem_reverse, hms]
  have hnr : ms.reverse.Nodup := (List.reverse_perm ms).nodup_iff.mpr msn
  rw [← List.map_reverse] at b4 w4 ⊢
  generalize ms.reverse = rs at *
  have w5 := T0.ext.at b4
  refine for_ind (fun xs ρ τ => ∃ done rest cs f ls, xs = List.map vi rest ∧ rs = done ++ rest ∧ RK A PP fz c1 c2 cm ρ ∧ Two β τ c1 c2 cs f ls ∧ Part G al kp done cs f ls ∧ cs.length ≤ done.length ∧ ls.length ≤ done.length) ?_ ?_ ?_ ⟨[], rs, [], _, [], rfl, rfl, ⟨p1, p2, p3, p4, p5, p6⟩, T0, ⟨nofun, nofun, List.nodup_nil, nofun, nofun, nofun⟩, Nat.le_refl _, Nat.le_refl _⟩
  · intro xs ρ τ hI0
    refine e5a5 hI0 fun done rest cs f ls _ _ _ h _ => ?_
    clear hI0
    exact stay_list w5 (h.ext.at b4)
  · intro ρ τ hI0
    refine e5a7 hI0 fun done rest cs f ls q1 q hN9_7 T Pt _ _ => ?_
    clear hI0
    refine e0a6 hN9_7 fun p1 p2 p3 p4 p5 p6 => ?_
    clear hN9_7
    cases List.map_eq_nil_iff.mp q1.symm
    rw [List.append_nil] at q
    subst q
    tb_start
    repeat (tb_rel; tb_start)
    refine fr_intro fun tp htp => ?_
    tb_start
    repeat (tb_rel; tb_start)
    refine e1a1 T.v1 fun e1 u1 => ?_
    refine e1a1 T.v2 fun e2 u2 => ?_
    have xt := Ext.newF htp (.tup [.ref c1, .ref c2])
    exact ⟨tp, c1, c2, cs, f, ls, e1, e2, rs, rfl, upd_self _ _ _, xt.at u1, xt.at u2, xout.trans (T.ext.trans xt), n1, n2, Pt, hmr⟩
  · intro v xs ρ τ hI0 K kn _ _ _
    refine e5a7 hI0 fun done rest cs f ls q1 q hN13_7 T Pt csl lsl => ?_
    clear hI0
    refine e0a6 hN13_7 fun p1 p2 p3 p4 p5 p6 => ?_
    clear hN13_7
    refine e2a3 (map_cons q1) fun r rest hR15_2 hR15_3 hR15_4 => ?_
    obtain rfl := hR15_2
    obtain rfl := hR15_3
    obtain rfl := hR15_4
    have hr := (hmr r).mp (by rw [q]; simp)
    have hrk := hr.1
    have hrd : r ∉ done := fun h => by
      rw [q] at hnr
      exact (List.nodup_append.mp hnr).2.2 r h r (List.mem_cons_self ..) rfl
    have hdk : ∀ x ∈ done, x ∈ G.keys := fun x hx => ((hmr x).mp (by rw [q]; exact List.mem_append_left _ hx)).1
    have dl : done.length + 1 ≤ 10 := by rw [q, List.length_append, List.length_cons] at rlen; o_readsAll
    have kL : ∀ (ρ' : Rho) (τ' : Hp), RK A PP fz c1 c2 cm ρ' → Two β τ' c1 c2 cs f (addK ls r) → K .next ρ' τ' := fun ρ' τ' h1 h2 =>
      kn _ _ ⟨done ++ [r], rest, cs, f, addK ls r, rfl, by rw [q]; simp, h1, h2, Pt.lose, by rw [List.length_append]; o_readsAll, by have := len_addK ls r; rw [List.length_append, List.length_singleton]; o_readsAll⟩
    have kC : ∀ (ρ' : Rho) (τ' : Hp) nn tk, RK A PP fz c1 c2 cm ρ' → nn ∈ rowOf G al kp r → nn ∉ tk → (∀ y ∈ G.near r, y ∈ cs → f y ∈ tk) → Two β τ' c1 c2 (cs ++ [r]) (fun j => if j = r then nn else f j) ls → K .next ρ' τ' := fun ρ' τ' nn tk h1 h2 h3 h4 h5 =>
      kn _ _ ⟨done ++ [r], rest, cs ++ [r], _, ls, rfl, by rw [q]; simp, h1, h5, Pt.give N hdk hr.1 hrd h2 h3 h4, by rw [List.length_append, List.length_append, List.length_singleton]; simp; o_readsAll, by rw [List.length_append]; o_readsAll⟩
    have hrc : r ∉ cs := fun h => hrd (Pt.csub r h)
    clear kn
    refine exs_cut 2 (fun ρ' τ' => RK A PP fz c1 c2 cm ρ' ∧ ρ' "register" = some (vi r) ∧ ∃ t tk e, ρ' "taken" = some (.ref t) ∧ Two β τ' c1 c2 cs f ls ∧ τ' t = some (.dict (ds tk) e) ∧ (∀ y ∈ G.near r, y ∈ cs → f y ∈ tk) ∧ β t = none ∧ t ≠ c1 ∧ t ≠ c2 ∧ tk.length ≤ 10) (fun K1 hQ => ?_) ?_
    · refine e1a1 T.v1 fun e1 u1 => ?_
      have H3 := Hb.ext T.ext
      refine GraphAt.elim H3 fun m nn e1 e2 e3 e4 i1 i2 i3 i4 i5 i6 i7 i8 i9 i10 i11 i12 i13 i14 i15 d1 d2 d3 d4 d5 _ _ _ _ _ _ _ _ _ _ _ _ _ _ => ?_
      refine GraphAt.rowE H3 hr.1 fun ep r1 r2 r3 r4 r5 r6 r7 r8 => ?_
      tb_start
      repeat (tb_rel; tb_start)
      refine fr_intro2 fun t et ht => ?_
      tb_start
      repeat (tb_rel; tb_start)
      have r1' : upd τ t (.dict [] et) (A.nb r) = some (.dict (ds (G.near r)) ep) := by o_reads
      have tn : t ≠ A.nb r := (ne_of' ht r1).symm
      refine ho_for (seq_dict r1') (by w_left) ?_
      refine for_ind (fun xs ρ' τ' => ∃ d2 r2 tk e, xs = List.map vi r2 ∧ G.near r = d2 ++ r2 ∧ RK A PP fz c1 c2 cm ρ' ∧ ρ' "register" = some (vi r) ∧ ρ' "taken" = some (.ref t) ∧ τ' = upd τ t (.dict (ds tk) e) ∧ (∀ y ∈ d2, y ∈ cs → f y ∈ tk) ∧ tk.length ≤ d2.length) ?_ ?_ ?_ ⟨[], G.near r, [], et, rfl, rfl, ⟨by o_shape, by o_shape, by o_shape, by o_shape, by o_shape, by o_shape⟩, by o_shape, by o_shape, rfl, nofun, Nat.le_refl _⟩
      · intro xs ρ' τ' hI0
        refine e4a7 hI0 fun d2 r2 tk e _ _ _ _ _ hR17_9 _ => ?_
        clear hI0
        obtain rfl := hR17_9
        exact stay_dict r1' (upd_some r1 tn.symm)
      · intro ρ' τ' hI0
        refine e4a8 hI0 fun d2 r2 tk e q1 hk p pr pt hR18_9 hd hl => ?_
        clear hI0
        obtain rfl := hR18_9
        cases List.map_eq_nil_iff.mp q1.symm
        rw [List.append_nil] at hk
        rw [← hk] at hd hl
        exact hQ _ _ ⟨p, pr, t, tk, e, pt, T.more (Ext.newF ht _), upd_self _ _ _, hd, T.ext.fr ht, (ne_of' ht u1).symm, (let ⟨_, u2⟩ := T.v2; (ne_of' ht u2).symm), by o_readsAll⟩
      · intro v xs ρ' τ' hI0 K2 kn2 _ _ _
        refine e4a8 hI0 fun d2 r2 tk e q1 hk hN19_6 pr pt hR19_9 hd hl => ?_
        clear hI0
        refine e0a6 hN19_6 fun p1 p2 p3 p4 p5 p6 => ?_
        clear hN19_6
        obtain rfl := hR19_9
        refine e2a3 (map_cons q1) fun y r2 hR21_2 hR21_3 hR21_4 => ?_
        obtain rfl := hR21_2
        obtain rfl := hR21_3
        obtain rfl := hR21_4
        have dl2 : d2.length ≤ 10 := by rw [hk, List.length_append] at r8; o_readsAll
        tb_start
        repeat (tb_rel; tb_start)
        refine ho_in_dict (by o_reads) (fun hy => ?_) (fun hy => ?_)
        · tb_start
          repeat (tb_rel; tb_start)
          rw [upd_upd, ds_add]
          refine kn2 _ _ ⟨d2 ++ [y], r2, addK tk (f y), _, rfl, by rw [hk]; simp, ⟨by o_shape, by o_shape, by o_shape, by o_shape, by o_shape, by o_shape⟩, by o_shape, by o_shape, rfl, fun z hz hzc => ?_, ?_⟩
          · rcases List.mem_append.mp hz with h | h
            · exact mem_addK.mpr (.inl (hd z h hzc))
            · rw [List.mem_singleton.mp h]; exact mem_addK.mpr (.inr rfl)
          · have := len_addK tk (f y)
            rw [List.length_append, List.length_singleton]; o_readsAll
        · tb_start
          refine kn2 _ _ ⟨d2 ++ [y], r2, tk, _, rfl, by rw [hk]; simp, ⟨by o_shape, by o_shape, by o_shape, by o_shape, by o_shape, by o_shape⟩, by o_shape, by o_shape, rfl, fun z hz hzc => ?_, by rw [List.length_append]; o_readsAll⟩
          rcases List.mem_append.mp hz with h | h
          · exact hd z h hzc
          · rw [List.mem_singleton.mp h] at hzc; exact absurd hzc hy
    · intro ρ1 τ1 hI0
      refine hideG fun PG kG => ?_
      obtain ⟨⟨p1, p2, p3, p4, p5, p6⟩, pr, t, tk, et, pt, T1, ut, htk, bt, t1, t2, tkl⟩ := hI0
      refine kG ?_
      clear kG PG
      refine exs_cut 1 (fun ρ' τ' => RK A PP fz c1 c2 cm ρ' ∧ ρ' "register" = some (vi r) ∧ ρ' "taken" = some (.ref t) ∧ Ext τ1 τ' ∧ ∃ cw ws, ρ' "wished" = some (.ref cw) ∧ τ' cw = some (.list (List.map vi ws)) ∧ ws.length ≤ 10) (fun K1 hQ => ?_) ?_
      · refine e1a1 T1.v1 fun e1 u1 => ?_
        have u3 := T1.ext.at b3
        have fin : ∀ (ρ' : Rho) (cl : Addr) (l : List Int) (τ' : Hp), Ext τ1 τ' → τ' cl = some (.list (l.map vi)) → l.length ≤ 10 → True := fun _ _ _ _ _ _ _ => trivial
        by_cases hm : r ∈ ks
        · refine e1a2 (bl r hm) fun l u4 ll => ?_
          have u4 := T1.ext.at u4
          tb_start
          repeat (tb_rel; tb_start)
          refine fr_intro fun d hd => ?_
          tb_start
          repeat (tb_rel; tb_start)
          have u5 : upd τ1 d (.list []) (lst r) = some (.list (l.map vi)) := by o_reads
          refine ho_comp (seq_list u5) (by w_left) (fr_intro fun c hc => ?_)
          refine comp_int (fun ρ => ρ "colours" = some (.ref c1)) l (fun _ => true) (fun y => vi (if y ∈ cs then f y else -1)) (by o_readsAll) (fun l => stay_list u5 (by o_reads)) ?_ (by o_shape) ?_
          · intro y hy ρ l Kc hr hl kt kf
            by_cases hyc : y ∈ cs
            · rw [if_pos hyc] at kt
              tb_start
              repeat (tb_rel; tb_start)
              rw [upd_upd]
              exact kt _ ((setR_ne _ _ (by decide)).trans hr) rfl
            · rw [if_neg hyc] at kt
              tb_start
              repeat (tb_rel; tb_start)
              rw [upd_upd]
              exact kt _ ((setR_ne _ _ (by decide)).trans hr) rfl
          · have e1 : (l.filter fun _ => true).map (fun y => vi (if y ∈ cs then f y else -1)) = (l.map fun y => if y ∈ cs then f y else -1).map vi := by
              rw [List.filter_eq_self.mpr fun _ _ => rfl, List.map_map]; rfl
            rw [e1]
            tb_start
            exact hQ _ _ ⟨⟨by o_shape, by o_shape, by o_shape, by o_shape, by o_shape, by o_shape⟩, by o_shape, by o_shape, (Ext.newF hd _).trans (Ext.newF hc _), c, _, by o_shape, upd_self _ _ _, by rw [List.length_map]; o_readsAll⟩
        · tb_start
          repeat (tb_rel; tb_start)
          refine fr_intro fun d hd => ?_
          tb_start
          repeat (tb_rel; tb_start)
          have u5 : upd τ1 d (.list []) d = some (.list (([] : List Int).map vi)) := upd_self _ _ _
          refine ho_comp (seq_list u5) (by exact Nat.zero_le _) (fr_intro fun c hc => ?_)
          refine comp_int (fun ρ => ρ "colours" = some (.ref c1)) [] (fun _ => true) (fun y => vi 0) (by exact Nat.zero_le _) (fun l => stay_list u5 (by o_reads)) (fun y hy => by cases hy) (by o_shape) ?_
          tb_start
          exact hQ _ _ ⟨⟨by o_shape, by o_shape, by o_shape, by o_shape, by o_shape, by o_shape⟩, by o_shape, by o_shape, (Ext.newF hd _).trans (Ext.newF hc _), c, [], by o_shape, upd_self _ _ _, Nat.zero_le _⟩
      · intro ρ2 τ2 hI0
        refine hideG fun PG kG => ?_
        obtain ⟨⟨p1, p2, p3, p4, p5, p6⟩, pr, pt, x4, cw, ws, pw, uw, wsl⟩ := hI0
        refine kG ?_
        clear kG PG
        have T2 := T1.more x4
        have ut := x4.at ut
        have H3 := Hb.ext T2.ext
        have P3 := Pb.ext T2.ext
        have f3 := T2.ext.at fb
        refine e2a4 P3.att fun m2 n2 j1 j2 j3 j4 => ?_
        have j5 := P3.inst
        refine e1a1 T2.v1 fun e1 u1 => ?_
        refine e1a1 T2.v2 fun e2 u2 => ?_
        have rlr := rl r
        tb_start
        repeat (tb_rel; tb_start)
        refine Sp.mono (of_spec B hK H3 P3) fun v τ' h => ?_
        refine e1a3 h fun b hR31_1 hb hR31_3 => ?_
        clear h
        obtain rfl := hR31_1
        obtain rfl := hR31_3
        tb_start
        repeat (tb_rel; tb_start)
        refine Sp.mono (number_spec B hK hb ut uw (by o_readsAll) (by o_readsAll)) fun v τ'' h => ?_
        refine e1a3 h fun num hR32_1 hnum hR32_3 => ?_
        clear h
        obtain rfl := hR32_1
        obtain rfl := hR32_3
        tb_start
        repeat (tb_rel; tb_start)
        rcases hnum with rfl | ⟨hn1, hn2⟩
        · tb_start
          repeat (tb_rel; tb_start)
          refine Sp.mono (victim_spec B hK f3) fun v τ3 h => ?_
          refine e0a2 h fun hR33_0 hR33_1 => ?_
          clear h
          obtain rfl := hR33_0
          obtain rfl := hR33_1
          tb_start
          repeat (tb_rel; tb_start)
          rw [ds_add]
          exact kL _ _ ⟨by o_shape, by o_shape, by o_shape, by o_shape, by o_shape, by o_shape⟩ (T2.put2 _ _)
        · rw [show decide (num < 0) = false from decide_eq_false (by have := rp r num hn1; o_readsAll)]
          tb_start
          repeat (tb_rel; tb_start)
          have e5 : stored (dk cs fun k => vi (f k)) r (vi num) = dk (cs ++ [r]) fun k => vi (if k = r then num else f k) := by
            rw [dk_new hrc]; refine dk_congr fun j _ => ?_; split <;> rfl
          rw [e5]
          exact kC _ _ num tk ⟨by o_shape, by o_shape, by o_shape, by o_shape, by o_shape, by o_shape⟩ hn1 hn2 htk (T2.put1 _ _ _)
end
theorem fori_ind {P : Px} {tgt : List Expr} {body : Rho → Hp → SQ → Prop} {it : Addr} {σ₀ : Hp} {Q : SQ} (I : List (Int × Value) → Rho → Hp → Prop) (hs : ∀ xs ρ σ, I xs ρ σ → stay it σ₀ σ) (fin : ∀ ρ σ, I [] ρ σ → Q .next ρ σ)
    (step : ∀ k v xs ρ σ, I ((k, v) :: xs) ρ σ → ∀ K : SQ, (∀ ρ σ, I xs ρ σ → K .next ρ σ) → (∀ ρ σ, I xs ρ σ → K .cont ρ σ) → (∀ ρ σ, Q .next ρ σ → K .brk ρ σ) → (∀ v ρ σ, Q (.ret v) ρ σ → K (.ret v) ρ σ) → asgs P tgt [vi k, v] ρ fun ρ => body ρ σ K) {xs : List (Int × Value)} {ρ : Rho} {σ : Hp} (h : I xs ρ σ) : forI P tgt body it σ₀ xs ρ σ Q :=
  forI_ind I hs fin (fun k v xs ρ σ hi ih => step k v xs ρ σ hi _ ih ih (fun _ _ h => h) fun _ _ _ h => h) xs ρ σ h
theorem dk_cons {k : Int} {v : Value} {xs : List (Int × Value)} {ks : List Int} {f : Int → Value} (h : (k, v) :: xs = dk ks f) : ∃ r, ks = k :: r ∧ v = f k ∧ xs = dk r f := by
  cases ks with
  | nil => cases h
  | cons y r =>
    unfold dk at h
    rw [List.map_cons] at h
    injection h with h1 h2
    injection h1 with h3 h4
    subst h3
    exact ⟨r, rfl, h4, h2⟩
/-- an Allocation on the way -/
structure AlAt (σ τ : Hp) (x D P I : Addr) (pk : List Int) (pf : Int → Int) (ik : List Int) (jf : Int → Int) : Prop where
  ext : Ext σ τ
  nx : σ x = none
  nD : σ D = none
  nP : σ P = none
  nI : σ I = none
  ne : P ≠ I
  inst : τ x = some (.inst 58 D)
  att : ∃ m n, τ D = some (.att m n) ∧ n ≤ 50 ∧ m "place" = some (.ref P) ∧ m "incoming" = some (.ref I)
  p : ∃ e, τ P = some (.dict (dk pk fun k => vi (pf k)) e)
  i : ∃ e, τ I = some (.dict (dk ik fun k => vi (jf k)) e)
theorem AlAt.more {σ τ υ : Hp} {x D P I : Addr} {pk ik : List Int} {pf jf : Int → Int} (H : AlAt σ τ x D P I pk pf ik jf) (e : Ext τ υ) : AlAt σ υ x D P I pk pf ik jf :=
  ⟨H.ext.trans e, H.nx, H.nD, H.nP, H.nI, H.ne, e.at H.inst, let ⟨m, n, h, h'⟩ := H.att; ⟨m, n, e.at h, h'⟩, let ⟨a, h⟩ := H.p; ⟨a, e.at h⟩, let ⟨a, h⟩ := H.i; ⟨a, e.at h⟩⟩
theorem AlAt.putP {σ τ : Hp} {x D P I : Addr} {pk ik : List Int} {pf jf : Int → Int} (H : AlAt σ τ x D P I pk pf ik jf) (pk' : List Int) (pf' : Int → Int) (e : Nat) : AlAt σ (upd τ P (.dict (dk pk' fun k => vi (pf' k)) e)) x D P I pk' pf' ik jf := by
  refine e1a1 H.p fun e1 h1 => ?_
  refine e1a1 H.i fun e2 h2 => ?_
  refine e2a2 H.att fun m n h h' => ?_
  exact ⟨H.ext.put H.nP _, H.nx, H.nD, H.nP, H.nI, H.ne, upd_some H.inst (ne_kind H.inst h1 nofun), ⟨m, n, upd_some h (ne_kind h h1 nofun), h'⟩, ⟨e, upd_self _ _ _⟩, ⟨e2, upd_some h2 H.ne.symm⟩⟩
theorem AlAt.putI {σ τ : Hp} {x D P I : Addr} {pk ik : List Int} {pf jf : Int → Int} (H : AlAt σ τ x D P I pk pf ik jf) (ik' : List Int) (jf' : Int → Int) (e : Nat) : AlAt σ (upd τ I (.dict (dk ik' fun k => vi (jf' k)) e)) x D P I pk pf ik' jf' := by
  refine e1a1 H.p fun e1 h1 => ?_
  refine e1a1 H.i fun e2 h2 => ?_
  refine e2a2 H.att fun m n h h' => ?_
  exact ⟨H.ext.put H.nI _, H.nx, H.nD, H.nP, H.nI, H.ne, upd_some H.inst (ne_kind H.inst h2 nofun), ⟨m, n, upd_some h (ne_kind h h2 nofun), h'⟩, ⟨e1, upd_some h1 H.ne⟩, ⟨e, upd_self _ _ _⟩⟩
theorem AlAt.eq {σ τ : Hp} {x D P I : Addr} {pk ik pk' ik' : List Int} {pf jf : Int → Int} (H : AlAt σ τ x D P I pk pf ik jf) (e1 : pk = pk') (e2 : ik = ik') : AlAt σ τ x D P I pk' pf ik' jf := e1 ▸ e2 ▸ H
/-- where a register is -/
noncomputable def plF (G : Gr) (ld f xf : Int → Int) (k : Int) : Int := if k ∈ G.keys then f (ld k) else 10 + xf k
noncomputable def RA (A : GA) (PP : PA) (S : SpA) (c1 x : Addr) (ρ : Rho) : Prop := ρ "graph" = some (.ref A.g) ∧ ρ "pools" = some (.ref PP.p) ∧ ρ "spills" = some (.ref S.s) ∧ ρ "colours" = some (.ref c1) ∧ ρ "found" = some (.ref x)
structure AllocAt (σ' : Hp) (x : Addr) (pk : List Int) (pf : Int → Int) (ik : List Int) (jf : Int → Int) (Ft : Addr) (sl : List Int) (many : Int) : Prop where
  all : ∃ D m n P I Sv e1 e2, σ' x = some (.inst 58 D) ∧ σ' D = some (.att m n) ∧ m "place" = some (.ref P) ∧ m "incoming" = some (.ref I) ∧ m "fetched" = some (.ref Ft) ∧ m "saved_used" = some (.ref Sv) ∧ m "spills" = some (vi many) ∧
    σ' P = some (.dict (dk pk fun k => vi (pf k)) e1) ∧ σ' I = some (.dict (dk ik fun k => vi (jf k)) e2) ∧ σ' Sv = some (.list (sl.map vi))
theorem ite_le (c : Bool) : (if c = true then 0 else 1) ≤ 1 := by split <;> o_readsAll
section
variable {C : Cx} (B : Bs C) (hK : KOk C.K) {k : Nat} {σ : Hp} {A : GA} {G : Gr} {cps : List Value} {PP : PA} {al kp : List Int} {ld f : Int → Int} {S : SpA} {xk tk cs : List Int} {xf tf : Int → Int} {many : Int} {c1 : Addr} {ec : Nat}
include B hK
theorem finished_spec (H : GraphAt σ A G cps) (L : Led G ld) (H2 : PoolsAt σ PP al kp) (HS : SpillsAt σ S xk xf tk tf many) (hc : σ c1 = some (.dict (dk cs fun k => vi (f k)) ec)) (hcs : ∀ x ∈ G.keys, G.ali x = x → x ∈ cs) (xn : xk.Nodup) (xd : ∀ x ∈ xk, x ∉ G.keys) (xl : xk.length ≤ 10) :
    Sp C (k + 3) (.ref 255) [.ref A.g, .ref c1, .ref S.s, .ref PP.p] σ fun v σ' => ∃ x sl, v = .ref x ∧ Ext σ σ' ∧ AllocAt σ' x (G.keys ++ xk.filter fun k => decide (xf k < 8)) (plF G ld f xf) (xk.filter fun k => !decide (xf k < 8)) xf S.Ft sl many ∧
      List.Pairwise (· ≤ ·) sl ∧ List.Perm sl (kp.filter fun n => decide (∃ k ∈ G.keys ++ xk.filter fun k => decide (xf k < 8), plF G ld f xf k = n)) := by
  refine fn_startL B (fn_255 hK) lk_255_dbg rfl rfl ?_
  intro PX
  have hlen := H.ok.len
  refine exs_cut 1 (fun ρ τ => ∃ x D P I, RA A PP S c1 x ρ ∧ AlAt σ τ x D P I [] (plF G ld f xf) [] xf) (fun K hQ => ?_) ?_
  · tb_start
    repeat (tb_rel; tb_start)
    refine Sp.mono (alloc_new B hK) fun v τ h => ?_
    refine e8a13 h fun x D P I T Sv m n hR7_8 h1 h2 h3 hN7_12 h6 h7 h8 h9 h10 h11 h12 h13 => ?_
    clear h
    obtain rfl := hR7_8
    refine e0a3 hN7_12 fun h4 h5 _ => ?_
    clear hN7_12
    tb_start
    repeat (tb_rel; tb_start)
    exact hQ _ _ ⟨x, D, P, I, ⟨by o_shape, by o_shape, by o_shape, by o_shape, by o_shape⟩, h9, h10, h11, h12, h13, h8, h1, ⟨m, n, h2, h3, h4, h5⟩, h6, h7⟩
  intro ρ0 τ0 hI0
  refine e4a2 hI0 fun x D P I hN9_4 A0 => ?_
  clear hI0
  refine e0a5 hN9_4 fun p1 p2 p3 p4 p5 => ?_
  clear hN9_4
  refine exs_cut 1 (fun ρ τ => RA A PP S c1 x ρ ∧ AlAt σ τ x D P I G.keys (plF G ld f xf) [] xf) (fun K hQ => ?_) ?_
  · have H1 := H.ext A0.ext
    refine GraphAt.elim H fun m nn e1 e2 e3 e4 i1 i2 i3 i4 i5 i6 i7 i8 i9 i10 i11 i12 i13 i14 i15 d1 d2 d3 d4 d5 _ _ _ _ _ _ _ _ _ _ _ _ _ _ => ?_
    refine GraphAt.elim H1 fun m' nn' _ _ _ _ i1' i2' i3' i4' _ _ _ _ _ _ _ _ _ _ _ d1' _ _ _ _ _ _ _ _ _ _ _ _ _ _ _ _ _ _ => ?_
    have x0 := A0.ext
    tb_start
    repeat (tb_rel; tb_start)
    refine ho_for (seq_dict (x0.at d1)) (by w_left) ?_
    refine for_ind (fun xs ρ τ => ∃ done rest, xs = List.map vi rest ∧ G.keys = done ++ rest ∧ RA A PP S c1 x ρ ∧ AlAt σ τ x D P I done (plF G ld f xf) [] xf) ?_ ?_ ?_ ⟨[], G.keys, rfl, rfl, ⟨p1, p2, p3, p4, p5⟩, A0⟩
    · intro xs ρ τ hI0
      refine e2a4 hI0 fun done rest _ _ _ h => ?_
      clear hI0
      exact stay_dict (x0.at d1) (h.ext.at d1)
    · intro ρ τ hI0
      refine e2a4 hI0 fun done rest q1 q p h => ?_
      clear hI0
      cases List.map_eq_nil_iff.mp q1.symm
      rw [List.append_nil] at q
      rw [← q] at h
      exact hQ _ _ ⟨p, h⟩
    · intro v xs ρ τ hI0 K2 kn _ _ _
      refine e2a4 hI0 fun done rest q1 q hN13_4 A1 => ?_
      clear hI0
      refine e0a5 hN13_4 fun p1 p2 p3 p4 p5 => ?_
      clear hN13_4
      refine e2a3 (map_cons q1) fun y rest hR15_2 hR15_3 hR15_4 => ?_
      obtain rfl := hR15_2
      obtain rfl := hR15_3
      obtain rfl := hR15_4
      have hy : y ∈ G.keys := by rw [q]; simp
      have hyd : y ∉ done := fun h => by
        have := H.ok.nodup
        rw [q] at this
        exact (List.nodup_append.mp this).2.2 y h y (List.mem_cons_self ..) rfl
      have dl : done.length ≤ 10 := by rw [q, List.length_append] at hlen; o_readsAll
      refine e1a1 (L.ch y hy) fun n1 ch => ?_
      have hl := hcs _ (L.key y hy) ch.end_
      have H3 := H.ext A1.ext
      have hc3 := A1.ext.at hc
      refine e2a4 A1.att fun ma na at1 at2 at3 at4 => ?_
      refine e1a1 A1.p fun ea pa => ?_
      have ia := A1.inst
      clear i1 i2 i3 i4 i5 i6 i7 i8 i9 i10 i11 i12 i13 i14 i15 d1 d2 d3 d4 d5 i1' i2' i3' i4' d1' x0
      refine GraphAt.elim H3 fun m nn e1 e2 e3 e4 i1 i2 i3 i4 i5 i6 i7 i8 i9 i10 i11 i12 i13 i14 i15 _ _ _ _ _ _ _ _ _ _ _ _ _ _ _ _ _ _ _ => ?_
      tb_start
      repeat (tb_rel; tb_start)
      refine Sp.mono (leader_spec B hK H3 hy ch) fun v τ' h => ?_
      refine e0a2 h fun hR19_0 hR19_1 => ?_
      clear h
      obtain rfl := hR19_0
      obtain rfl := hR19_1
      tb_start
      repeat (tb_rel; tb_start)
      rename_i e5
      have e6 : stored (dk done fun k => vi (plF G ld f xf k)) y (vi (f (ld y))) = dk (done ++ [y]) fun k => vi (plF G ld f xf k) := by
        rw [dk_new hyd]
        refine dk_congr fun j _ => ?_
        split
        · rename_i e; rw [e]; unfold plF; rw [if_pos hy]
        · rfl
      rw [e6]
      exact kn _ _ ⟨done ++ [y], rest, rfl, by rw [q]; simp, ⟨by o_shape, by o_shape, by o_shape, by o_shape, by o_shape⟩, A1.putP _ _ _⟩
  clear p1 p2 p3 p4 p5 A0
  intro ρ1 τ1 hI0
  refine e0a2 hI0 fun hN20_0 A1 => ?_
  clear hI0
  refine e0a5 hN20_0 fun p1 p2 p3 p4 p5 => ?_
  clear hN20_0
  refine exs_cut 1 (fun ρ τ => RA A PP S c1 x ρ ∧ AlAt σ τ x D P I (G.keys ++ xk.filter fun k => decide (xf k < 8)) (plF G ld f xf) (xk.filter fun k => !decide (xf k < 8)) xf) (fun K hQ => ?_) ?_
  · refine e2a6 HS.att fun ms ns s1 s2 s3 s4 s5 s6 => ?_
    refine e1a1 HS.fx fun ex s7 => ?_
    have s8 := HS.inst
    have x1 := A1.ext
    tb_start
    repeat (tb_rel; tb_start)
    refine fr_intro fun it hit => ?_
    have u1 : upd τ1 it (.items S.Fx) it = some (.items S.Fx) := upd_self _ _ _
    have xi := Ext.newF hit (.items S.Fx)
    have u2 := xi.at (x1.at s7)
    tb_start
    refine ho_for_items u1 u2 (by w_left) ?_
    have A2 := A1.more xi
    generalize upd τ1 it (.items S.Fx) = τ2 at *
    -- the view stands beside
    have u3 := u1
    have nP : it ≠ P := by obtain ⟨e, h⟩ := A1.p; exact (ne_of' hit h).symm
    have nI : it ≠ I := by obtain ⟨e, h⟩ := A1.i; exact (ne_of' hit h).symm
    refine fori_ind (fun xs ρ τ => ∃ done rest, xs = (dk rest fun k => vi (xf k)) ∧ xk = done ++ rest ∧ RA A PP S c1 x ρ ∧ τ it = some (.items S.Fx) ∧ AlAt σ τ x D P I (G.keys ++ done.filter fun k => decide (xf k < 8)) (plF G ld f xf) (done.filter fun k => !decide (xf k < 8)) xf) ?_ ?_ ?_ ⟨[], xk, rfl, rfl, ⟨by o_shape, by o_shape, by o_shape, by o_shape, by o_shape⟩, u1, by rw [List.filter_nil, List.filter_nil, List.append_nil]; exact A2⟩
    · intro xs ρ τ hI0
      refine e2a5 hI0 fun done rest _ _ _ h1 h => ?_
      clear hI0
      exact ⟨by rw [h1, u1], by rw [u1]; dsimp only; rw [u2]; exact h.ext.at s7⟩
    · intro ρ τ hI0
      refine e2a5 hI0 fun done rest q1 q p _ h => ?_
      clear hI0
      cases List.map_eq_nil_iff.mp q1.symm
      rw [List.append_nil] at q
      rw [← q] at h
      exact hQ _ _ ⟨p, h⟩
    · intro y v xs ρ τ hI0 K2 kn _ _ _
      refine e2a5 hI0 fun done rest q1 q hN26_4 hi A3 => ?_
      clear hI0
      refine e0a5 hN26_4 fun p1 p2 p3 p4 p5 => ?_
      clear hN26_4
      refine e1a3 (dk_cons q1) fun rest hR28_1 hR28_2 hR28_3 => ?_
      obtain rfl := hR28_1
      obtain rfl := hR28_2
      obtain rfl := hR28_3
      have hy : y ∈ xk := by rw [q]; simp
      have hyg := xd y hy
      have hyd : y ∉ done := fun h => by
        rw [q] at xn
        exact (List.nodup_append.mp xn).2.2 y h y (List.mem_cons_self ..) rfl
      have dl : done.length ≤ 10 := by rw [q, List.length_append] at xl; o_readsAll
      have fl1 := List.length_filter_le (fun k => decide (xf k < 8)) done
      have fl2 := List.length_filter_le (fun k => !decide (xf k < 8)) done
      refine e2a4 A3.att fun ma na at1 at2 at3 at4 => ?_
      refine e1a1 A3.p fun ea pa => ?_
      refine e1a1 A3.i fun eb pb => ?_
      have ia := A3.inst
      have nxt : done ++ y :: rest = (done ++ [y]) ++ rest := by simp
      have pl1 : (dk (G.keys ++ done.filter fun k => decide (xf k < 8)) fun k => vi (plF G ld f xf k)).length ≤ 10000 := by rw [dk_len, List.length_append]; o_readsAll
      have pl2 : (dk (done.filter fun k => !decide (xf k < 8)) fun k => vi (xf k)).length ≤ 10000 := by rw [dk_len]; o_readsAll
      clear x1
      tb_start
      repeat (tb_rel; tb_start)
      by_cases hlt : xf y < 8
      · rw [show decide (xf y < 8) = true from decide_eq_true hlt]
        tb_start
        repeat (tb_rel; tb_start)
        have e6 : stored (dk (G.keys ++ done.filter fun k => decide (xf k < 8)) fun k => vi (plF G ld f xf k)) y (vi (10 + xf y)) = dk (G.keys ++ (done ++ [y]).filter fun k => decide (xf k < 8)) fun k => vi (plF G ld f xf k) := by
          rw [dk_new (fun h => by
            rcases List.mem_append.mp h with h | h
            · exact hyg h
            · exact hyd (List.mem_filter.mp h).1)]
          have : (done ++ [y]).filter (fun k => decide (xf k < 8)) = done.filter (fun k => decide (xf k < 8)) ++ [y] := by
            rw [List.filter_append]; simp [hlt]
          rw [this, List.append_assoc]
          refine dk_congr fun j _ => ?_
          split
          · rename_i e; rw [e]; unfold plF; rw [if_neg hyg]
          · rfl
        rw [e6]
        refine kn _ _ ⟨done ++ [y], rest, rfl, by rw [q]; simp, ⟨by o_shape, by o_shape, by o_shape, by o_shape, by o_shape⟩, upd_some hi nP, (A3.putP _ _ _).eq rfl ?_⟩
        rw [List.filter_append]; simp [hlt]
      · rw [show decide (xf y < 8) = false from decide_eq_false hlt]
        tb_start
        repeat (tb_rel; tb_start)
        have e6 : stored (dk (done.filter fun k => !decide (xf k < 8)) fun k => vi (xf k)) y (vi (xf y)) = dk ((done ++ [y]).filter fun k => !decide (xf k < 8)) fun k => vi (xf k) := by
          rw [dk_new (fun h => hyd (List.mem_filter.mp h).1)]
          have : (done ++ [y]).filter (fun k => !decide (xf k < 8)) = done.filter (fun k => !decide (xf k < 8)) ++ [y] := by
            rw [List.filter_append]; simp [hlt]
          rw [this]
          refine dk_congr fun j _ => ?_
          split
          · rename_i e; rw [e]
          · rfl
        rw [e6]
        refine kn _ _ ⟨done ++ [y], rest, rfl, by rw [q]; simp, ⟨by o_shape, by o_shape, by o_shape, by o_shape, by o_shape⟩, upd_some hi nI, (A3.putI _ _ _).eq ?_ rfl⟩
        rw [List.filter_append]; simp [hlt]
  clear p1 p2 p3 p4 p5 A1
  intro ρ2 τ2 hI0
  refine e0a2 hI0 fun hN32_0 A2 => ?_
  clear hI0
  refine e0a5 hN32_0 fun p1 p2 p3 p4 p5 => ?_
  clear hN32_0
  have fl1 := List.length_filter_le (fun k => decide (xf k < 8)) xk
  have plen : (G.keys ++ xk.filter fun k => decide (xf k < 8)).length ≤ 20 := by rw [List.length_append]; o_readsAll
  generalize (G.keys ++ xk.filter fun k => decide (xf k < 8)) = pk at *
  generalize (xk.filter fun k => !decide (xf k < 8)) = ik at *
  generalize plF G ld f xf = pf at *
  have kpl := H2.n2
  -- fetched, given
  refine exs_cut 3 (fun ρ τ => RA A PP S c1 x ρ ∧ ∃ Dm m n gv gk e, Ext σ τ ∧ σ Dm = none ∧ ρ "given" = some (.ref gv) ∧ τ gv = some (.dict (ds gk) e) ∧ (∀ z, z ∈ gk ↔ ∃ k ∈ pk, pf k = z) ∧ τ x = some (.inst 58 Dm) ∧ τ Dm = some (.att m n) ∧ n ≤ 60 ∧ m "place" = some (.ref P) ∧ m "incoming" = some (.ref I) ∧ m "fetched" = some (.ref S.Ft) ∧
    (∃ e, τ P = some (.dict (dk pk fun k => vi (pf k)) e)) ∧ ∃ e, τ I = some (.dict (dk ik fun k => vi (xf k)) e)) (fun K hQ => ?_) ?_
  · refine e2a6 HS.att fun ms ns s1 s2 s3 s4 s5 s6 => ?_
    have s8 := HS.inst
    have s1' := A2.ext.at s1
    have s8' := A2.ext.at s8
    refine e2a4 A2.att fun ma na at1 at2 at3 at4 => ?_
    refine e1a1 A2.p fun ea pa => ?_
    refine e1a1 A2.i fun eb pb => ?_
    have ia := A2.inst
    have nDP : P ≠ D := ne_kind pa at1 nofun
    have nDI : I ≠ D := ne_kind pb at1 nofun
    have nxD : x ≠ D := ne_kind ia at1 nofun
    tb_start
    repeat (tb_rel; tb_start)
    have ite1 := ite_le (ma "fetched").isSome
    have x3 : Ext σ (upd τ2 D (.att (setR ma "fetched" (.ref S.Ft)) (na + if (ma "fetched").isSome = true then 0 else 1))) := A2.ext.put A2.nD _
    refine fr_intro2 fun gv eg hg => ?_
    tb_start
    repeat (tb_rel; tb_start)
    refine fr_intro fun vw hvw => ?_
    tb_start
    have pa' : upd (upd (upd τ2 D (.att (setR ma "fetched" (.ref S.Ft)) (na + if (ma "fetched").isSome = true then 0 else 1))) gv (.dict [] eg)) vw (.vals P) P = some (.dict (dk pk fun k => vi (pf k)) ea) := by o_reads
    have u1 : upd (upd (upd τ2 D (.att (setR ma "fetched" (.ref S.Ft)) (na + if (ma "fetched").isSome = true then 0 else 1))) gv (.dict [] eg)) vw (.vals P) vw = some (.vals P) := upd_self _ _ _
    refine ho_for (seq_vals u1 pa') (by rw [List.length_map]; o_readsAll) ?_
    have g1 : upd (upd (upd τ2 D (.att (setR ma "fetched" (.ref S.Ft)) (na + if (ma "fetched").isSome = true then 0 else 1))) gv (.dict [] eg)) vw (.vals P) gv = some (.dict (ds []) eg) := by show _ = some (MO.dict [] eg); o_reads
    have x4 := (x3.trans (Ext.newF hg (.dict [] eg))).trans (Ext.newF hvw (.vals P))
    have D1 : upd (upd (upd τ2 D (.att (setR ma "fetched" (.ref S.Ft)) (na + if (ma "fetched").isSome = true then 0 else 1))) gv (.dict [] eg)) vw (.vals P) D = some (.att (setR ma "fetched" (.ref S.Ft)) (na + if (ma "fetched").isSome = true then 0 else 1)) := by o_reads
    have I1 : upd (upd (upd τ2 D (.att (setR ma "fetched" (.ref S.Ft)) (na + if (ma "fetched").isSome = true then 0 else 1))) gv (.dict [] eg)) vw (.vals P) I = some (.dict (dk ik fun k => vi (xf k)) eb) := by o_reads
    have X1 : upd (upd (upd τ2 D (.att (setR ma "fetched" (.ref S.Ft)) (na + if (ma "fetched").isSome = true then 0 else 1))) gv (.dict [] eg)) vw (.vals P) x = some (.inst 58 D) := by o_reads
    have fg : σ gv = none := by
      have := x3.fr hg
      exact this
    have ngP : P ≠ gv := by o_fieldsN
    have ngD : D ≠ gv := by o_fieldsN
    have ngx : x ≠ gv := by o_fieldsN
    have ngI : I ≠ gv := by o_fieldsN
    have ngw : vw ≠ gv := by o_fieldsN
    have nle : na + (if (ma "fetched").isSome = true then 0 else 1) ≤ 60 := by o_readsAll
    have m1 : setR ma "fetched" (.ref S.Ft) "place" = some (.ref P) := (setR_ne _ _ (by decide)).trans at3
    have m2 : setR ma "fetched" (.ref S.Ft) "incoming" = some (.ref I) := (setR_ne _ _ (by decide)).trans at4
    have m3 : setR ma "fetched" (.ref S.Ft) "fetched" = some (.ref S.Ft) := setR_self _ _ _
    generalize upd (upd (upd τ2 D _) gv _) vw _ = τ3 at *
    generalize (na + if (ma "fetched").isSome = true then 0 else 1) = n3 at *
    generalize setR ma "fetched" (.ref S.Ft) = m3' at *
    have evl : (pk.map fun k => vi (pf k)) = (pk.map pf).map vi := by rw [List.map_map]; rfl
    rw [evl]
    refine for_ind (fun xs ρ τ => ∃ done rest gk e, xs = List.map vi rest ∧ pk.map pf = done ++ rest ∧ RA A PP S c1 x ρ ∧ ρ "given" = some (.ref gv) ∧ τ = upd τ3 gv (.dict (ds gk) e) ∧ (∀ z, z ∈ gk ↔ z ∈ done) ∧ gk.length ≤ done.length) ?_ ?_ ?_ ⟨[], pk.map pf, [], eg, rfl, rfl, ⟨by o_shape, by o_shape, by o_shape, by o_shape, by o_shape⟩, by o_shape, ?_, fun z => Iff.rfl, Nat.le_refl _⟩
    · intro xs ρ τ hI0
      refine e4a6 hI0 fun done rest gk e _ _ _ _ hR38_8 _ => ?_
      clear hI0
      obtain rfl := hR38_8
      exact ⟨by rw [upd_ne _ _ ngw], by rw [u1]; exact upd_ne _ _ ngP⟩
    · intro ρ τ hI0
      refine e4a7 hI0 fun done rest gk e q1 q p pg hR39_8 hz _ => ?_
      clear hI0
      obtain rfl := hR39_8
      cases List.map_eq_nil_iff.mp q1.symm
      rw [List.append_nil] at q
      refine hQ _ _ ⟨p, D, m3', n3, gv, gk, e, x4.put fg _, A2.nD, pg, upd_self _ _ _, fun z => ?_, upd_some X1 ngx, upd_some D1 ngD, nle, m1, m2, m3, ⟨_, upd_some pa' ngP⟩, ⟨_, upd_some I1 ngI⟩⟩
      rw [hz, ← q, List.mem_map]
    · intro v xs ρ τ hI0 K2 kn _ _ _
      refine e4a7 hI0 fun done rest gk e q1 q hN40_6 pg hR40_8 hz hl => ?_
      clear hI0
      refine e0a5 hN40_6 fun p1 p2 p3 p4 p5 => ?_
      clear hN40_6
      obtain rfl := hR40_8
      refine e2a3 (map_cons q1) fun y rest hR42_2 hR42_3 hR42_4 => ?_
      obtain rfl := hR42_2
      obtain rfl := hR42_3
      obtain rfl := hR42_4
      have dl : done.length ≤ 20 := by
        have := congrArg List.length q
        rw [List.length_map, List.length_append] at this; o_readsAll
      have g2 : upd τ3 gv (.dict (ds gk) e) gv = some (.dict (ds gk) e) := upd_self _ _ _
      tb_start
      repeat (tb_rel; tb_start)
      rw [upd_upd, ds_add]
      refine kn _ _ ⟨done ++ [y], rest, addK gk y, _, rfl, by rw [q]; simp, ⟨by o_shape, by o_shape, by o_shape, by o_shape, by o_shape⟩, by o_shape, rfl, fun z => ?_, ?_⟩
      · rw [mem_addK, hz, List.mem_append, List.mem_singleton]
      · have := len_addK gk y
        rw [List.length_append, List.length_singleton]; o_readsAll
    · funext b
      by_cases h : b = gv
      · subst h; rw [upd_self]; exact g1
      · rw [upd_ne _ _ h]
  · clear p1 p2 p3 p4 p5
    intro ρ3 τ3 hI0
    refine hideG fun PG kG => ?_
    obtain ⟨⟨p1, p2, p3, p4, p5⟩, Dm, m3, n3, gv, gk, eg, x3, fD, pg, g1, hgk, X1, D1, nle, m1, m2, m4, ⟨ep, hP⟩, ⟨ei, hI⟩⟩ := hI0
    refine kG ?_
    clear kG PG
    refine e2a6 HS.att fun ms ns s1 s2 s3 s4 s5 s6 => ?_
    have s8 := HS.inst
    have P2 := H2.ext x3
    refine e2a4 P2.att fun mp np j1 j2 j3 j4 => ?_
    have j5 := P2.inst
    have j6 := P2.lk
    have s1' := x3.at s1
    have s8' := x3.at s8
    have nDS : S.D ≠ Dm := fun e => by rw [e, fD] at s1; cases s1
    have nPD : P ≠ Dm := ne_kind hP D1 nofun
    have nID : I ≠ Dm := ne_kind hI D1 nofun
    have nxD : x ≠ Dm := ne_kind X1 D1 nofun
    have nsD : S.s ≠ Dm := ne_kind s8' D1 nofun
    tb_start
    repeat (tb_rel; tb_start)
    refine ho_comp (seq_list j6) (by w_left) (fr_intro fun c hc => ?_)
    refine comp_int (fun ρ => ρ "given" = some (.ref gv)) kp (fun n => decide (n ∈ gk)) vi (by o_readsAll) (fun l => stay_list j6 (by o_reads)) ?_ (by o_shape) ?_
    · intro y hy ρ l Kc hr hl kt kf
      tb_start
      repeat (tb_rel; tb_start)
      have g2 : upd τ3 c (.list l) gv = some (.dict (ds gk) eg) := by o_reads
      refine ho_in_dict g2 (fun hx => ?_) (fun hx => ?_)
      · tb_start
        repeat (tb_rel; tb_start)
        rw [upd_upd]
        exact kt _ ((setR_ne _ _ (by decide)).trans hr) (by simpa using hx)
      · tb_start
        exact kf _ ((setR_ne _ _ (by decide)).trans hr) (by simpa using hx)
    · have fk := List.length_filter_le (fun n => decide (n ∈ gk)) kp
      tb_start
      refine ho_sorted (upd_self _ _ _) (by o_readsAll) (fun sl hp hs => fr_intro fun cs' hcs' => ?_)
      have ite1 := ite_le (m3 "saved_used").isSome
      have ite2 := ite_le (setR m3 "saved_used" (.ref cs') "spills").isSome
      tb_start
      repeat (tb_rel; tb_start)
      refine ⟨x, sl, rfl, ?_, ⟨Dm, _, _, P, I, cs', ep, ei, by o_reads, by o_reads, by o_shape, by o_shape, by o_shape, by o_shape, by o_shape, by o_reads, by o_reads, by o_reads⟩, hs, ?_⟩
      · exact (((x3.trans ((Ext.newF hc _).trans (Ext.newF hcs' _))).put fD _).put fD _)
      · refine hp.trans ?_
        rw [List.filter_congr fun n _ => ?_]
        rw [decide_eq_decide]; exact hgk n
end
theorem comp_ind {P : Px} {tgt : Expr} {ifs : List Expr} {elt : Expr} {fe : Expr → Rho → Hp → EQ → Prop} {ft : Expr → Rho → Hp → TQ → Prop} {it acc : Addr} {σ₀ : Hp} {K : Hp → Prop} (I : List Value → Rho → Hp → Prop) (hs : ∀ xs ρ σ, I xs ρ σ → stay it σ₀ σ) (fin : ∀ ρ σ, I [] ρ σ → K σ)
    (step : ∀ x xs ρ σ, I (x :: xs) ρ σ → ∀ Kc : Rho → Hp → Prop, (∀ ρ σ, I xs ρ σ → Kc ρ σ) → tgtP P tgt x ρ σ fun ρ => testsW (fun e => ft e ρ) ifs σ fun ok σ => match ok with
      | true => fe elt ρ σ fun v σ => Hold (appendP acc v σ fun _ σ => Kc ρ σ)
      | false => Kc ρ σ) {xs : List Value} {ρ : Rho} {σ : Hp} (h : I xs ρ σ) : compL P tgt ifs elt fe ft it σ₀ acc xs ρ σ K :=
  compL_ind I hs fin (fun x xs ρ σ hi ih => step x xs ρ σ hi _ ih) xs ρ σ h
theorem mem_upN {n : Nat} {y : Int} : y ∈ upN n ↔ 0 ≤ y ∧ y < n := by
  unfold upN
  rw [List.mem_map]
  constructor
  · intro hI0
    refine e1a2 hI0 fun i hi hR0_2 => ?_
    clear hI0
    obtain rfl := hR0_2
    rw [List.mem_range] at hi
    exact ⟨Int.natCast_nonneg i, by simpa using hi⟩
  · intro hI0
    refine e0a2 hI0 fun h1 h2 => ?_
    clear hI0
    exact ⟨y.toNat, by rw [List.mem_range]; o_readsAll, by show ((y.toNat : Nat) : Int) = y; o_readsAll⟩
theorem len_upN (n : Nat) : (upN n).length = n := by unfold upN; rw [List.length_map, List.length_range]
theorem nodup_upN (n : Nat) : (upN n).Nodup := by
  unfold upN
  exact List.Pairwise.map _ (fun a b h e => h (Int.ofNat.inj e)) List.nodup_range
theorem WellAt.ext {σ τ : Hp} {w g : Addr} (H : WellAt σ w g) (e : Ext σ τ) : WellAt τ w g := let ⟨a, l, ns, h1, h2, h3⟩ := H.at_; ⟨a, l, ns, e.at h1, e.at h2, h3⟩
theorem WellAt.kind {τ : Hp} {w g : Addr} (H : WellAt τ w g) : ∃ kvs, τ w = some (.sd kvs) := let ⟨_, _, _, h, _⟩ := H.at_; ⟨_, h⟩
theorem WellAt.ne {τ : Hp} {w g b : Addr} {x : MO} (H : WellAt τ w g) (h : τ b = some x) (hx : ∀ k, x ≠ .sd k) : b ≠ w := let ⟨_, q⟩ := H.kind; ne_kind h q (hx _)
theorem WellAt.giv {τ : Hp} {w g : Addr} (H : WellAt τ w g) : ∃ ns : List Int, τ g = some (.list (ns.map vi)) ∧ ns.length ≤ 100 := let ⟨_, _, ns, _, h, _, h'⟩ := H.at_; ⟨ns, h, h'⟩
/-- the well above what stands -/
structure WB (β τ : Hp) (w g : Addr) : Prop where
  ext : Ext β τ
  nw : β w = none
  giv : ∃ ns : List Int, β g = some (.list (ns.map vi)) ∧ ns.length ≤ 100
  wat : ∃ a l : Int, τ w = some (.sd [("given", .ref g), ("at", vi a), ("last", vi l)]) ∧ 0 ≤ a
theorem WB.well {β τ : Hp} {w g : Addr} (H : WB β τ w g) : WellAt τ w g := let ⟨a, l, h, h'⟩ := H.wat; let ⟨ns, q, q'⟩ := H.giv; ⟨a, l, ns, h, H.ext.at q, h', q'⟩
theorem WB.draw {β τ τ' : Hp} {w g : Addr} (H : WB β τ w g) (h : WellAt τ' w g) (h' : ∀ b, b ≠ w → τ' b = τ b) : WB β τ' w g := ⟨fun b x q => by rw [h' b (ne_of q H.nw)]; exact H.ext b x q, H.nw, H.giv, let ⟨a, l, _, h1, _, h3, _⟩ := h.at_; ⟨a, l, h1, h3⟩⟩
theorem WB.more {β τ τ' : Hp} {w g : Addr} (H : WB β τ w g) (e : Ext τ τ') : WB β τ' w g := ⟨H.ext.trans e, H.nw, H.giv, let ⟨a, l, h, h'⟩ := H.wat; ⟨a, l, e.at h, h'⟩⟩
theorem WB.put {β τ : Hp} {w g b : Addr} (H : WB β τ w g) (hb : β b = none) (hw : b ≠ w) (x : MO) : WB β (upd τ b x) w g := ⟨H.ext.put hb x, H.nw, H.giv, let ⟨a, l, h, h'⟩ := H.wat; ⟨a, l, upd_some h hw.symm, h'⟩⟩
theorem WB.down {β β' τ : Hp} {w g : Addr} (H : WB β' τ w g) (e : Ext β β') (hg : ∃ ns : List Int, β g = some (.list (ns.map vi)) ∧ ns.length ≤ 100) : WB β τ w g := ⟨e.trans H.ext, e.none H.nw, hg, H.wat⟩
theorem WB.hide {τ : Hp} {w g : Addr} (H : WellAt τ w g) {c : Addr} (hc : g ≠ c) : WB (hide w c τ) τ w g := ⟨hide_ext, hide_1, let ⟨ns, h, h'⟩ := H.giv; ⟨ns, hide_at h (H.ne h nofun) hc, h'⟩, let ⟨a, l, _, h1, _, h3, _⟩ := H.at_; ⟨a, l, h1, h3⟩⟩
theorem WB.hide1 {τ : Hp} {w g : Addr} (H : WellAt τ w g) : WB (Mine.hide w w τ) τ w g := let ⟨_, h, _⟩ := H.giv; WB.hide H (H.ne h nofun)
section
variable {C : Cx} (B : Bs C) (hK : KOk C.K) {k : Nat} {β τ : Hp} {w g : Addr}
include B hK
theorem draw_wb (H : WB β τ w g) {size : Int} (hs : 0 < size) : Sp C (k + 1) (.ref 262) [.ref w, vi size] τ fun v τ' => ∃ r, v = vi r ∧ 0 ≤ r ∧ r < size ∧ WB β τ' w g :=
  (draw_spec B hK hs H.well).mono fun _ _ ⟨r, h1, h2, h3, h4, h5⟩ => ⟨r, h1, h2, h3, H.draw h4 h5⟩
end
/-- a drawn picture -/
structure PicAt (σ : Hp) (t : Addr) (n : Nat) (rs : List (Addr × Int × Int)) (crs cst : List Int) (ts : List (Addr × Int × Int × Int)) : Prop where
  at_ : ∃ a1 a2 a3 a4, σ t = some (.tup [.ref a1, .ref a2, .ref a3, .ref a4]) ∧ σ a1 = some (.list (rs.map fun r => .ref r.1)) ∧ σ a2 = some (.list (crs.map vi)) ∧ σ a3 = some (.list (cst.map vi)) ∧ σ a4 = some (.list (ts.map fun r => .ref r.1))
  prs : ∀ r ∈ rs, σ r.1 = some (.tup [vi r.2.1, vi r.2.2]) ∧ 0 ≤ r.2.2 ∧ r.2.2 < r.2.1 ∧ r.2.1 < n
  tws : ∀ r ∈ ts, σ r.1 = some (.tup [vi r.2.1, vi r.2.2.1, vi r.2.2.2]) ∧ 0 ≤ r.2.2.1 ∧ r.2.2.1 < n ∧ 0 ≤ r.2.2.2 ∧ r.2.2.2 < n
  l1 : rs.length ≤ 100
  l2 : crs.length ≤ 10
  l3 : cst.length = n
  l4 : ts.length ≤ 3
theorem PicAt.ext {σ τ : Hp} {t : Addr} {n : Nat} {rs : List (Addr × Int × Int)} {crs cst : List Int} {ts : List (Addr × Int × Int × Int)} (H : PicAt σ t n rs crs cst ts) (e : Ext σ τ) : PicAt τ t n rs crs cst ts :=
  ⟨let ⟨a1, a2, a3, a4, h1, h2, h3, h4, h5⟩ := H.at_; ⟨a1, a2, a3, a4, e.at h1, e.at h2, e.at h3, e.at h4, e.at h5⟩, fun r hr => ⟨e.at (H.prs r hr).1, (H.prs r hr).2⟩, fun r hr => ⟨e.at (H.tws r hr).1, (H.tws r hr).2⟩, H.l1, H.l2, H.l3, H.l4⟩
section
variable {C : Cx} (B : Bs C) (hK : KOk C.K) {k : Nat} {σ : Hp} {w g : Addr} {n : Nat}
include B hK
theorem picture_spec (HW : WellAt σ w g) (h2 : 2 ≤ n) (h7 : n ≤ 7) : Sp C (k + 2) (.ref 267) [.ref w, vi n] σ fun v σ' => ∃ t rs crs cst ts β, v = .ref t ∧ WB β σ' w g ∧ Ext (hide w w σ) β ∧ PicAt β t n rs crs cst ts := by
  refine fn_startL B (fn_267 hK) lk_267_dbg rfl rfl ?_
  intro PX
  -- pairs
  refine exs_cut 2 (fun ρ τ => ρ "well" = some (.ref w) ∧ ρ "many" = some (vi n) ∧ ∃ (a1 : Addr) (rs : List (Addr × Int × Int)) (β : Hp), ρ "pairs" = some (.ref a1) ∧ WB β τ w g ∧ Ext (hide w w σ) β ∧ β a1 = some (.list (rs.map fun r : Addr × Int × Int => .ref r.1)) ∧ (∀ r ∈ rs, β r.1 = some (.tup [vi r.2.1, vi r.2.2]) ∧ 0 ≤ r.2.2 ∧ r.2.2 < r.2.1 ∧ r.2.1 < n) ∧ rs.length ≤ 100) (fun K hQ => ?_) ?_
  · tb_start
    repeat (tb_rel; tb_start)
    refine fr_intro fun a1 h1 => ?_
    tb_start
    repeat (tb_rel; tb_start)
    refine ho_range (by o_readsAll) (by o_readsAll) (fr_intro fun c hc => ?_)
    rw [Int.toNat_natCast]
    have x1 := (Ext.newF h1 (.list [])).trans (Ext.newF hc (.rng n))
    have u1 : upd (upd σ a1 (.list [])) c (.rng n) a1 = some (.list []) := by o_reads
    have u2 : upd (upd σ a1 (.list [])) c (.rng n) c = some (.rng n) := upd_self _ _ _
    tb_start
    refine ho_for (seq_rng u2) (by show ((upN n).map vi).length ≤ _; rw [List.length_map, len_upN]; o_readsAll) ?_
    have W0 := HW.ext x1
    have aw : a1 ≠ w := W0.ne u1 nofun
    have ga : g ≠ a1 := by
      refine e1a2 HW.giv fun ns h _ => ?_
      exact ne_of' h1 h
    have ca : c ≠ a1 := ne_kind u2 u1 nofun
    have B0 : WB (hide w a1 (upd (upd σ a1 (.list [])) c (.rng n))) (upd (upd σ a1 (.list [])) c (.rng n)) w g := WB.hide W0 ga
    have Ba : hide w a1 (upd (upd σ a1 (.list [])) c (.rng n)) a1 = none := hide_2
    have Bc := hide_at (c1 := w) (c2 := a1) u2 (W0.ne u2 nofun) ca
    have Bx : Ext (hide w w σ) (hide w a1 (upd (upd σ a1 (.list [])) c (.rng n))) := ext_hide (hide_ext.trans x1) hide_1 (by
      unfold hide; split
      · rfl
      · exact h1.out)
    generalize upd (upd σ a1 (.list [])) c (.rng n) = τ0 at *
    generalize hide w a1 τ0 = β at *
    refine for_ind (fun xs ρ τ => ∃ (done rest : List Int) (rs : List (Addr × Int × Int)), xs = List.map vi rest ∧ upN n = done ++ rest ∧ ρ "well" = some (.ref w) ∧ ρ "many" = some (vi n) ∧ ρ "pairs" = some (.ref a1) ∧ WB β τ w g ∧ τ a1 = some (.list (rs.map fun r : Addr × Int × Int => .ref r.1)) ∧ (∀ r ∈ rs, τ r.1 = some (.tup [vi r.2.1, vi r.2.2]) ∧ 0 ≤ r.2.2 ∧ r.2.2 < r.2.1 ∧ r.2.1 < n) ∧ rs.length ≤ 10 * done.length) ?_ ?_ ?_
      ⟨[], upN n, [], rfl, rfl, by o_shape, by o_shape, by o_shape, B0, u1, nofun, Nat.le_refl _⟩
    · intro xs ρ τ hI0
      refine e3a7 hI0 fun _ _ _ _ _ _ _ _ h _ => ?_
      clear hI0
      exact stay_rng u2 (h.ext.at Bc)
    · intro ρ τ hI0
      refine e3a9 hI0 fun done rest rs q1 q p1 p2 p3 h h3 h4 h5 => ?_
      clear hI0
      have dl : done.length ≤ 7 := by
        have := congrArg List.length q
        rw [len_upN, List.length_append] at this; o_readsAll
      refine hQ _ _ ⟨p1, p2, a1, rs, hide w w τ, p3, WB.hide1 h.well, ?_, hide_at h3 (h.well.ne h3 nofun) (h.well.ne h3 nofun), fun r hr => ⟨hide_at (h4 r hr).1 (h.well.ne (h4 r hr).1 nofun) (h.well.ne (h4 r hr).1 nofun), (h4 r hr).2⟩, by o_readsAll⟩
      exact ext_hide (Bx.trans h.ext) hide_1 hide_1
    · intro v xs ρ τ hI0 K2 kn _ _ _
      refine e3a9 hI0 fun done rest rs q1 q p1 p2 p3 Hw h3 h4 h5 => ?_
      clear hI0
      refine e2a3 (map_cons q1) fun y rest hR7_2 hR7_3 hR7_4 => ?_
      obtain rfl := hR7_2
      obtain rfl := hR7_3
      obtain rfl := hR7_4
      have hy := mem_upN.mp (show y ∈ upN n by rw [q]; simp)
      have dl : done.length ≤ 7 := by
        have := congrArg List.length q
        rw [len_upN, List.length_append] at this; o_readsAll
      -- what stands, but for the well
      have B1 := WB.hide1 Hw.well
      have b1 := hide_at (c1 := w) (c2 := w) h3 (Hw.well.ne h3 nofun) (Hw.well.ne h3 nofun)
      have b2 : ∀ r ∈ rs, hide w w τ r.1 = some (.tup [vi r.2.1, vi r.2.2]) := fun r hr => hide_at (h4 r hr).1 (Hw.well.ne (h4 r hr).1 nofun) (Hw.well.ne (h4 r hr).1 nofun)
      have bx : Ext β (hide w w τ) := ext_hide Hw.ext Hw.nw Hw.nw
      generalize hide w w τ = β2 at *
      tb_start
      repeat (tb_rel; tb_start)
      refine Sp.mono (draw_wb B hK B1 (by decide)) fun v τ1 h => ?_
      refine e1a4 h fun o hR8_1 _ _ W1 => ?_
      clear h
      obtain rfl := hR8_1
      have v1 := W1.ext.at b1
      have v2 : ∀ r ∈ rs, τ1 r.1 = some (.tup [vi r.2.1, vi r.2.2]) := fun r hr => W1.ext.at (b2 r hr)
      tb_start
      repeat (tb_rel; tb_start)
      refine ho_range (by o_readsAll) (by o_readsAll) (fr_intro fun c2 hc2 => ?_)
      have x2 := Ext.newF hc2 (.rng y.toNat)
      have z1 := x2.at v1
      have z2 : upd τ1 c2 (.rng y.toNat) c2 = some (.rng y.toNat) := upd_self _ _ _
      have W2 := W1.more x2
      have z3 : ∀ r ∈ rs, upd τ1 c2 (.rng y.toNat) r.1 = some (.tup [vi r.2.1, vi r.2.2]) := fun r hr => x2.at (v2 r hr)
      tb_start
      refine ho_comp (seq_rng z2) (by show ((upN y.toNat).map vi).length ≤ _; rw [List.length_map, len_upN]; o_readsAll) (fr_intro fun acc hacc => ?_)
      generalize upd τ1 c2 (.rng y.toNat) = τ2 at *
      have accn : acc ≠ a1 := (ne_of' hacc z1).symm
      refine comp_ind (fun xs ρ τ => ∃ (done rest : List Int) (l : List (Addr × Int × Int)), xs = List.map vi rest ∧ upN y.toNat = done ++ rest ∧ ρ "cell" = some (vi y) ∧ ρ "ones_here" = some (vi o) ∧ Ext τ2 τ ∧ τ acc = some (.list (l.map fun r : Addr × Int × Int => .ref r.1)) ∧ (∀ r ∈ l, τ r.1 = some (.tup [vi r.2.1, vi r.2.2]) ∧ 0 ≤ r.2.2 ∧ r.2.2 < r.2.1 ∧ r.2.1 < n) ∧ l.length ≤ done.length) ?_ ?_ ?_ ⟨[], upN y.toNat, [], rfl, rfl, by o_shape, by o_shape, Ext.newF hacc _, upd_self _ _ _, nofun, Nat.le_refl _⟩
      · intro xs ρ τ hI0
        refine e3a6 hI0 fun _ _ _ _ _ _ _ h _ => ?_
        clear hI0
        exact stay_rng z2 (h.at z2)
      · intro ρ3 τ3 hI0
        refine e3a8 hI0 fun d3 r3 l q1 q3 _ _ x3 u3 u4 u5 => ?_
        clear hI0
        have d3l : d3.length ≤ 7 := by
          have := congrArg List.length q3
          rw [len_upN, List.length_append] at this; o_readsAll
        have z1' := x3.at z1
        tb_start
        repeat (tb_rel; tb_start)
        refine kn _ _ ⟨done ++ [y], rest, rs ++ l, rfl, by rw [q]; simp, by o_shape, by o_shape, by o_shape, ?_, ?_, ?_, ?_⟩
        · exact (((W2.more x3).down bx Hw.giv).put Ba aw _)
        · rw [List.map_append]; exact upd_self _ _ _
        · intro r hr
          rcases List.mem_append.mp hr with h | h
          · have := x3.at (z3 r h)
            exact ⟨upd_some this (ne_kind this z1' nofun), (h4 r h).2⟩
          · exact ⟨upd_some (u4 r h).1 (ne_kind (u4 r h).1 z1' nofun), (u4 r h).2⟩
        · rw [List.length_append, List.length_append, List.length_singleton]; o_readsAll
      · intro v xs ρ3 τ3 hI0 Kc kc
        refine e3a8 hI0 fun d3 r3 l q1 q3 s1 s2 x3 u3 u4 u5 => ?_
        clear hI0
        refine e2a3 (map_cons q1) fun z r3 hR12_2 hR12_3 hR12_4 => ?_
        obtain rfl := hR12_2
        obtain rfl := hR12_3
        obtain rfl := hR12_4
        have hz := mem_upN.mp (show z ∈ upN y.toNat by rw [q3]; simp)
        have hz0 := hz.1
        have d3l : d3.length ≤ 7 := by
          have := congrArg List.length q3
          rw [len_upN, List.length_append] at this; o_readsAll
        tb_start
        repeat (tb_rel; tb_start)
        intro b1
        tb_start
        repeat (tb_rel; tb_start)
        intro b2
        tb_start
        refine on_bool (fun _ => ?_) (fun _ => ?_)
        · tb_start
          repeat (tb_rel; tb_start)
          refine fr_intro fun tp htp => ?_
          tb_start
          repeat (tb_rel; tb_start)
          have x4 := Ext.newF htp (.tup [vi y, vi z])
          have s5 := x4.at u3
          have s6 : upd τ3 tp (.tup [vi y, vi z]) tp = some (.tup [vi y, vi z]) := upd_self _ _ _
          refine kc _ _ ⟨d3 ++ [z], r3, l ++ [(tp, y, z)], rfl, by rw [q3]; simp, by o_shape, by o_shape, (x3.trans x4).put hacc.out _, by rw [List.map_append]; exact upd_self _ _ _, fun r hr => ?_, by simp only [List.length_append, List.length_singleton]; o_readsAll⟩
          rcases List.mem_append.mp hr with h | h
          · have := x4.at (u4 r h).1
            exact ⟨upd_some this (ne_kind this s5 nofun), (u4 r h).2⟩
          · cases List.mem_singleton.mp h
            exact ⟨upd_some s6 (ne_kind s6 s5 nofun), hz.1, by show z < y; o_readsAll, hy.2⟩
        · tb_start
          refine kc _ _ ⟨d3 ++ [z], r3, l, rfl, by rw [q3]; simp, by o_shape, by o_shape, x3, u3, u4, by rw [List.length_append]; o_readsAll⟩
  -- crossing
  intro ρ1 τ1 hI0
  refine hideG fun PG kG => ?_
  obtain ⟨p1, p2, a1, rs, β1, p3, W1, x1, f1, f2, f3⟩ := hI0
  refine kG ?_
  clear kG PG
  refine exs_cut 2 (fun ρ τ => ρ "well" = some (.ref w) ∧ ρ "many" = some (vi n) ∧ ρ "pairs" = some (.ref a1) ∧ ∃ (a2 : Addr) (crs : List Int) (β : Hp), ρ "crossing" = some (.ref a2) ∧ WB β τ w g ∧ Ext β1 β ∧ β a2 = some (.list (crs.map vi)) ∧ crs.length ≤ 10) (fun K hQ => ?_) ?_
  · tb_start
    repeat (tb_rel; tb_start)
    refine Sp.mono (draw_wb B hK W1 (by decide)) fun v τ2 h => ?_
    refine e1a4 h fun o hR14_1 _ _ W2 => ?_
    clear h
    obtain rfl := hR14_1
    tb_start
    repeat (tb_rel; tb_start)
    refine ho_range (by o_readsAll) (by o_readsAll) (fr_intro fun c hc => ?_)
    rw [Int.toNat_natCast]
    have W3 := W2.more (Ext.newF hc (.rng n))
    have u2 : upd τ2 c (.rng n) c = some (.rng n) := upd_self _ _ _
    tb_start
    refine ho_comp (seq_rng u2) (by show ((upN n).map vi).length ≤ _; rw [List.length_map, len_upN]; o_readsAll) (fr_intro fun acc hacc => ?_)
    generalize upd τ2 c (.rng n) = τ3 at *
    refine comp_ind (fun xs ρ τ => ∃ (done rest l : List Int), xs = List.map vi rest ∧ upN n = done ++ rest ∧ ρ "ones_here" = some (vi o) ∧ τ = upd τ3 acc (.list (l.map vi)) ∧ l.length ≤ done.length) ?_ ?_ ?_ ⟨[], upN n, [], rfl, rfl, by o_shape, rfl, Nat.le_refl _⟩
    · intro xs ρ τ hI0
      refine e3a5 hI0 fun _ _ _ _ _ _ hR15_6 _ => ?_
      clear hI0
      obtain rfl := hR15_6
      exact stay_rng u2 (upd_some u2 (ne_of' hacc u2))
    · intro ρ τ hI0
      refine e3a5 hI0 fun done rest l q1 q _ hR16_6 hl => ?_
      clear hI0
      obtain rfl := hR16_6
      have dl : done.length ≤ 7 := by
        have := congrArg List.length q
        rw [len_upN, List.length_append] at this; o_readsAll
      have W4 := W3.more (Ext.newF hacc (.list (l.map vi)))
      have u3 : upd τ3 acc (.list (l.map vi)) acc = some (.list (l.map vi)) := upd_self _ _ _
      tb_start
      exact hQ _ _ ⟨by o_shape, by o_shape, by o_shape, acc, l, _, by o_shape, WB.hide1 W4.well, ext_hide W4.ext W4.nw W4.nw, hide_at u3 (W4.well.ne u3 nofun) (W4.well.ne u3 nofun), by o_readsAll⟩
    · intro v xs ρ τ hI0 Kc kc
      refine e3a5 hI0 fun done rest l q1 q s1 hR17_6 hl => ?_
      clear hI0
      obtain rfl := hR17_6
      refine e2a3 (map_cons q1) fun z rest hR18_2 hR18_3 hR18_4 => ?_
      obtain rfl := hR18_2
      obtain rfl := hR18_3
      obtain rfl := hR18_4
      have hz := mem_upN.mp (show z ∈ upN n by rw [q]; simp)
      have hz0 := hz.1
      have dl : done.length ≤ 7 := by
        have := congrArg List.length q
        rw [len_upN, List.length_append] at this; o_readsAll
      tb_start
      repeat (tb_rel; tb_start)
      intro b1
      tb_start
      repeat (tb_rel; tb_start)
      intro b2
      tb_start
      refine on_bool (fun _ => ?_) (fun _ => ?_)
      · tb_start
        repeat (tb_rel; tb_start)
        rw [upd_upd]
        exact kc _ _ ⟨done ++ [z], rest, l ++ [z], rfl, by rw [q]; simp, by o_shape, by rw [List.map_append]; rfl, by simp only [List.length_append, List.length_singleton]; o_readsAll⟩
      · tb_start
        exact kc _ _ ⟨done ++ [z], rest, l, rfl, by rw [q]; simp, by o_shape, rfl, by rw [List.length_append]; o_readsAll⟩
  clear W1 p1 p2 p3
  intro ρ2 τ2 hI0
  refine hideG fun PG kG => ?_
  obtain ⟨p1, p2, p3, a2, crs, β2, p4, W2, x2, f4, f5⟩ := hI0
  refine kG ?_
  clear kG PG
  -- costs
  refine exs_cut 1 (fun ρ τ => ρ "well" = some (.ref w) ∧ ρ "many" = some (vi n) ∧ ρ "pairs" = some (.ref a1) ∧ ρ "crossing" = some (.ref a2) ∧ ∃ (a3 : Addr) (cst : List Int) (β : Hp), ρ "costs" = some (.ref a3) ∧ WB β τ w g ∧ Ext β2 β ∧ β a3 = some (.list (cst.map vi)) ∧ cst.length = n) (fun K hQ => ?_) ?_
  · tb_start
    repeat (tb_rel; tb_start)
    refine ho_range (by o_readsAll) (by o_readsAll) (fr_intro fun c hc => ?_)
    rw [Int.toNat_natCast]
    have W3 := W2.more (Ext.newF hc (.rng n))
    have u2 : upd τ2 c (.rng n) c = some (.rng n) := upd_self _ _ _
    tb_start
    refine ho_comp (seq_rng u2) (by show ((upN n).map vi).length ≤ _; rw [List.length_map, len_upN]; o_readsAll) (fr_intro fun acc hacc => ?_)
    generalize upd τ2 c (.rng n) = τ3 at *
    have B3 := WB.hide1 W3.well
    have bx : Ext β2 (hide w w τ3) := ext_hide W3.ext W3.nw W3.nw
    have bc := hide_at u2 (W3.well.ne u2 nofun) (W3.well.ne u2 nofun)
    have ba : hide w w τ3 acc = none := hide_ext.none hacc.out
    generalize hide w w τ3 = β3 at *
    have accw : acc ≠ w := by
      refine e1a1 W3.well.kind fun _ h => ?_
      exact (ne_of' hacc h).symm
    refine comp_ind (fun xs ρ τ => ∃ (done rest l : List Int), xs = List.map vi rest ∧ upN n = done ++ rest ∧ ρ "well" = some (.ref w) ∧ WB β3 τ w g ∧ τ acc = some (.list (l.map vi)) ∧ l.length = done.length) ?_ ?_ ?_ ⟨[], upN n, [], rfl, rfl, by o_shape, B3.more (Ext.newF hacc _), upd_self _ _ _, rfl⟩
    · intro xs ρ τ hI0
      refine e3a5 hI0 fun _ _ _ _ _ _ h _ => ?_
      clear hI0
      exact stay_rng u2 (h.ext.at bc)
    · intro ρ τ hI0
      refine e3a6 hI0 fun done rest l q1 q _ W4 u3 hl => ?_
      clear hI0
      cases List.map_eq_nil_iff.mp q1.symm
      tb_start
      refine hQ _ _ ⟨by o_shape, by o_shape, by o_shape, by o_shape, acc, l, _, by o_shape, WB.hide1 W4.well, bx.trans (ext_hide W4.ext W4.nw W4.nw), hide_at u3 (W4.well.ne u3 nofun) (W4.well.ne u3 nofun), ?_⟩
      rw [hl, ← List.append_nil done, ← q, len_upN]
    · intro v xs ρ τ hI0 Kc kc
      refine e3a6 hI0 fun done rest l q1 q s1 W4 u3 hl => ?_
      clear hI0
      refine e2a3 (map_cons q1) fun z rest hR24_2 hR24_3 hR24_4 => ?_
      obtain rfl := hR24_2
      obtain rfl := hR24_3
      obtain rfl := hR24_4
      have dl : done.length ≤ 7 := by
        have := congrArg List.length q
        rw [len_upN, List.length_append] at this; o_readsAll
      have B5 := WB.hide1 W4.well
      have b5 := hide_at u3 (W4.well.ne u3 nofun) (W4.well.ne u3 nofun)
      have bx5 : Ext β3 (hide w w τ) := ext_hide W4.ext W4.nw W4.nw
      generalize hide w w τ = β5 at *
      tb_start
      repeat (tb_rel; tb_start)
      refine Sp.mono (draw_wb B hK B5 (by decide)) fun v τ6 h => ?_
      refine e1a4 h fun r hR25_1 _ _ W6 => ?_
      clear h
      obtain rfl := hR25_1
      have u6 := W6.ext.at b5
      tb_start
      repeat (tb_rel; tb_start)
      refine kc _ _ ⟨done ++ [z], rest, l ++ [1 + r], rfl, by rw [q]; simp, by o_shape, (W6.down bx5 W4.giv).put ba accw _, by rw [List.map_append]; exact upd_self _ _ _, by simp only [List.length_append, List.length_singleton]; o_readsAll⟩
  clear W2 p1 p2 p3 p4
  intro ρ3 τ3 hI0
  refine hideG fun PG kG => ?_
  obtain ⟨p1, p2, p3, p4, a3, cst, β3, p5, W3, x3, f6, f7⟩ := hI0
  refine kG ?_
  clear kG PG
  -- twins
  refine exs_cut 2 (fun ρ τ => ρ "pairs" = some (.ref a1) ∧ ρ "crossing" = some (.ref a2) ∧ ρ "costs" = some (.ref a3) ∧ ∃ (a4 : Addr) (ts : List (Addr × Int × Int × Int)) (β : Hp), ρ "twins" = some (.ref a4) ∧ WB β τ w g ∧ Ext β3 β ∧ β a4 = some (.list (ts.map fun r => .ref r.1)) ∧ (∀ r ∈ ts, β r.1 = some (.tup [vi r.2.1, vi r.2.2.1, vi r.2.2.2]) ∧ 0 ≤ r.2.2.1 ∧ r.2.2.1 < n ∧ 0 ≤ r.2.2.2 ∧ r.2.2.2 < n) ∧ ts.length ≤ 3) (fun K hQ => ?_) ?_
  · tb_start
    repeat (tb_rel; tb_start)
    refine fr_intro fun a4 h4 => ?_
    have W4 := W3.more (Ext.newF h4 (.list []))
    have u4 : upd τ3 a4 (.list []) a4 = some (.list []) := upd_self _ _ _
    have n4 : β3 a4 = none := W3.ext.none h4.out
    generalize upd τ3 a4 (.list []) = τ4 at *
    have B4 := WB.hide1 W4.well
    have b4 := hide_at u4 (W4.well.ne u4 nofun) (W4.well.ne u4 nofun)
    have bx4 : Ext β3 (hide w w τ4) := ext_hide W4.ext W4.nw W4.nw
    generalize hide w w τ4 = β4 at *
    tb_start
    repeat (tb_rel; tb_start)
    refine Sp.mono (draw_wb B hK B4 (by decide)) fun v τ5 h => ?_
    refine e1a4 h fun m hR27_1 m0 m4 W5 => ?_
    clear h
    obtain rfl := hR27_1
    tb_start
    repeat (tb_rel; tb_start)
    refine ho_range m0 (by o_readsAll) (fr_intro fun c hc => ?_)
    have W6 := W5.more (Ext.newF hc (.rng m.toNat))
    have u5 : upd τ5 c (.rng m.toNat) c = some (.rng m.toNat) := upd_self _ _ _
    have u6 := W6.ext.at b4
    tb_start
    refine ho_for (seq_rng u5) (by show ((upN m.toNat).map vi).length ≤ _; rw [List.length_map, len_upN]; o_readsAll) ?_
    generalize upd τ5 c (.rng m.toNat) = τ6 at *
    have ga : g ≠ a4 := by
      refine e1a2 W3.giv fun ns h _ => ?_
      exact ne_of (W3.ext.at h) h4.out
    have aw : a4 ≠ w := W6.well.ne u6 nofun
    have ca : c ≠ a4 := ne_kind u5 u6 nofun
    have B7 := WB.hide W6.well ga
    have b7 : hide w a4 τ6 a4 = none := hide_2
    have bc := hide_at (c1 := w) (c2 := a4) u5 (W6.well.ne u5 nofun) ca
    have bx7 : Ext β3 (hide w a4 τ6) := ext_hide (bx4.trans W6.ext) W3.nw n4
    generalize hide w a4 τ6 = β7 at *
    clear W4 B4 W5 b4 bx4
    refine for_ind (fun xs ρ τ => ∃ (done rest : List Int) (ts : List (Addr × Int × Int × Int)), xs = List.map vi rest ∧ upN m.toNat = done ++ rest ∧ (ρ "well" = some (.ref w) ∧ ρ "many" = some (vi n) ∧ ρ "pairs" = some (.ref a1) ∧ ρ "crossing" = some (.ref a2) ∧ ρ "costs" = some (.ref a3) ∧ ρ "twins" = some (.ref a4)) ∧ WB β7 τ w g ∧ τ a4 = some (.list (ts.map fun r => .ref r.1)) ∧ (∀ r ∈ ts, τ r.1 = some (.tup [vi r.2.1, vi r.2.2.1, vi r.2.2.2]) ∧ 0 ≤ r.2.2.1 ∧ r.2.2.1 < n ∧ 0 ≤ r.2.2.2 ∧ r.2.2.2 < n) ∧ ts.length ≤ done.length) ?_ ?_ ?_
      ⟨[], upN m.toNat, [], rfl, rfl, ⟨by o_shape, by o_shape, by o_shape, by o_shape, by o_shape, by o_shape⟩, B7, u6, nofun, Nat.le_refl _⟩
    · intro xs ρ τ hI0
      refine e3a5 hI0 fun _ _ _ _ _ _ h _ => ?_
      clear hI0
      exact stay_rng u5 (h.ext.at bc)
    · intro ρ τ hI0
      refine e3a7 hI0 fun done rest ts q1 q hN30_5 W8 u8 u9 hl => ?_
      clear hI0
      refine e0a6 hN30_5 fun s1 s2 s3 s4 s5 s6 => ?_
      clear hN30_5
      have dl : done.length ≤ 3 := by
        have := congrArg List.length q
        rw [len_upN, List.length_append] at this; o_readsAll
      exact hQ _ _ ⟨s3, s4, s5, a4, ts, _, s6, WB.hide1 W8.well, bx7.trans (ext_hide W8.ext W8.nw W8.nw), hide_at u8 (W8.well.ne u8 nofun) (W8.well.ne u8 nofun), fun r hr => ⟨hide_at (u9 r hr).1 (W8.well.ne (u9 r hr).1 nofun) (W8.well.ne (u9 r hr).1 nofun), (u9 r hr).2⟩, by o_readsAll⟩
    · intro v xs ρ τ hI0 K2 kn _ _ _
      refine e3a7 hI0 fun done rest ts q1 q hN32_5 W8 u8 u9 hl => ?_
      clear hI0
      refine e0a6 hN32_5 fun s1 s2 s3 s4 s5 s6 => ?_
      clear hN32_5
      refine e2a3 (map_cons q1) fun z rest hR34_2 hR34_3 hR34_4 => ?_
      obtain rfl := hR34_2
      obtain rfl := hR34_3
      obtain rfl := hR34_4
      have dl : done.length ≤ 3 := by
        have := congrArg List.length q
        rw [len_upN, List.length_append] at this; o_readsAll
      have B9 := WB.hide1 W8.well
      have b9 := hide_at (c1 := w) (c2 := w) u8 (W8.well.ne u8 nofun) (W8.well.ne u8 nofun)
      have c9 : ∀ r ∈ ts, hide w w τ r.1 = some (.tup [vi r.2.1, vi r.2.2.1, vi r.2.2.2]) := fun r hr => hide_at (u9 r hr).1 (W8.well.ne (u9 r hr).1 nofun) (W8.well.ne (u9 r hr).1 nofun)
      have bx9 : Ext β7 (hide w w τ) := ext_hide W8.ext W8.nw W8.nw
      generalize hide w w τ = β9 at *
      tb_start
      repeat (tb_rel; tb_start)
      refine Sp.mono (draw_wb B hK B9 (by o_readsAll)) fun v τ10 h => ?_
      refine e1a4 h fun d1 hR35_1 d2 d3 W10 => ?_
      clear h
      obtain rfl := hR35_1
      tb_start
      repeat (tb_rel; tb_start)
      refine Sp.mono (draw_wb B hK W10 (by o_readsAll)) fun v τ11 h => ?_
      refine e1a4 h fun e1 hR36_1 e2 e3 W11 => ?_
      clear h
      obtain rfl := hR36_1
      tb_start
      repeat (tb_rel; tb_start)
      refine fr_intro fun tp htp => ?_
      have W12 := W11.more (Ext.newF htp (.tup [vi d1, vi e1]))
      have u12 := W12.ext.at b9
      tb_start
      repeat (tb_rel; tb_start)
      generalize upd τ11 tp (.tup [vi d1, vi e1]) = τ12 at *
      refine Sp.mono (draw_wb B hK W12 (by decide)) fun v τ13 h => ?_
      refine e1a4 h fun h1 hR37_1 h2 h3 W13 => ?_
      clear h
      obtain rfl := hR37_1
      tb_start
      repeat (tb_rel; tb_start)
      refine fr_intro fun tq htq => ?_
      have W14 := W13.more (Ext.newF htq (.tup [vi (-1 - h1), vi d1, vi e1]))
      have u14 := W14.ext.at b9
      have v14 : upd τ13 tq (.tup [vi (-1 - h1), vi d1, vi e1]) tq = some (.tup [vi (-1 - h1), vi d1, vi e1]) := upd_self _ _ _
      tb_start
      generalize upd τ13 tq (.tup [vi (-1 - h1), vi d1, vi e1]) = τ14 at *
      repeat (tb_rel; tb_start)
      refine kn _ _ ⟨done ++ [z], rest, ts ++ [(tq, -1 - h1, d1, e1)], rfl, by rw [q]; simp, ⟨by o_shape, by o_shape, by o_shape, by o_shape, by o_shape, by o_shape⟩, (W14.down bx9 W8.giv).put b7 aw _, by rw [List.map_append]; exact upd_self _ _ _, fun r hr => ?_, by simp only [List.length_append, List.length_singleton]; o_readsAll⟩
      rcases List.mem_append.mp hr with h | h
      · have := W14.ext.at (c9 r h)
        exact ⟨upd_some this (ne_kind this u14 nofun), (u9 r h).2⟩
      · cases List.mem_singleton.mp h
        exact ⟨upd_some v14 (ne_kind v14 u14 nofun), d2, d3, e2, e3⟩
  clear W3 p1 p2 p3 p4 p5
  intro ρ4 τ4 hI0
  refine hideG fun PG kG => ?_
  obtain ⟨p3, p4, p5, a4, ts, β4, p6, W4, x4, f8, f9, f10⟩ := hI0
  refine kG ?_
  clear kG PG
  tb_start
  repeat (tb_rel; tb_start)
  refine fr_intro fun t ht => ?_
  tb_start
  repeat (tb_rel; tb_start)
  have W5 := W4.more (Ext.newF ht (.tup [.ref a1, .ref a2, .ref a3, .ref a4]))
  have u5 : upd τ4 t (.tup [.ref a1, .ref a2, .ref a3, .ref a4]) t = some (.tup [.ref a1, .ref a2, .ref a3, .ref a4]) := upd_self _ _ _
  have y5 : Ext β4 (hide w w (upd τ4 t (.tup [.ref a1, .ref a2, .ref a3, .ref a4]))) := ext_hide W5.ext W5.nw W5.nw
  have y4 := x4.trans y5
  have y3 := x3.trans y4
  have y2 := x2.trans y3
  exact ⟨t, rs, crs, cst, ts, _, rfl, WB.hide1 W5.well, x1.trans y2, ⟨⟨a1, a2, a3, a4, hide_at u5 (W5.well.ne u5 nofun) (W5.well.ne u5 nofun), y2.at f1, y3.at f4, y4.at f6, y5.at f8⟩, fun r hr => ⟨y2.at (f2 r hr).1, (f2 r hr).2⟩, fun r hr => ⟨y5.at (f9 r hr).1, (f9 r hr).2⟩, f3, f5, f7, f10⟩⟩
end
theorem map_cons' {α : Type} {f : α → Value} {x : Value} {xs : List Value} {l : List α} (q : x :: xs = List.map f l) : ∃ y r, l = y :: r ∧ x = f y ∧ xs = List.map f r := by
  cases l with
  | nil => cases q
  | cons y r => obtain ⟨rfl, rfl⟩ := List.cons.inj q; exact ⟨y, r, rfl, rfl, rfl⟩
theorem mem_join {G : Gr} {p q : Int} (hpq : p ≠ q) {x j : Int} : x ∈ (joinG G p q).near j ↔ x ∈ G.near j ∨ (j = q ∧ x = p) ∨ (j = p ∧ x = q) := by
  unfold joinG
  rw [if_neg hpq]
  dsimp only
  by_cases h1 : j = q
  · rw [if_pos h1, mem_addK, h1]
    constructor
    · rintro (h | h)
      · exact .inl h
      · exact .inr (.inl ⟨rfl, h⟩)
    · rintro (h | ⟨_, h⟩ | ⟨h, _⟩)
      · exact .inl h
      · exact .inr h
      · exact absurd h.symm hpq
  · rw [if_neg h1]
    by_cases h2 : j = p
    · rw [if_pos h2, mem_addK, h2]
      constructor
      · rintro (h | h)
        · exact .inl h
        · exact .inr (.inr ⟨rfl, h⟩)
      · rintro (h | ⟨h, _⟩ | ⟨_, h⟩)
        · exact .inl h
        · exact absurd h hpq
        · exact .inr h
    · rw [if_neg h2]
      exact ⟨.inl, fun h => h.elim id fun h => h.elim (fun h => absurd h.1 h1) fun h => absurd h.1 h2⟩
/-- a graph under way -/
structure JG (G : Gr) (left : List Int) (E : Int → Int → Prop) : Prop where
  keys : G.keys = left
  al : ∀ k ∈ left, G.ali k = k
  sym : ∀ a ∈ left, ∀ b ∈ G.near a, a ∈ G.near b
  irr : ∀ a ∈ left, a ∉ G.near a
  edge : ∀ a ∈ left, ∀ b ∈ left, E a b → b ∈ G.near a
theorem joinG_keys {G : Gr} {p q : Int} : (joinG G p q).keys = G.keys := by unfold joinG; split <;> rfl
theorem joinG_alias {G : Gr} {p q : Int} : (joinG G p q).ali = G.ali := by unfold joinG; split <;> rfl
theorem joinG_cross {G : Gr} {p q : Int} : (joinG G p q).cross = G.cross := by unfold joinG; split <;> rfl
theorem JG.join {G : Gr} {left : List Int} {E : Int → Int → Prop} (H : JG G left E) {p q : Int} (hpq : p ≠ q) : JG (joinG G p q) left fun a b => E a b ∨ (a = p ∧ b = q) := by
  refine ⟨joinG_keys.trans H.keys, fun k hk => by rw [joinG_alias]; exact H.al k hk, fun a ha b hb => ?_, fun a ha h => ?_, fun a ha b hb h => ?_⟩
  · rw [mem_join hpq] at hb ⊢
    rcases hb with h | ⟨h, h'⟩ | ⟨h, h'⟩
    · exact .inl (H.sym a ha b h)
    · exact .inr (.inr ⟨h', h⟩)
    · exact .inr (.inl ⟨h', h⟩)
  · rw [mem_join hpq] at h
    rcases h with h | ⟨h, h'⟩ | ⟨h, h'⟩
    · exact H.irr a ha h
    · exact hpq (h' ▸ h)
    · exact hpq (h ▸ h')
  · rw [mem_join hpq]
    rcases h with h | ⟨h, h'⟩
    · exact .inl (H.edge a ha b hb h)
    · exact .inr (.inr ⟨h, h'⟩)
theorem JG.mono {G : Gr} {left : List Int} {E E' : Int → Int → Prop} (H : JG G left E) (h : ∀ a ∈ left, ∀ b ∈ left, E' a b → E a b) : JG G left E' := ⟨H.keys, H.al, H.sym, H.irr, fun a ha b hb q => H.edge a ha b hb (h a ha b hb q)⟩
theorem GIn.down {σ β τ : Hp} {A : GA} {G : Gr} {cps : List Value} (H : GIn β τ A G cps) (e : Ext σ β) : GIn σ τ A G cps := ⟨H.at_, e.trans H.ext, fun b hb => e.none (H.new b hb)⟩
theorem GraphAt.setCopies {σ : Hp} {A : GA} {G : Gr} {cps l : List Value} (H : GraphAt σ A G cps) {m : Str → Option Value} {n : Nat} {c : Addr} (hD : σ A.D = some (.att m n)) (hc : σ c = some (.list l)) :
    GraphAt (upd σ A.D (.att (setR m "copies" (.ref c)) (n + if (m "copies").isSome then 0 else 1))) { A with Cp := c } G l := by
  refine hideG fun PG kG => ?_
  obtain ⟨m', n', h1, h2, q1, q2, q3, q4, q5, q6, q7, q8, q9, q10, q11, q12⟩ := H.att
  refine kG ?_
  clear kG PG
  rw [hD] at h1; cases h1
  refine e1a1 H.near fun e1 h3 => ?_
  refine e1a1 H.cross fun e2 h4 => ?_
  refine e1a1 H.cost fun e3 h5 => ?_
  refine e1a1 H.ali fun e4 h6 => ?_
  have ne : ∀ {y : Str}, y ≠ "copies" → setR m "copies" (.ref c) y = m y := fun h => setR_ne _ _ h
  refine ⟨upd_some H.inst (ne_kind H.inst hD nofun), ⟨_, _, upd_self _ _ _, by rw [q4]; exact h2, ?_, ?_, ?_, setR_self _ _ _, ?_, ?_, ?_, ?_, ?_, ?_, ?_, ?_⟩, ⟨e1, upd_some h3 (ne_kind h3 hD nofun)⟩, fun k hk => let ⟨ep, h⟩ := H.nbs k hk; ⟨ep, upd_some h (ne_kind h hD nofun)⟩, ⟨e2, upd_some h4 (ne_kind h4 hD nofun)⟩, ⟨e3, upd_some h5 (ne_kind h5 hD nofun)⟩, ⟨e4, upd_some h6 (ne_kind h6 hD nofun)⟩, upd_some hc (ne_kind hc hD nofun), H.sep, H.sepn, H.inj, H.ok⟩
  all_goals (rw [ne (by decide)]; assumption)
section
variable {C : Cx} (B : Bs C) (hK : KOk C.K) {k : Nat} {σ : Hp} {t lf : Addr} {n : Nat} {rs : List (Addr × Int × Int)} {crs cst left : List Int} {ts : List (Addr × Int × Int × Int)}
include B hK
theorem graph_spec (P : PicAt σ t n rs crs cst ts) (hl : σ lf = some (.list (left.map vi))) (ln : left.Nodup) (lb : ∀ x ∈ left, 0 ≤ x ∧ x < n) (h7 : n ≤ 7) :
    Sp C (k + 4) (.ref 272) [.ref t, .ref lf] σ fun v σ' => ∃ A G cps, v = .ref A.g ∧ GIn σ σ' A G cps ∧ G.keys = left ∧ Cov G (fun x => x) (fun a b => ∃ r ∈ rs, r.2.1 = a ∧ r.2.2 = b) (fun a => a ∈ crs) ∧ CpsOk σ left cps ∧ σ A.g = none ∧ σ A.D = none ∧ σ A.Cp = none := by
  refine fn_startL B (fn_272 hK) lk_272_dbg rfl rfl ?_
  intro PX
  have ll : left.length ≤ 7 := Nat.le_trans (nodup_le (m := upN n) ln fun x hx => mem_upN.mpr (lb x hx)) (by rw [len_upN]; exact h7)
  refine e4a5 P.at_ fun a1 a2 a3 a4 t0 t1 t2 t3 t4 => ?_
  have l1 := P.l1
  have l2 := P.l2
  have l3 := P.l3
  have l4 := P.l4
  -- the graph, new
  refine exs_cut 2 (fun ρ τ => (ρ "left" = some (.ref lf) ∧ ρ "pairs" = some (.ref a1) ∧ ρ "crossing" = some (.ref a2) ∧ ρ "costs" = some (.ref a3) ∧ ρ "twins" = some (.ref a4)) ∧ ∃ (A : GA) (β : Hp), ρ "graph" = some (.ref A.g) ∧ GIn β τ A Gr0 [] ∧ Ext σ β ∧ β A.g = some (.inst 187 A.D) ∧ σ A.D = none ∧ σ A.g = none) (fun K hQ => ?_) ?_
  · tb_start
    repeat (tb_rel; tb_start)
    refine Sp.mono (graph_new B hK) fun v τ h => ?_
    refine e1a4 h fun A hR7_1 HG x hf => ?_
    clear h
    obtain rfl := hR7_1
    tb_start
    repeat (tb_rel; tb_start)
    classical
    have he : ∀ b, Foot A Gr0.keys b → σ b = none := by
      rintro b (rfl | rfl | rfl | rfl | ⟨k, hk, _⟩)
      · exact hf _ (.inr (.inr (.inl rfl)))
      · exact hf _ (.inr (.inr (.inr (.inl rfl))))
      · exact hf _ (.inr (.inr (.inr (.inr (.inl rfl)))))
      · exact hf _ (.inr (.inr (.inr (.inr (.inr (.inr rfl))))))
      · cases hk
    refine GraphAt.elim HG fun m nn e1 e2 e3 e4 i1 i2 i3 i4 i5 i6 i7 i8 i9 i10 i11 i12 i13 i14 i15 d1 d2 d3 d4 d5 f1 f2 f3 f4 _ _ _ _ _ _ _ _ _ _ => ?_
    refine hQ _ _ ⟨⟨by o_shape, by o_shape, by o_shape, by o_shape, by o_shape⟩, A, fun b => if Foot A Gr0.keys b then none else τ b, by o_shape, ⟨HG, fun b y q => ?_, fun b hb => if_pos hb⟩, fun b y q => ?_, ?_, hf _ (.inr (.inl rfl)), hf _ (.inl rfl)⟩
    · split at q
      · cases q
      · exact q
    · exact (if_neg (fun h => by rw [he b h] at q; cases q)).trans (x b y q)
    · refine (if_neg ?_).trans i1
      · rintro (h | h | h | h | ⟨k, hk, _⟩)
        · exact f1 h
        · exact f2 h
        · exact f3 h
        · exact f4 h
        · cases hk
  intro ρ1 τ1 hI0
  refine hideG fun PG kG => ?_
  obtain ⟨⟨p1, p2, p3, p4, p5⟩, A0, β, p6, G0, xb, gD, nD, nG⟩ := hI0
  refine kG ?_
  clear kG PG
  have bl := xb.at hl
  -- its cells
  refine exs_cut 1 (fun ρ τ => (ρ "left" = some (.ref lf) ∧ ρ "pairs" = some (.ref a1) ∧ ρ "crossing" = some (.ref a2) ∧ ρ "twins" = some (.ref a4) ∧ ρ "graph" = some (.ref A0.g)) ∧ ∃ (A : GA) (G : Gr), A.g = A0.g ∧ GIn β τ A G [] ∧ G.keys = left ∧ (∀ k ∈ left, G.near k = [] ∧ G.ali k = k) ∧ G.cross = []) (fun K hQ => ?_) ?_
  · have w1 := G0.ext.at bl
    tb_start
    repeat (tb_rel; tb_start)
    refine ho_for (seq_list w1) (by w_left) ?_
    refine for_ind (fun xs ρ τ => ∃ (done rest : List Int) (A : GA) (G : Gr), xs = List.map vi rest ∧ left = done ++ rest ∧ (ρ "left" = some (.ref lf) ∧ ρ "pairs" = some (.ref a1) ∧ ρ "crossing" = some (.ref a2) ∧ ρ "costs" = some (.ref a3) ∧ ρ "twins" = some (.ref a4) ∧ ρ "graph" = some (.ref A0.g)) ∧ A.g = A0.g ∧ GIn β τ A G [] ∧ G.keys = done ∧ (∀ k ∈ done, G.near k = [] ∧ G.ali k = k) ∧ G.cross = []) ?_ ?_ ?_
      ⟨[], left, A0, Gr0, rfl, rfl, ⟨p1, p2, p3, p4, p5, p6⟩, rfl, G0, rfl, nofun, rfl⟩
    · intro xs ρ τ hI0
      refine e4a6 hI0 fun _ _ _ _ _ _ _ _ h _ => ?_
      clear hI0
      exact stay_list w1 (h.ext.at bl)
    · intro ρ τ hI0
      refine e4a8 hI0 fun done rest A G q1 q hN11_6 ag h h1 h2 h3 => ?_
      clear hI0
      refine e0a6 hN11_6 fun s1 s2 s3 s4 s5 s6 => ?_
      clear hN11_6
      cases List.map_eq_nil_iff.mp q1.symm
      rw [List.append_nil] at q
      rw [← q] at h1 h2
      exact hQ _ _ ⟨⟨s1, s2, s3, s5, s6⟩, A, G, ag, h, h1, h2, h3⟩
    · intro v xs ρ τ hI0 K2 kn _ _ _
      refine e4a8 hI0 fun done rest A G q1 q hN13_6 ag HG h1 h2 h3 => ?_
      clear hI0
      refine e0a6 hN13_6 fun s1 s2 s3 s4 s5 s6 => ?_
      clear hN13_6
      refine e2a3 (map_cons q1) fun y rest hR15_2 hR15_3 hR15_4 => ?_
      obtain rfl := hR15_2
      obtain rfl := hR15_3
      obtain rfl := hR15_4
      have hy := lb y (by rw [q]; simp)
      have hyd : y ∉ done := fun h => by
        rw [q] at ln
        exact (List.nodup_append.mp ln).2.2 y h y (List.mem_cons_self ..) rfl
      have dl : done.length + 1 ≤ 7 := by rw [q, List.length_append, List.length_cons] at ll; o_readsAll
      have c3 := (xb.trans HG.ext).at t3
      rw [← ag] at s6
      have hx : (cst.map vi)[y.toNat]? = some (vi (cst[y.toNat]'(by o_readsAll))) := by
        rw [List.getElem?_map, List.getElem?_eq_getElem (by o_readsAll)]; rfl
      have hG := HG.at_
      refine GraphAt.elim hG fun m nn e1 e2 e3 e4 i1 i2 i3 i4 i5 i6 i7 i8 i9 i10 i11 i12 i13 i14 i15 _ _ _ _ _ _ _ _ _ _ _ _ _ _ _ _ _ _ _ => ?_
      tb_start
      repeat (tb_rel; tb_start)
      refine ho_get_list c3 ⟨hy.1, by o_readsAll⟩ hx ?_
      tb_start
      repeat (tb_rel; tb_start)
      refine Sp.mono (touch_spec B hK HG (by rw [h1]; exact hyd) (by rw [h1]; o_readsAll)) fun v τ' h => ?_
      refine hideG fun PG kG => ?_
      obtain ⟨rfl, A', g', H'⟩ := h
      refine kG ?_
      clear kG PG
      tb_start
      repeat (tb_rel; tb_start)
      rw [ag] at s6
      refine kn _ _ ⟨done ++ [y], rest, A', _, rfl, by rw [q]; simp, ⟨by o_shape, by o_shape, by o_shape, by o_shape, by o_shape, by o_shape⟩, g'.trans ag, H', ?_, fun k hk => ?_, h3⟩
      · show G.keys ++ [y] = _; rw [h1]
      · show (if k = y then [] else G.near k) = [] ∧ (if k = y then y else G.ali k) = k
        by_cases e : k = y
        · rw [if_pos e, if_pos e]; exact ⟨rfl, e.symm⟩
        · rw [if_neg e, if_neg e]
          exact h2 k ((List.mem_append.mp hk).resolve_right fun h => e (List.mem_singleton.mp h))
  clear p1 p2 p3 p4 p5 p6 G0
  intro ρ2 τ2 hI0
  refine hideG fun PG kG => ?_
  obtain ⟨⟨p1, p2, p3, p5, p6⟩, A1, G1, ag1, HG1, k1, k2, k3⟩ := hI0
  refine kG ?_
  clear kG PG
  have J0 : JG G1 left fun a b => False := ⟨k1, fun k hk => (k2 k hk).2, fun a ha b hb => (by rw [(k2 a ha).1] at hb; cases hb), fun a ha h => (by rw [(k2 a ha).1] at h; cases h), fun _ _ _ _ h => h.elim⟩
  -- its edges
  refine exs_cut 1 (fun ρ τ => (ρ "left" = some (.ref lf) ∧ ρ "crossing" = some (.ref a2) ∧ ρ "twins" = some (.ref a4) ∧ ρ "graph" = some (.ref A0.g)) ∧ ∃ (A : GA) (G : Gr), A.g = A0.g ∧ GIn β τ A G [] ∧ JG G left (fun a b => ∃ r ∈ rs, r.2.1 = a ∧ r.2.2 = b) ∧ G.cross = []) (fun K hQ => ?_) ?_
  · have w1 := (xb.trans HG1.ext).at t1
    tb_start
    repeat (tb_rel; tb_start)
    refine ho_for (seq_list w1) (by w_left) ?_
    refine for_ind (fun xs ρ τ => ∃ (done rest : List (Addr × Int × Int)) (A : GA) (G : Gr), xs = List.map (fun r => .ref r.1) rest ∧ rs = done ++ rest ∧ (ρ "left" = some (.ref lf) ∧ ρ "crossing" = some (.ref a2) ∧ ρ "twins" = some (.ref a4) ∧ ρ "graph" = some (.ref A0.g)) ∧ A.g = A0.g ∧ GIn β τ A G [] ∧ JG G left (fun a b => ∃ r ∈ done, r.2.1 = a ∧ r.2.2 = b) ∧ G.cross = []) ?_ ?_ ?_
      ⟨[], rs, A1, G1, rfl, rfl, ⟨p1, p3, p5, p6⟩, ag1, HG1, J0.mono fun a _ b _ ⟨r, hr, _⟩ => (by cases hr), k3⟩
    · intro xs ρ τ hI0
      refine e4a6 hI0 fun _ _ _ _ _ _ _ _ h _ => ?_
      clear hI0
      exact stay_list w1 ((xb.trans h.ext).at t1)
    · intro ρ τ hI0
      refine e4a7 hI0 fun done rest A G q1 q s ag h h1 h2 => ?_
      clear hI0
      cases List.map_eq_nil_iff.mp q1.symm
      rw [List.append_nil] at q
      rw [← q] at h1
      exact hQ _ _ ⟨s, A, G, ag, h, h1, h2⟩
    · intro v xs ρ τ hI0 K2 kn _ _ _
      refine e4a7 hI0 fun done rest A G q1 q hN21_6 ag HG J hx => ?_
      clear hI0
      refine e0a4 hN21_6 fun s1 s2 s3 s4 => ?_
      clear hN21_6
      refine e2a3 (map_cons' q1) fun r rest hR23_2 hR23_3 hR23_4 => ?_
      obtain rfl := hR23_2
      obtain rfl := hR23_3
      obtain rfl := hR23_4
      refine e0a4 (P.prs r (by rw [q]; simp)) fun hr r1 r2 r3 => ?_
      have hr := (xb.trans HG.ext).at hr
      have wl := (xb.trans HG.ext).at hl
      have skip : ∀ ρ' : Rho, (r.2.1 ∉ left ∨ r.2.2 ∉ left) → (ρ' "left" = some (.ref lf) ∧ ρ' "crossing" = some (.ref a2) ∧ ρ' "twins" = some (.ref a4) ∧ ρ' "graph" = some (.ref A0.g)) → K2 .next ρ' τ := fun ρ' hn s => by
        refine kn _ _ ⟨done ++ [r], rest, A, G, rfl, by rw [q]; simp, s, ag, HG, J.mono fun a ha b hb ⟨r', h, e1, e2⟩ => ?_, hx⟩
        rcases List.mem_append.mp h with h | h
        · exact ⟨r', h, e1, e2⟩
        · cases List.mem_singleton.mp h
          subst e1 e2
          exact hn.elim (fun h => absurd ha h) fun h => absurd hb h
      tb_start
      repeat (tb_rel; tb_start)
      refine ho_in_list wl (fun h1 => ?_) (fun h1 => ?_)
      · tb_start
        repeat (tb_rel; tb_start)
        refine ho_in_list wl (fun h2 => ?_) (fun h2 => ?_)
        · rw [← ag] at s4
          have hG := HG.at_
          refine GraphAt.elim hG fun m nn e1 e2 e3 e4 i1 i2 i3 i4 i5 i6 i7 i8 i9 i10 i11 i12 i13 i14 i15 _ _ _ _ _ _ _ _ _ _ _ _ _ _ _ _ _ _ _ => ?_
          tb_start
          repeat (tb_rel; tb_start)
          refine Sp.mono (join_spec B hK HG (by rw [J.keys]; exact h1) (by rw [J.keys]; exact h2)) fun v τ' h => ?_
          refine e0a2 h fun hR25_0 H' => ?_
          clear h
          obtain rfl := hR25_0
          tb_start
          repeat (tb_rel; tb_start)
          rw [ag] at s4
          refine kn _ _ ⟨done ++ [r], rest, A, _, rfl, by rw [q]; simp, ⟨by o_shape, by o_shape, by o_shape, by o_shape⟩, ag, H', (J.join (show r.2.1 ≠ r.2.2 by o_readsAll)).mono fun a ha b hb ⟨r', h, e1, e2⟩ => ?_, by rw [joinG_cross]; exact hx⟩
          rcases List.mem_append.mp h with h | h
          · exact .inl ⟨r', h, e1, e2⟩
          · cases List.mem_singleton.mp h
            exact .inr ⟨e1.symm, e2.symm⟩
        · tb_start
          exact skip _ (.inr h2) ⟨by o_shape, by o_shape, by o_shape, by o_shape⟩
      · tb_start
        exact skip _ (.inl h1) ⟨by o_shape, by o_shape, by o_shape, by o_shape⟩
  clear p1 p2 p3 p5 p6 HG1 J0 k1 k2 k3 ag1 A1 G1
  intro ρ3 τ3 hI0
  refine hideG fun PG kG => ?_
  obtain ⟨⟨p1, p2, p3, p4⟩, A2, G2, ag2, HG2, J2, k3⟩ := hI0
  refine kG ?_
  clear kG PG
  -- what crosses
  refine exs_cut 1 (fun ρ τ => (ρ "left" = some (.ref lf) ∧ ρ "twins" = some (.ref a4) ∧ ρ "graph" = some (.ref A0.g)) ∧ ∃ cr : List Int, GIn β τ A2 { G2 with cross := cr } [] ∧ ∀ x ∈ left, x ∈ crs → x ∈ cr) (fun K hQ => ?_) ?_
  · have w1 := (xb.trans HG2.ext).at hl
    tb_start
    repeat (tb_rel; tb_start)
    refine ho_for (seq_list w1) (by w_left) ?_
    refine for_ind (fun xs ρ τ => ∃ (done rest cr : List Int), xs = List.map vi rest ∧ left = done ++ rest ∧ (ρ "left" = some (.ref lf) ∧ ρ "crossing" = some (.ref a2) ∧ ρ "twins" = some (.ref a4) ∧ ρ "graph" = some (.ref A0.g)) ∧ GIn β τ A2 { G2 with cross := cr } [] ∧ ∀ x ∈ done, x ∈ crs → x ∈ cr) ?_ ?_ ?_
      ⟨[], left, [], rfl, rfl, ⟨p1, p2, p3, p4⟩, by rw [← k3]; exact HG2, nofun⟩
    · intro xs ρ τ hI0
      refine e3a5 hI0 fun _ _ _ _ _ _ h _ => ?_
      clear hI0
      exact stay_list w1 ((xb.trans h.ext).at hl)
    · intro ρ τ hI0
      refine e3a5 hI0 fun done rest cr q1 q hN29_5 h h1 => ?_
      clear hI0
      refine e0a4 hN29_5 fun s1 _ s3 s4 => ?_
      clear hN29_5
      cases List.map_eq_nil_iff.mp q1.symm
      rw [List.append_nil] at q
      rw [← q] at h1
      exact hQ _ _ ⟨⟨s1, s3, s4⟩, cr, h, h1⟩
    · intro v xs ρ τ hI0 K2 kn _ _ _
      refine e3a5 hI0 fun done rest cr q1 q hN31_5 HG hcr => ?_
      clear hI0
      refine e0a4 hN31_5 fun s1 s2 s3 s4 => ?_
      clear hN31_5
      refine e2a3 (map_cons q1) fun y rest hR33_2 hR33_3 hR33_4 => ?_
      obtain rfl := hR33_2
      obtain rfl := hR33_3
      obtain rfl := hR33_4
      have hyl : y ∈ left := by rw [q]; simp
      have w2 := (xb.trans HG.ext).at t2
      tb_start
      repeat (tb_rel; tb_start)
      refine ho_in_list w2 (fun h1 => ?_) (fun h1 => ?_)
      · rw [← ag2] at s4
        have hG := HG.at_
        have cl := hG.ok.xlen
        refine GraphAt.elim hG fun m nn e1 e2 e3 e4 i1 i2 i3 i4 i5 i6 i7 i8 i9 i10 i11 i12 i13 i14 i15 d1 d2 d3 d4 d5 _ _ _ _ _ _ _ _ _ _ _ _ _ _ => ?_
        dsimp only at d2 cl
        tb_start
        repeat (tb_rel; tb_start)
        rw [ag2] at s4
        rw [ds_add]
        refine kn _ _ ⟨done ++ [y], rest, addK cr y, rfl, by rw [q]; simp, ⟨by o_shape, by o_shape, by o_shape, by o_shape⟩, HG.setCross (l := addK cr y) (add_sub hG.ok.xsub (by show y ∈ G2.keys; rw [J2.keys]; exact hyl)) (nodup_addK hG.ok.xnd) _, fun x hx hxc => ?_⟩
        rcases List.mem_append.mp hx with h | h
        · exact mem_addK.mpr (.inl (hcr x h hxc))
        · exact mem_addK.mpr (.inr (List.mem_singleton.mp h))
      · tb_start
        refine kn _ _ ⟨done ++ [y], rest, cr, rfl, by rw [q]; simp, ⟨by o_shape, by o_shape, by o_shape, by o_shape⟩, HG, fun x hx hxc => ?_⟩
        rcases List.mem_append.mp hx with h | h
        · exact hcr x h hxc
        · rw [List.mem_singleton.mp h] at hxc; exact absurd hxc h1
  clear p1 p2 p3 p4 HG2
  intro ρ4 τ4 hI0
  refine hideG fun PG kG => ?_
  obtain ⟨⟨p1, p2, p3⟩, cr, HG3, hcr⟩ := hI0
  refine kG ?_
  clear kG PG
  have hG := HG3.at_
  have w4 := (xb.trans HG3.ext).at t4
  have wl := (xb.trans HG3.ext).at hl
  have wr : ∀ r ∈ ts, τ4 r.1 = some (.tup [vi r.2.1, vi r.2.2.1, vi r.2.2.2]) := fun r hr => (xb.trans HG3.ext).at (P.tws r hr).1
  have gD' := HG3.ext.at gD
  refine GraphAt.elim hG fun m nn e1 e2 e3 e4 i1 i2 i3 i4 i5 i6 i7 i8 i9 i10 i11 i12 i13 i14 i15 d1 d2 d3 d4 d5 _ _ _ _ _ _ _ _ _ _ _ _ _ _ => ?_
  have eD : A2.D = A0.D := by
    rw [← ag2] at gD'
    rw [i1] at gD'
    injection gD' with h
    injection h
  rw [← ag2] at p3
  tb_start
  repeat (tb_rel; tb_start)
  refine ho_comp (seq_list w4) (by w_left) (fr_intro fun acc hacc => ?_)
  refine comp_ind (fun xs ρ τ => ∃ (done rest l : List (Addr × Int × Int × Int)), xs = List.map (fun r => .ref r.1) rest ∧ ts = done ++ rest ∧ ρ "left" = some (.ref lf) ∧ τ = upd τ4 acc (.list (l.map fun r => .ref r.1)) ∧ (∀ r ∈ l, r ∈ ts ∧ r.2.2.1 ∈ left ∧ r.2.2.2 ∈ left) ∧ l.length ≤ done.length) ?_ ?_ ?_ ⟨[], ts, [], rfl, rfl, by o_shape, rfl, nofun, Nat.le_refl _⟩
  · intro xs ρ τ hI0
    refine e3a5 hI0 fun _ _ _ _ _ _ hR36_6 _ => ?_
    clear hI0
    obtain rfl := hR36_6
    exact stay_list w4 (upd_some w4 (ne_of' hacc w4))
  · intro ρ τ hI0
    refine e3a6 hI0 fun done rest l q1 q _ hR37_6 hl' hll => ?_
    clear hI0
    obtain rfl := hR37_6
    cases List.map_eq_nil_iff.mp q1.symm
    rw [List.append_nil] at q
    have nA : σ acc = none := (xb.trans HG3.ext).fr hacc
    have HG4 := HG3.more (Ext.newF hacc (.list (l.map fun r => .ref r.1)))
    have w5 : upd τ4 acc (.list (l.map fun r => .ref r.1)) acc = some (.list (l.map fun r => .ref r.1)) := upd_self _ _ _
    have i1' : upd τ4 acc (.list (l.map fun r => .ref r.1)) A2.g = some (.inst 187 A2.D) := by o_reads
    have i2' : upd τ4 acc (.list (l.map fun r => .ref r.1)) A2.D = some (.att m nn) := by o_reads
    generalize upd τ4 acc (.list (l.map fun r => .ref r.1)) = τ5 at *
    tb_start
    repeat (tb_rel; tb_start)
    have HS := HG4.at_.setCopies i2' w5
    refine ⟨{ A2 with Cp := acc }, { G2 with cross := cr }, l.map fun r => .ref r.1, rfl, ⟨HS, ?_, fun b hb => ?_⟩, J2.keys, ⟨⟨fun x hx => hx, fun x hx => ⟨0, .base (J2.al x (by rw [← J2.keys]; exact hx))⟩⟩, ⟨fun a ha => J2.sym a (by rw [← J2.keys]; exact ha), fun a ha => J2.irr a (by rw [← J2.keys]; exact ha), fun a ha _ => J2.al a (by rw [← J2.keys]; exact ha)⟩, fun a ha b hb h => J2.edge a (by rw [← J2.keys]; exact ha) b (by rw [← J2.keys]; exact hb) h, fun a ha h => hcr a (by rw [← J2.keys]; exact ha) h⟩, ⟨?_, fun v hv => ?_⟩, by show σ A2.g = none; rw [ag2]; exact nG, by show σ A2.D = none; rw [eD]; exact nD, nA⟩
    · exact (xb.trans HG4.ext).put (by rw [eD]; exact nD) _
    · exact xb.none (HG4.new b hb)
    · rw [List.length_map]; rw [q] at l4; o_readsAll
    · refine e1a2 (List.mem_map.mp hv) fun r hr hR38_2 => ?_
      obtain rfl := hR38_2
      refine e0a3 (hl' r hr) fun h1 h2 h3 => ?_
      exact ⟨r.1, r.2.1, r.2.2.1, r.2.2.2, rfl, (P.tws r h1).1, h2, h3⟩
  · intro v xs ρ τ hI0 Kc kc
    refine e3a6 hI0 fun done rest l q1 q s1 hR40_6 hl' hll => ?_
    clear hI0
    obtain rfl := hR40_6
    refine e2a3 (map_cons' q1) fun r rest hR41_2 hR41_3 hR41_4 => ?_
    obtain rfl := hR41_2
    obtain rfl := hR41_3
    obtain rfl := hR41_4
    have dl : done.length ≤ 3 := by rw [q, List.length_append] at l4; o_readsAll
    have hrt : r ∈ ts := by rw [q]; simp
    have hr := wr r hrt
    have hr' : upd τ4 acc (.list (l.map fun r => .ref r.1)) r.1 = some (.tup [vi r.2.1, vi r.2.2.1, vi r.2.2.2]) := by o_reads
    have wl' : upd τ4 acc (.list (l.map fun r => .ref r.1)) lf = some (.list (left.map vi)) := by o_reads
    have skip : ∀ ρ' : Rho, ρ' "left" = some (.ref lf) → Kc ρ' (upd τ4 acc (.list (l.map fun r => .ref r.1))) := fun ρ' s =>
      kc _ _ ⟨done ++ [r], rest, l, rfl, by rw [q]; simp, s, rfl, hl', by rw [List.length_append]; o_readsAll⟩
    tb_start
    repeat (tb_rel; tb_start)
    refine ho_in_list wl' (fun h1 => ?_) (fun h1 => ?_)
    · tb_start
      repeat (tb_rel; tb_start)
      refine ho_in_list wl' (fun h2 => ?_) (fun h2 => ?_)
      · tb_start
        repeat (tb_rel; tb_start)
        rw [upd_upd]
        refine kc _ _ ⟨done ++ [r], rest, l ++ [r], rfl, by rw [q]; simp, by o_shape, by rw [List.map_append]; rfl, fun r' h => ?_, by simp only [List.length_append, List.length_singleton]; o_readsAll⟩
        rcases List.mem_append.mp h with h | h
        · exact hl' r' h
        · cases List.mem_singleton.mp h
          exact ⟨hrt, h1, h2⟩
      · tb_start
        exact skip _ (by o_shape)
    · tb_start
      exact skip _ (by o_shape)
end
theorem sorted_eq {l : List Int} : ∀ {m : List Int}, l.Perm m → l.Pairwise (· ≤ ·) → m.Pairwise (· ≤ ·) → l = m := by
  induction l with
  | nil => intro m h _ _; exact (List.nil_perm.mp h).symm
  | cons x l ih =>
    intro m h h1 h2
    cases m with
    | nil => exact absurd (List.perm_nil.mp h) (by simp)
    | cons y m =>
      rw [List.pairwise_cons] at h1 h2
      have e : x = y := by
        have a1 : y ∈ x :: l := h.mem_iff.mpr (List.mem_cons_self ..)
        have a2 : x ∈ y :: m := h.mem_iff.mp (List.mem_cons_self ..)
        rcases List.mem_cons.mp a1 with q | q
        · exact q.symm
        · rcases List.mem_cons.mp a2 with q' | q'
          · exact q'
          · have := h1.1 y q
            have := h2.1 x q'
            o_readsAll
      subst e
      rw [ih (List.Perm.cons_inv h) h1.2 h2.2]
theorem upN_sorted (n : Nat) : (upN n).Pairwise (· ≤ ·) := by
  unfold upN
  refine List.Pairwise.map _ (fun a b (h : a < b) => ?_) List.pairwise_lt_range
  exact Int.ofNat_le.mpr (Nat.le_of_lt h)
noncomputable def RW (x lf Pm Sl a1 a2 ra rb : Addr) (ev : Int) (ρ : Rho) : Prop := ρ "found" = some (.ref x) ∧ ρ "left" = some (.ref lf) ∧ ρ "params" = some (.ref Pm) ∧ ρ "slots" = some (.ref Sl) ∧ ρ "pairs" = some (.ref a1) ∧ ρ "crossing" = some (.ref a2) ∧ ρ "temps" = some (.ref ra) ∧ ρ "saved" = some (.ref rb) ∧ ρ "every" = some (vi ev)
section
variable {C : Cx} (B : Bs C) (hK : KOk C.K) {k : Nat} {σ : Hp} {t lf rw ra rb Pm Sl x Ft : Addr} {nn ep es ef : Nat} {rs : List (Addr × Int × Int)} {crs cst left xk sk tl sv sl pk ik : List Int} {ts : List (Addr × Int × Int × Int)} {xf sf pf jf : Int → Int} {many : Int}
include B hK
theorem whole_spec (HP : PicAt σ t nn rs crs cst ts) (hA : AllocAt σ x pk pf ik jf Ft sl many) (hl : σ lf = some (.list (left.map vi))) (hr : σ rw = some (.tup [.ref ra, .ref rb])) (hra : σ ra = some (.list (tl.map vi))) (hrb : σ rb = some (.list (sv.map vi)))
    (hp : σ Pm = some (.dict (dk xk fun k => vi (xf k)) ep)) (hs : σ Sl = some (.dict (dk sk fun k => vi (sf k)) es)) (hft : σ Ft = some (.dict (dk sk fun k => vi (sf k)) ef))
    (n1 : left.length ≤ 7) (n2 : xk.length ≤ 10) (n3 : sk.length ≤ 10) (n4 : pk.length ≤ 20) (n5 : ik.length ≤ 20) (n6 : tl.length ≤ 5) (n7 : sv.length ≤ 5)
    (H1 : List.Perm (pk ++ ik ++ sk) (upN (left.length + xk.length + sk.length))) (H2 : ∀ c ∈ left, c ∈ pk ∧ pf c ∈ (if c ∈ crs then sv else tl ++ sv)) (H3 : ∀ r ∈ rs, r.2.1 ∈ left → r.2.2 ∈ left → pf r.2.1 ≠ pf r.2.2)
    (H4 : ∀ k ∈ xk, (xf k < 8 → k ∈ pk ∧ pf k = 10 + xf k) ∧ (¬ xf k < 8 → k ∈ ik ∧ jf k = xf k)) (H5 : sl = [9, 18, 19].filter fun n => decide (n ∈ sv) && decide (n ∈ left.map pf)) (H6 : many = xk.length + sk.length) :
    Sp C (k + 1) (.ref 277) [.ref x, .ref t, .ref lf, .ref rw, .ref Pm, .ref Sl] σ fun v _ => v = .bool true := by
  refine fn_startL B (fn_277 hK) lk_277_dbg rfl rfl ?_
  intro PX
  refine e4a5 HP.at_ fun a1 a2 a3 a4 t0 t1 t2 t3 t4 => ?_
  have l1 := HP.l1
  have l2 := HP.l2
  refine e8a10 hA.all fun D m n P I Sv e1 e2 x1 x2 x3 x4 x5 x6 x7 x8 x9 x10 => ?_
  refine exs_cut 3 (fun ρ τ => RW x lf Pm Sl a1 a2 ra rb ((left.length + xk.length + sk.length : Nat) : Int) ρ ∧ Ext σ τ) (fun K hQ => ?_) ?_
  · tb_start
    repeat (tb_rel; tb_start)
    refine fr_intro fun tp htp => ?_
    tb_start
    repeat (tb_rel; tb_start)
    have ev : ((left.map vi).length : Int) + ((dk xk fun k => vi (xf k)).length : Int) + ((dk sk fun k => vi (sf k)).length : Int) = ((left.length + xk.length + sk.length : Nat) : Int) := by
      rw [List.length_map, dk_len, dk_len]; o_readsAll
    rw [ev]
    exact hQ _ _ ⟨⟨by o_shape, by o_shape, by o_shape, by o_shape, by o_shape, by o_shape, by o_shape, by o_shape, by o_shape⟩, Ext.newF htp _⟩
  intro ρ1 τ1 hI0
  refine e0a2 hI0 fun p xt => ?_
  clear hI0
  refine exs_cut 1 (fun ρ τ => RW x lf Pm Sl a1 a2 ra rb ((left.length + xk.length + sk.length : Nat) : Int) ρ ∧ Ext σ τ) (fun K hQ => ?_) ?_
  · refine e0a9 p fun p1 p2 p3 p4 p5 p6 p7 p8 p9 => ?_
    clear p
    have y1 := xt.at x1
    have y2 := xt.at x2
    have y8 := xt.at x8
    have y9 := xt.at x9
    have yf := xt.at hft
    tb_start
    repeat (tb_rel; tb_start)
    refine fr_intro fun c1 h1 => ?_
    tb_start
    repeat (tb_rel; tb_start)
    refine fr_intro fun c2 h2 => ?_
    tb_start
    repeat (tb_rel; tb_start)
    refine fr_intro fun c3 h3 => ?_
    tb_start
    repeat (tb_rel; tb_start)
    refine fr_intro fun c4 h4 => ?_
    tb_start
    repeat (tb_rel; tb_start)
    refine fr_intro fun c5 h5 => ?_
    have x6' := (((((xt.trans (Ext.newF h1 (.list (pk.map vi)))).trans (Ext.newF h2 (.list (ik.map vi)))).trans (Ext.newF h3 (.list (pk.map vi ++ ik.map vi)))).trans (Ext.newF h4 (.list (sk.map vi)))).trans (Ext.newF h5 (.list (pk.map vi ++ ik.map vi ++ sk.map vi))))
    rw [← List.map_append, ← List.map_append] at x6' ⊢
    tb_start
    refine ho_sorted (upd_self _ _ _) (by simp only [List.length_append]; o_readsAll) (fun ms hms hst => fr_intro fun c6 h6 => ?_)
    have em := sorted_eq (hms.trans H1) hst (upN_sorted _)
    subst em
    have x7' := x6'.trans (Ext.newF h6 (.list ((upN (left.length + xk.length + sk.length)).map vi)))
    tb_start
    repeat (tb_rel; tb_start)
    refine ho_range (by o_readsAll) (by o_readsAll) (fr_intro fun c7 h7 => ?_)
    rw [Int.toNat_natCast]
    tb_start
    repeat (tb_rel; tb_start)
    refine fr_intro fun c8 h8 => ?_
    tb_start
    refine ho_eq_list (ns := upN (left.length + xk.length + sk.length)) (ms := upN (left.length + xk.length + sk.length)) (by o_reads) (upd_self _ _ _) (fun _ => ?_) (fun h => absurd rfl h)
    tb_start
    exact hQ _ _ ⟨⟨p1, p2, p3, p4, p5, p6, p7, p8, p9⟩, (x7'.trans (Ext.newF h7 _)).trans (Ext.newF h8 _)⟩
  clear p xt ρ1 τ1
  intro ρ1 τ1 hI0
  refine e0a2 hI0 fun p xt => ?_
  clear hI0
  refine exs_cut 1 (fun ρ τ => RW x lf Pm Sl a1 a2 ra rb ((left.length + xk.length + sk.length : Nat) : Int) ρ ∧ Ext σ τ) (fun K hQ => ?_) ?_
  · have pp := p
    refine e0a9 p fun p1 p2 p3 p4 p5 p6 p7 p8 p9 => ?_
    clear p
    have yl := xt.at hl
    tb_start
    repeat (tb_rel; tb_start)
    refine ho_for (seq_list yl) (by w_left) ?_
    refine for_ind (fun xs ρ τ => (∃ l, xs = List.map vi l ∧ ∀ y ∈ l, y ∈ left) ∧ RW x lf Pm Sl a1 a2 ra rb ((left.length + xk.length + sk.length : Nat) : Int) ρ ∧ Ext σ τ) ?_ ?_ ?_ ⟨⟨left, rfl, fun _ h => h⟩, pp, xt⟩
    · intro xs ρ τ hI0
      refine e0a3 hI0 fun _ _ h => ?_
      clear hI0
      exact stay_list yl (h.at hl)
    · intro ρ τ hI0
      refine e0a3 hI0 fun _ p h => ?_
      clear hI0
      exact hQ _ _ ⟨p, h⟩
    · intro v xs ρ τ hI0 K2 kn _ _ _
      refine e0a3 hI0 fun hN9_0 hN9_1 xa => ?_
      clear hI0
      refine e1a2 hN9_0 fun l q1 hll => ?_
      clear hN9_0
      refine e0a9 hN9_1 fun p1 p2 p3 p4 p5 p6 p7 p8 p9 => ?_
      clear hN9_1
      refine e2a3 (map_cons q1) fun y l hR12_2 hR12_3 hR12_4 => ?_
      obtain rfl := hR12_2
      obtain rfl := hR12_3
      obtain rfl := hR12_4
      have hy := hll y (List.mem_cons_self ..)
      refine e0a2 (H2 y hy) fun hyp hyc => ?_
      have y1 := xa.at x1
      have y2 := xa.at x2
      have y8 := xa.at x8
      have yc := xa.at t2
      have ya := xa.at hra
      have yb := xa.at hrb
      have go : ∀ (ρ' : Rho) (τ' : Hp), Ext τ τ' → RW x lf Pm Sl a1 a2 ra rb ((left.length + xk.length + sk.length : Nat) : Int) ρ' → K2 .next ρ' τ' := fun ρ' τ' h1 h2 => kn _ _ ⟨⟨l, rfl, fun z hz => hll z (List.mem_cons_of_mem _ hz)⟩, h2, xa.trans h1⟩
      tb_start
      repeat (tb_rel; tb_start)
      refine ho_in_dict y8 (fun _ => ?_) (fun h => absurd hyp h)
      tb_start
      repeat (tb_rel; tb_start)
      refine ho_in_list yc (fun hc => ?_) (fun hc => ?_)
      · rw [if_pos hc] at hyc
        tb_start
        repeat (tb_rel; tb_start)
        refine ho_in_list yb (fun _ => ?_) (fun h => absurd hyc h)
        tb_start
        exact go _ _ (Ext.refl _) ⟨by o_shape, by o_shape, by o_shape, by o_shape, by o_shape, by o_shape, by o_shape, by o_shape, by o_shape⟩
      · rw [if_neg hc] at hyc
        tb_start
        repeat (tb_rel; tb_start)
        refine fr_intro fun c hcf => ?_
        rw [← List.map_append]
        tb_start
        refine ho_in_list (upd_self _ _ _) (fun _ => ?_) (fun h => absurd hyc h)
        tb_start
        exact go _ _ (Ext.newF hcf _) ⟨by o_shape, by o_shape, by o_shape, by o_shape, by o_shape, by o_shape, by o_shape, by o_shape, by o_shape⟩
  clear p xt ρ1 τ1
  intro ρ1 τ1 hI0
  refine e0a2 hI0 fun p xt => ?_
  clear hI0
  refine exs_cut 1 (fun ρ τ => RW x lf Pm Sl a1 a2 ra rb ((left.length + xk.length + sk.length : Nat) : Int) ρ ∧ τ = τ1) (fun K hQ => ?_) ?_
  · have pp := p
    refine e0a9 p fun p1 p2 p3 p4 p5 p6 p7 p8 p9 => ?_
    clear p
    have y0 := xt.at t1
    have yl := xt.at hl
    have y1 := xt.at x1
    have y2 := xt.at x2
    have y8 := xt.at x8
    tb_start
    repeat (tb_rel; tb_start)
    refine ho_for (seq_list y0) (by w_left) ?_
    refine for_ind (fun xs ρ τ => (∃ l : List (Addr × Int × Int), xs = List.map (fun r => .ref r.1) l ∧ ∀ y ∈ l, y ∈ rs) ∧ RW x lf Pm Sl a1 a2 ra rb ((left.length + xk.length + sk.length : Nat) : Int) ρ ∧ τ = τ1) ?_ ?_ ?_ ⟨⟨rs, rfl, fun _ h => h⟩, pp, rfl⟩
    · intro xs ρ τ hI0
      refine e0a3 hI0 fun _ _ hR16_2 => ?_
      clear hI0
      obtain rfl := hR16_2
      exact stay_list y0 y0
    · intro ρ τ hI0
      refine e0a3 hI0 fun _ p hR17_2 => ?_
      clear hI0
      obtain rfl := hR17_2
      exact hQ _ _ ⟨p, rfl⟩
    · intro v xs ρ τ hI0 K2 kn _ _ _
      refine e0a3 hI0 fun hN18_0 hN18_1 hR18_2 => ?_
      clear hI0
      refine e1a2 hN18_0 fun l q1 hll => ?_
      clear hN18_0
      refine e0a9 hN18_1 fun p1 p2 p3 p4 p5 p6 p7 p8 p9 => ?_
      clear hN18_1
      obtain rfl := hR18_2
      refine e2a3 (map_cons' q1) fun r l hR21_2 hR21_3 hR21_4 => ?_
      obtain rfl := hR21_2
      obtain rfl := hR21_3
      obtain rfl := hR21_4
      have hrr := hll r (List.mem_cons_self ..)
      have yr := xt.at (HP.prs r hrr).1
      have go : ∀ (ρ' : Rho), RW x lf Pm Sl a1 a2 ra rb ((left.length + xk.length + sk.length : Nat) : Int) ρ' → K2 .next ρ' τ := fun ρ' h2 => kn _ _ ⟨⟨l, rfl, fun z hz => hll z (List.mem_cons_of_mem _ hz)⟩, h2, rfl⟩
      tb_start
      repeat (tb_rel; tb_start)
      refine ho_in_list yl (fun h1 => ?_) (fun h1 => ?_)
      · tb_start
        repeat (tb_rel; tb_start)
        refine ho_in_list yl (fun h2 => ?_) (fun h2 => ?_)
        · have g1 := (H2 _ h1).1
          have g2 := (H2 _ h2).1
          have g3 := H3 r hrr h1 h2
          tb_start
          repeat (tb_rel; tb_start)
          rw [show (pf r.2.1 == pf r.2.2) = false by simpa using g3]
          tb_start
          exact go _ ⟨by o_shape, by o_shape, by o_shape, by o_shape, by o_shape, by o_shape, by o_shape, by o_shape, by o_shape⟩
        · tb_start
          exact go _ ⟨by o_shape, by o_shape, by o_shape, by o_shape, by o_shape, by o_shape, by o_shape, by o_shape, by o_shape⟩
      · tb_start
        exact go _ ⟨by o_shape, by o_shape, by o_shape, by o_shape, by o_shape, by o_shape, by o_shape, by o_shape, by o_shape⟩
  clear p ρ1
  intro ρ1 τx hI0
  refine e0a2 hI0 fun p e0 => ?_
  clear hI0
  rw [e0]
  clear e0 τx
  refine exs_cut 1 (fun ρ τ => RW x lf Pm Sl a1 a2 ra rb ((left.length + xk.length + sk.length : Nat) : Int) ρ ∧ τ = τ1) (fun K hQ => ?_) ?_
  · have pp := p
    refine e0a9 p fun p1 p2 p3 p4 p5 p6 p7 p8 p9 => ?_
    clear p
    have yp := xt.at hp
    have y1 := xt.at x1
    have y2 := xt.at x2
    have y8 := xt.at x8
    have y9 := xt.at x9
    tb_start
    repeat (tb_rel; tb_start)
    refine ho_for (seq_dict yp) (by w_left) ?_
    refine for_ind (fun xs ρ τ => (∃ l : List Int, xs = List.map vi l ∧ ∀ y ∈ l, y ∈ xk) ∧ RW x lf Pm Sl a1 a2 ra rb ((left.length + xk.length + sk.length : Nat) : Int) ρ ∧ τ = τ1) ?_ ?_ ?_ ⟨⟨xk, rfl, fun _ h => h⟩, pp, rfl⟩
    · intro xs ρ τ hI0
      refine e0a3 hI0 fun _ _ hR24_2 => ?_
      clear hI0
      obtain rfl := hR24_2
      exact stay_dict yp yp
    · intro ρ τ hI0
      refine e0a3 hI0 fun _ p hR25_2 => ?_
      clear hI0
      obtain rfl := hR25_2
      exact hQ _ _ ⟨p, rfl⟩
    · intro v xs ρ τ hI0 K2 kn _ _ _
      refine e0a3 hI0 fun hN26_0 hN26_1 hR26_2 => ?_
      clear hI0
      refine e1a2 hN26_0 fun l q1 hll => ?_
      clear hN26_0
      refine e0a9 hN26_1 fun p1 p2 p3 p4 p5 p6 p7 p8 p9 => ?_
      clear hN26_1
      obtain rfl := hR26_2
      refine e2a3 (map_cons q1) fun y l hR29_2 hR29_3 hR29_4 => ?_
      obtain rfl := hR29_2
      obtain rfl := hR29_3
      obtain rfl := hR29_4
      have hy := hll y (List.mem_cons_self ..)
      have go : ∀ (ρ' : Rho), RW x lf Pm Sl a1 a2 ra rb ((left.length + xk.length + sk.length : Nat) : Int) ρ' → K2 .next ρ' τ := fun ρ' h2 => kn _ _ ⟨⟨l, rfl, fun z hz => hll z (List.mem_cons_of_mem _ hz)⟩, h2, rfl⟩
      tb_start
      repeat (tb_rel; tb_start)
      by_cases hlt : xf y < 8
      · refine e0a2 ((H4 y hy).1 hlt) fun g1 g2 => ?_
        rw [show decide (xf y < 8) = true from decide_eq_true hlt]
        tb_start
        repeat (tb_rel; tb_start)
        rw [show (pf y - 10 != xf y) = false from by rw [bne_eq_false_iff_eq]; o_readsAll]
        tb_start
        exact go _ ⟨by o_shape, by o_shape, by o_shape, by o_shape, by o_shape, by o_shape, by o_shape, by o_shape, by o_shape⟩
      · refine e0a2 ((H4 y hy).2 hlt) fun g1 g2 => ?_
        rw [show decide (xf y < 8) = false from decide_eq_false hlt]
        tb_start
        repeat (tb_rel; tb_start)
        rw [show (jf y != xf y) = false from by rw [bne_eq_false_iff_eq]; exact g2]
        tb_start
        exact go _ ⟨by o_shape, by o_shape, by o_shape, by o_shape, by o_shape, by o_shape, by o_shape, by o_shape, by o_shape⟩
  clear p ρ1
  intro ρ1 τx hI0
  refine e0a2 hI0 fun p e0 => ?_
  clear hI0
  rw [e0]
  clear e0 τx
  refine exs_cut 1 (fun ρ τ => RW x lf Pm Sl a1 a2 ra rb ((left.length + xk.length + sk.length : Nat) : Int) ρ ∧ Ext σ τ) (fun K hQ => ?_) ?_
  · have pp := p
    refine e0a9 p fun p1 p2 p3 p4 p5 p6 p7 p8 p9 => ?_
    clear p
    have ys := xt.at hs
    have y1 := xt.at x1
    have y2 := xt.at x2
    have yf := xt.at hft
    tb_start
    repeat (tb_rel; tb_start)
    refine ho_comp (seq_dict ys) (by w_left) (fr_intro fun c hc => ?_)
    refine comp_int (fun ρ => ρ "found" = some (.ref x) ∧ ρ "slots" = some (.ref Sl)) sk (fun _ => false) vi (by o_readsAll) (fun l => stay_dict ys (by o_reads)) ?_ ⟨by o_shape, by o_shape⟩ ?_
    · intro y hy ρ l Kc hI0 hl kt kf
      refine e0a2 hI0 fun hr1 hr2 => ?_
      clear hI0
      tb_start
      repeat (tb_rel; tb_start)
      rw [show (sf y != sf y) = false by simp]
      tb_start
      exact kf _ ⟨(setR_ne _ _ (by decide)).trans hr1, (setR_ne _ _ (by decide)).trans hr2⟩ rfl
    · rw [show (sk.filter fun _ => false) = [] by simp]
      tb_start
      repeat (tb_rel; tb_start)
      refine fr_intro fun c2 hc2 => ?_
      tb_start
      refine ho_eq_nil (ns := []) (by o_reads) (upd_self _ _ _) (fun _ => ?_) (fun h => absurd rfl h)
      tb_start
      exact hQ _ _ ⟨pp, (xt.trans (Ext.newF hc _)).trans (Ext.newF hc2 _)⟩
  clear p xt ρ1 τ1
  intro ρ1 τ1 hI0
  refine e0a2 hI0 fun p xt => ?_
  clear hI0
  refine e0a9 p fun p1 p2 p3 p4 p5 p6 p7 p8 p9 => ?_
  clear p
  have yb := xt.at hrb
  have yl := xt.at hl
  have y1 := xt.at x1
  have y2 := xt.at x2
  have y8 := xt.at x8
  have y10 := xt.at x10
  have yp := xt.at hp
  have ys := xt.at hs
  tb_start
  repeat (tb_rel; tb_start)
  refine fr_intro fun tp htp => ?_
  have xq := Ext.newF htp (.tup [vi 9, vi 18, vi 19])
  have u1 : upd τ1 tp (.tup [vi 9, vi 18, vi 19]) tp = some (.tup ([9, 18, 19].map vi)) := upd_self _ _ _
  replace yb := xq.at yb
  replace yl := xq.at yl
  replace y1 := xq.at y1
  replace y2 := xq.at y2
  replace y8 := xq.at y8
  replace y10 := xq.at y10
  replace yp := xq.at yp
  replace ys := xq.at ys
  tb_start
  refine ho_comp (seq_tup u1) (by decide) (fr_intro fun acc hacc => ?_)
  generalize upd τ1 tp (.tup [vi 9, vi 18, vi 19]) = τ2 at *
  refine comp_ind (fun xs ρ τ => ∃ (done rest : List Int), xs = List.map vi rest ∧ [9, 18, 19] = done ++ rest ∧ (ρ "saved" = some (.ref rb) ∧ ρ "found" = some (.ref x) ∧ ρ "left" = some (.ref lf)) ∧ Ext τ2 τ ∧ τ acc = some (.list ((done.filter fun n => decide (n ∈ sv) && decide (n ∈ left.map pf)).map vi))) ?_ ?_ ?_ ⟨[], [9, 18, 19], rfl, rfl, ⟨by o_shape, by o_shape, by o_shape⟩, Ext.newF hacc _, upd_self _ _ _⟩
  · intro xs ρ τ hI0
    refine e2a5 hI0 fun _ _ _ _ _ h _ => ?_
    clear hI0
    exact stay_tup u1 (h.at u1)
  · intro ρ τ hI0
    refine e2a5 hI0 fun done rest q1 q _ xz u2 => ?_
    clear hI0
    cases List.map_eq_nil_iff.mp q1.symm
    rw [List.append_nil] at q
    rw [← q, ← H5] at u2
    have z1 := xz.at y1
    have z2 := xz.at y2
    have z10 := xz.at y10
    have zp := xz.at yp
    have zs := xz.at ys
    tb_start
    repeat (tb_rel; tb_start)
    refine ho_eq_list z10 u2 (fun _ => ?_) (fun h => absurd rfl h)
    tb_start
    repeat (tb_rel; tb_start)
    show Value.bool _ = Value.bool true
    rw [dk_len, dk_len, H6]
    simp
  · intro v xs ρ τ hI0 Kc kc
    refine e2a5 hI0 fun done rest q1 q hN39_4 xz u2 => ?_
    clear hI0
    refine e0a3 hN39_4 fun s1 s2 s3 => ?_
    clear hN39_4
    refine e2a3 (map_cons q1) fun y rest hR41_2 hR41_3 hR41_4 => ?_
    obtain rfl := hR41_2
    obtain rfl := hR41_3
    obtain rfl := hR41_4
    have z1 := xz.at y1
    have z2 := xz.at y2
    have z8 := xz.at y8
    have zb := xz.at yb
    have zl := xz.at yl
    have dl : done.length ≤ 3 := by
      have := congrArg List.length q
      simp only [List.length_append, List.length_cons, List.length_nil] at this; o_readsAll
    have fl := List.length_filter_le (fun n => decide (n ∈ sv) && decide (n ∈ left.map pf)) done
    have go : ∀ (ρ' : Rho) (τ' : Hp), (ρ' "saved" = some (.ref rb) ∧ ρ' "found" = some (.ref x) ∧ ρ' "left" = some (.ref lf)) → Ext τ2 τ' → τ' acc = some (.list (((done ++ [y]).filter fun n => decide (n ∈ sv) && decide (n ∈ left.map pf)).map vi)) → Kc ρ' τ' := fun ρ' τ' h1 h2 h3 => kc _ _ ⟨done ++ [y], rest, rfl, by rw [q]; simp, h1, h2, h3⟩
    tb_start
    repeat (tb_rel; tb_start)
    refine ho_in_list zb (fun h1 => ?_) (fun h1 => ?_)
    · tb_start
      repeat (tb_rel; tb_start)
      refine ho_comp (seq_list zl) (by w_left) (fr_intro fun c hc => ?_)
      refine comp_int (fun ρ => ρ "found" = some (.ref x)) left (fun _ => true) (fun c => vi (pf c)) (by o_readsAll) (fun l => stay_list zl (by o_reads)) ?_ (by o_shape) ?_
      · intro z hz ρ l Kc hr hl kt kf
        have hzp := (H2 z hz).1
        tb_start
        repeat (tb_rel; tb_start)
        rw [upd_upd]
        exact kt _ ((setR_ne _ _ (by decide)).trans hr) rfl
      · have e1 : (left.filter fun _ => true).map (fun c => vi (pf c)) = (left.map pf).map vi := by
          rw [List.filter_eq_self.mpr fun _ _ => rfl, List.map_map]; rfl
        rw [e1]
        tb_start
        refine ho_in_list (upd_self _ _ _) (fun h2 => ?_) (fun h2 => ?_)
        · tb_start
          repeat (tb_rel; tb_start)
          refine go _ _ ⟨by o_shape, by o_shape, by o_shape⟩ ((xz.trans (Ext.newF hc _)).put hacc.out _) ?_
          rw [List.filter_append, List.map_append, show ([y].filter fun n => decide (n ∈ sv) && decide (n ∈ left.map pf)) = [y] by simp only [List.filter_cons, List.filter_nil]; rw [if_pos (by rw [decide_eq_true h1, decide_eq_true h2]; rfl)]]
          exact upd_self _ _ _
        · tb_start
          refine go _ _ ⟨by o_shape, by o_shape, by o_shape⟩ (xz.trans (Ext.newF hc _)) ?_
          rw [List.filter_append, show ([y].filter fun n => decide (n ∈ sv) && decide (n ∈ left.map pf)) = [] by simp only [List.filter_cons, List.filter_nil]; rw [if_neg (by rw [decide_eq_false h2, Bool.and_false]; decide)], List.append_nil]
          o_reads
    · tb_start
      refine go _ _ ⟨by o_shape, by o_shape, by o_shape⟩ xz ?_
      rw [List.filter_append, show ([y].filter fun n => decide (n ∈ sv) && decide (n ∈ left.map pf)) = [] by simp only [List.filter_cons, List.filter_nil]; rw [if_neg (by rw [decide_eq_false h1, Bool.false_and]; decide)], List.append_nil]
      exact u2
end
/-! the law's own state -/
noncomputable def hideL (l : List Addr) (τ : Hp) : Hp := fun b => if b ∈ l then none else τ b
theorem hideL_at {l : List Addr} {τ : Hp} {b : Addr} {x : MO} (h : τ b = some x) (hb : b ∉ l) : hideL l τ b = some x := by unfold hideL; rw [if_neg hb]; exact h
theorem hideL_ext {l : List Addr} {τ : Hp} : Ext (hideL l τ) τ := fun b x h => by
  unfold hideL at h; split at h
  · cases h
  · exact h
theorem hideL_none {l : List Addr} {τ : Hp} {b : Addr} (hb : b ∈ l) : hideL l τ b = none := by unfold hideL; rw [if_pos hb]
theorem ext_hideL {l : List Addr} {σ τ : Hp} (e : Ext σ τ) (h : ∀ b ∈ l, σ b = none) : Ext σ (hideL l τ) := fun b x q => hideL_at (e b x q) fun hb => by rw [h b hb] at q; cases q
structure LSt (β τ : Hp) (w g lf Pm Sl : Addr) (S : SpA) (left xk : List Int) (xf : Int → Int) (yk : List Int) (yf : Int → Int) (sk tk : List Int) (many : Int) : Prop where
  wb : WB β τ w g
  b1 : β lf = none
  b2 : β Pm = none
  b3 : β Sl = none
  b4 : β S.D = none
  b5 : β S.Fx = none
  b6 : β S.Ft = none
  z : ∃ e, β S.Fz = some (.dict (ds []) e)
  s : β S.s = some (.inst 121 S.D)
  d : Pm ≠ Sl ∧ Pm ≠ S.Fx ∧ Pm ≠ S.Ft ∧ Sl ≠ S.Fx ∧ Sl ≠ S.Ft ∧ S.Fx ≠ S.Ft
  l : τ lf = some (.list (left.map vi))
  p : ∃ e, τ Pm = some (.dict (dk xk fun k => vi (xf k)) e)
  q : ∃ e, τ Sl = some (.dict (dk sk fun k => vi (4 + k)) e)
  a : ∃ m n, τ S.D = some (.att m n) ∧ n ≤ 50 ∧ m "frozen" = some (.ref S.Fz) ∧ m "fixed" = some (.ref S.Fx) ∧ m "fetched" = some (.ref S.Ft) ∧ m "many" = some (vi many)
  x : ∃ e, τ S.Fx = some (.dict (dk yk fun k => vi (yf k)) e)
  t : ∃ e, τ S.Ft = some (.dict (dk tk fun k => vi (4 + k)) e)
noncomputable def muts (w lf Pm Sl : Addr) (S : SpA) : List Addr := [w, lf, Pm, Sl, S.D, S.Fx, S.Ft]
section
variable {β β' τ τ' τ₀ : Hp} {w g lf Pm Sl : Addr} {S : SpA} {left xk yk sk tk left' xk' yk' sk' tk' : List Int} {xf yf xf' yf' : Int → Int} {many many' : Int}
theorem LSt.hidden (H : LSt β τ w g lf Pm Sl S left xk xf yk yf sk tk many) : ∀ b ∈ muts w lf Pm Sl S, β b = none := by
  intro b hb
  simp only [muts, List.mem_cons, List.not_mem_nil, or_false] at hb
  rcases hb with rfl | rfl | rfl | rfl | rfl | rfl | rfl
  · exact H.wb.nw
  · exact H.b1
  · exact H.b2
  · exact H.b3
  · exact H.b4
  · exact H.b5
  · exact H.b6
theorem LSt.there (H : LSt β τ w g lf Pm Sl S left xk xf yk yf sk tk many) : ∀ b ∈ muts w lf Pm Sl S, ∃ x, τ b = some x := by
  intro b hb
  simp only [muts, List.mem_cons, List.not_mem_nil, or_false] at hb
  rcases hb with rfl | rfl | rfl | rfl | rfl | rfl | rfl
  · obtain ⟨_, h⟩ := H.wb.well.kind; exact ⟨_, h⟩
  · exact ⟨_, H.l⟩
  · obtain ⟨_, h⟩ := H.p; exact ⟨_, h⟩
  · obtain ⟨_, h⟩ := H.q; exact ⟨_, h⟩
  · obtain ⟨_, _, h, _⟩ := H.a; exact ⟨_, h⟩
  · obtain ⟨_, h⟩ := H.x; exact ⟨_, h⟩
  · obtain ⟨_, h⟩ := H.t; exact ⟨_, h⟩
theorem LSt.spills (H : LSt β τ w g lf Pm Sl S left xk xf yk yf sk tk many) : SpillsAt τ S yk yf tk (fun k => 4 + k) many := by
  refine e1a1 H.z fun e hz => ?_
  exact ⟨H.wb.ext.at H.s, H.a, ⟨e, H.wb.ext.at hz⟩, H.x, H.t, ne_of hz H.b5, ne_of hz H.b6, H.d.2.2.2.2.2⟩
theorem LSt.more (H : LSt β τ w g lf Pm Sl S left xk xf yk yf sk tk many) (e : Ext τ τ') : LSt β τ' w g lf Pm Sl S left xk xf yk yf sk tk many :=
  ⟨H.wb.more e, H.b1, H.b2, H.b3, H.b4, H.b5, H.b6, H.z, H.s, H.d, e.at H.l, let ⟨i, h⟩ := H.p; ⟨i, e.at h⟩, let ⟨i, h⟩ := H.q; ⟨i, e.at h⟩, let ⟨m, n, h, h'⟩ := H.a; ⟨m, n, e.at h, h'⟩, let ⟨i, h⟩ := H.x; ⟨i, e.at h⟩, let ⟨i, h⟩ := H.t; ⟨i, e.at h⟩⟩
theorem LSt.down (H₀ : LSt β τ₀ w g lf Pm Sl S left' xk' xf' yk' yf' sk' tk' many') (H : LSt β' τ w g lf Pm Sl S left xk xf yk yf sk tk many) (e : Ext β β') : LSt β τ w g lf Pm Sl S left xk xf yk yf sk tk many :=
  ⟨H.wb.down e H₀.wb.giv, H₀.b1, H₀.b2, H₀.b3, H₀.b4, H₀.b5, H₀.b6, H₀.z, H₀.s, H.d, H.l, H.p, H.q, H.a, H.x, H.t⟩
theorem LSt.rebase (H : LSt β τ w g lf Pm Sl S left xk xf yk yf sk tk many) : LSt (hideL (muts w lf Pm Sl S) τ) τ w g lf Pm Sl S left xk xf yk yf sk tk many ∧ Ext β (hideL (muts w lf Pm Sl S) τ) := by
  have e := ext_hideL H.wb.ext H.hidden
  have m : ∀ {b}, b ∈ muts w lf Pm Sl S → hideL (muts w lf Pm Sl S) τ b = none := hideL_none
  refine ⟨⟨⟨hideL_ext, m (by simp [muts]), ?_, H.wb.wat⟩, m (by simp [muts]), m (by simp [muts]), m (by simp [muts]), m (by simp [muts]), m (by simp [muts]), m (by simp [muts]), ?_, e.at H.s, H.d, H.l, H.p, H.q, H.a, H.x, H.t⟩, e⟩
  · refine e1a2 H.wb.giv fun ns h h' => ?_
    exact ⟨ns, e.at h, h'⟩
  · refine e1a1 H.z fun i h => ?_
    exact ⟨i, e.at h⟩
theorem LSt.drawn (H : LSt β τ w g lf Pm Sl S left xk xf yk yf sk tk many) (h : WellAt τ' w g) (h' : ∀ b, b ≠ w → τ' b = τ b) : LSt β τ' w g lf Pm Sl S left xk xf yk yf sk tk many := by
  have k : ∀ {b : Addr} {y : MO}, τ b = some y → (∀ i, y ≠ .sd i) → τ' b = some y := fun q hy => by rw [h' _ (H.wb.well.ne q hy)]; exact q
  exact ⟨H.wb.draw h h', H.b1, H.b2, H.b3, H.b4, H.b5, H.b6, H.z, H.s, H.d, k H.l nofun, let ⟨i, h⟩ := H.p; ⟨i, k h nofun⟩, let ⟨i, h⟩ := H.q; ⟨i, k h nofun⟩, let ⟨m, n, h, h'⟩ := H.a; ⟨m, n, k h nofun, h'⟩, let ⟨i, h⟩ := H.x; ⟨i, k h nofun⟩, let ⟨i, h⟩ := H.t; ⟨i, k h nofun⟩⟩
theorem LSt.setL (H : LSt β τ w g lf Pm Sl S left xk xf yk yf sk tk many) (left' : List Int) : LSt β (upd τ lf (.list (left'.map vi))) w g lf Pm Sl S left' xk xf yk yf sk tk many := by
  refine e1a1 H.p fun i1 h1 => ?_
  refine e1a1 H.q fun i2 h2 => ?_
  refine e2a2 H.a fun m n h3 h3' => ?_
  refine e1a1 H.x fun i4 h4 => ?_
  refine e1a1 H.t fun i5 h5 => ?_
  have h0 := H.l
  exact ⟨H.wb.put H.b1 (H.wb.well.ne h0 nofun) _, H.b1, H.b2, H.b3, H.b4, H.b5, H.b6, H.z, H.s, H.d, upd_self _ _ _, ⟨i1, upd_some h1 (ne_kind h1 h0 nofun)⟩, ⟨i2, upd_some h2 (ne_kind h2 h0 nofun)⟩, ⟨m, n, upd_some h3 (ne_kind h3 h0 nofun), h3'⟩, ⟨i4, upd_some h4 (ne_kind h4 h0 nofun)⟩, ⟨i5, upd_some h5 (ne_kind h5 h0 nofun)⟩⟩
theorem LSt.setP (H : LSt β τ w g lf Pm Sl S left xk xf yk yf sk tk many) (xk' : List Int) (xf' : Int → Int) (e : Nat) : LSt β (upd τ Pm (.dict (dk xk' fun k => vi (xf' k)) e)) w g lf Pm Sl S left xk' xf' yk yf sk tk many := by
  refine e1a1 H.p fun i1 h1 => ?_
  refine e1a1 H.q fun i2 h2 => ?_
  refine e2a2 H.a fun m n h3 h3' => ?_
  refine e1a1 H.x fun i4 h4 => ?_
  refine e1a1 H.t fun i5 h5 => ?_
  have h0 := H.l
  refine e0a6 H.d fun d1 d2 d3 d4 d5 d6 => ?_
  exact ⟨H.wb.put H.b2 (H.wb.well.ne h1 nofun) _, H.b1, H.b2, H.b3, H.b4, H.b5, H.b6, H.z, H.s, H.d, upd_some h0 (ne_kind h0 h1 nofun), ⟨e, upd_self _ _ _⟩, ⟨i2, upd_some h2 d1.symm⟩, ⟨m, n, upd_some h3 (ne_kind h3 h1 nofun), h3'⟩, ⟨i4, upd_some h4 d2.symm⟩, ⟨i5, upd_some h5 d3.symm⟩⟩
theorem LSt.setQ (H : LSt β τ w g lf Pm Sl S left xk xf yk yf sk tk many) (sk' : List Int) (e : Nat) : LSt β (upd τ Sl (.dict (dk sk' fun k => vi (4 + k)) e)) w g lf Pm Sl S left xk xf yk yf sk' tk many := by
  refine e1a1 H.p fun i1 h1 => ?_
  refine e1a1 H.q fun i2 h2 => ?_
  refine e2a2 H.a fun m n h3 h3' => ?_
  refine e1a1 H.x fun i4 h4 => ?_
  refine e1a1 H.t fun i5 h5 => ?_
  have h0 := H.l
  refine e0a6 H.d fun d1 d2 d3 d4 d5 d6 => ?_
  exact ⟨H.wb.put H.b3 (H.wb.well.ne h2 nofun) _, H.b1, H.b2, H.b3, H.b4, H.b5, H.b6, H.z, H.s, H.d, upd_some h0 (ne_kind h0 h2 nofun), ⟨i1, upd_some h1 d1⟩, ⟨e, upd_self _ _ _⟩, ⟨m, n, upd_some h3 (ne_kind h3 h2 nofun), h3'⟩, ⟨i4, upd_some h4 d4.symm⟩, ⟨i5, upd_some h5 d5.symm⟩⟩
theorem LSt.setX (H : LSt β τ w g lf Pm Sl S left xk xf yk yf sk tk many) (yk' : List Int) (yf' : Int → Int) (e : Nat) : LSt β (upd τ S.Fx (.dict (dk yk' fun k => vi (yf' k)) e)) w g lf Pm Sl S left xk xf yk' yf' sk tk many := by
  refine e1a1 H.p fun i1 h1 => ?_
  refine e1a1 H.q fun i2 h2 => ?_
  refine e2a2 H.a fun m n h3 h3' => ?_
  refine e1a1 H.x fun i4 h4 => ?_
  refine e1a1 H.t fun i5 h5 => ?_
  have h0 := H.l
  refine e0a6 H.d fun d1 d2 d3 d4 d5 d6 => ?_
  exact ⟨H.wb.put H.b5 (H.wb.well.ne h4 nofun) _, H.b1, H.b2, H.b3, H.b4, H.b5, H.b6, H.z, H.s, H.d, upd_some h0 (ne_kind h0 h4 nofun), ⟨i1, upd_some h1 d2⟩, ⟨i2, upd_some h2 d4⟩, ⟨m, n, upd_some h3 (ne_kind h3 h4 nofun), h3'⟩, ⟨e, upd_self _ _ _⟩, ⟨i5, upd_some h5 d6.symm⟩⟩
theorem LSt.setT (H : LSt β τ w g lf Pm Sl S left xk xf yk yf sk tk many) (tk' : List Int) (e : Nat) : LSt β (upd τ S.Ft (.dict (dk tk' fun k => vi (4 + k)) e)) w g lf Pm Sl S left xk xf yk yf sk tk' many := by
  refine e1a1 H.p fun i1 h1 => ?_
  refine e1a1 H.q fun i2 h2 => ?_
  refine e2a2 H.a fun m n h3 h3' => ?_
  refine e1a1 H.x fun i4 h4 => ?_
  refine e1a1 H.t fun i5 h5 => ?_
  have h0 := H.l
  refine e0a6 H.d fun d1 d2 d3 d4 d5 d6 => ?_
  exact ⟨H.wb.put H.b6 (H.wb.well.ne h5 nofun) _, H.b1, H.b2, H.b3, H.b4, H.b5, H.b6, H.z, H.s, H.d, upd_some h0 (ne_kind h0 h5 nofun), ⟨i1, upd_some h1 d3⟩, ⟨i2, upd_some h2 d5⟩, ⟨m, n, upd_some h3 (ne_kind h3 h5 nofun), h3'⟩, ⟨i4, upd_some h4 d6⟩, ⟨e, upd_self _ _ _⟩⟩
theorem LSt.setM (H : LSt β τ w g lf Pm Sl S left xk xf yk yf sk tk many) {m : Str → Option Value} {n : Nat} (hm : τ S.D = some (.att m n)) (many' : Int) : LSt β (upd τ S.D (.att (setR m "many" (vi many')) (n + if (m "many").isSome = true then 0 else 1))) w g lf Pm Sl S left xk xf yk yf sk tk many' := by
  refine e1a1 H.p fun i1 h1 => ?_
  refine e1a1 H.q fun i2 h2 => ?_
  refine e2a6 H.a fun m' n' h3 g1 g2 g3 g4 g5 => ?_
  rw [hm] at h3; cases h3
  refine e1a1 H.x fun i4 h4 => ?_
  refine e1a1 H.t fun i5 h5 => ?_
  have h0 := H.l
  refine ⟨H.wb.put H.b4 (H.wb.well.ne hm nofun) _, H.b1, H.b2, H.b3, H.b4, H.b5, H.b6, H.z, H.s, H.d, upd_some h0 (ne_kind h0 hm nofun), ⟨i1, upd_some h1 (ne_kind h1 hm nofun)⟩, ⟨i2, upd_some h2 (ne_kind h2 hm nofun)⟩, ⟨_, _, upd_self _ _ _, by rw [g5]; exact g1, (setR_ne _ _ (by decide)).trans g2, (setR_ne _ _ (by decide)).trans g3, (setR_ne _ _ (by decide)).trans g4, setR_self _ _ _⟩, ⟨i4, upd_some h4 (ne_kind h4 hm nofun)⟩, ⟨i5, upd_some h5 (ne_kind h5 hm nofun)⟩⟩
end
section
variable {C : Cx} (B : Bs C) (hK : KOk C.K) {k : Nat} {β τ : Hp} {w g lf Pm Sl : Addr} {S : SpA} {left xk yk sk tk : List Int} {xf yf : Int → Int} {many : Int}
include B hK
theorem draw_lst (H : LSt β τ w g lf Pm Sl S left xk xf yk yf sk tk many) {size : Int} (hs : 0 < size) : Sp C (k + 1) (.ref 262) [.ref w, vi size] τ fun v τ' => ∃ r, v = vi r ∧ 0 ≤ r ∧ r < size ∧ LSt β τ' w g lf Pm Sl S left xk xf yk yf sk tk many :=
  (draw_spec B hK hs H.wb.well).mono fun _ _ ⟨r, h1, h2, h3, h4, h5⟩ => ⟨r, h1, h2, h3, H.drawn h4 h5⟩
end
theorem dk_new_vi {ks : List Int} {f : Int → Int} {k c : Int} (h : k ∉ ks) : stored (dk ks fun j => vi (f j)) k (vi c) = dk (ks ++ [k]) fun j => vi (if j = k then c else f j) := by
  rw [dk_new h]; refine dk_congr fun j _ => ?_; split <;> rfl
/-! what is left, what is spilled: a whole row of cells -/
structure Bal (n N : Nat) (left xk sk : List Int) (many : Int) : Prop where
  perm : List.Perm (left ++ xk ++ sk) (upN N)
  many : many = xk.length + sk.length
  sub : ∀ x ∈ left, 0 ≤ x ∧ x < n
section
variable {n N : Nat} {left xk sk : List Int} {many : Int}
theorem Bal.nd (H : Bal n N left xk sk many) : (left ++ xk ++ sk).Nodup := H.perm.nodup_iff.mpr (nodup_upN N)
theorem Bal.ndl (H : Bal n N left xk sk many) : left.Nodup := (List.nodup_append.mp (List.nodup_append.mp H.nd).1).1
theorem Bal.ndx (H : Bal n N left xk sk many) : xk.Nodup := (List.nodup_append.mp (List.nodup_append.mp H.nd).1).2.1
theorem Bal.disj (H : Bal n N left xk sk many) : ∀ x ∈ xk, x ∉ left := fun x hx hl => (List.nodup_append.mp (List.nodup_append.mp H.nd).1).2.2 x hl x hx rfl
theorem Bal.disjs (H : Bal n N left xk sk many) : ∀ x ∈ left, x ∉ xk ∧ x ∉ sk := fun x hx => ⟨fun h => H.disj x h hx, fun h => (List.nodup_append.mp H.nd).2.2 x (List.mem_append_left _ hx) x h rfl⟩
theorem Bal.len (H : Bal n N left xk sk many) : left.length + xk.length + sk.length = N := by
  have := H.perm.length_eq
  rw [len_upN, List.length_append, List.length_append] at this; exact this
theorem Bal.slot (H : Bal n N left xk sk many) {c : Int} (hc : c ∈ left) : Bal n N (left.erase c) xk (sk ++ [c]) (many + 1) := by
  refine ⟨?_, by rw [H.many, List.length_append, List.length_singleton]; o_readsAll, fun x hx => H.sub x (List.mem_of_mem_erase hx)⟩
  refine List.Perm.trans ?_ H.perm
  rw [← List.append_assoc]
  refine (List.perm_append_comm).trans ?_
  show List.Perm (c :: (left.erase c ++ xk ++ sk)) _
  exact ((List.perm_cons_erase hc).append_right xk |>.append_right sk).symm
theorem Bal.param (H : Bal n N left xk sk many) {c : Int} (hc : c ∈ left) : Bal n N (left.erase c) (xk ++ [c]) sk (many + 1) := by
  refine ⟨?_, by rw [H.many, List.length_append, List.length_singleton]; o_readsAll, fun x hx => H.sub x (List.mem_of_mem_erase hx)⟩
  refine List.Perm.trans ?_ H.perm
  have e : left.erase c ++ (xk ++ [c]) ++ sk = (left.erase c ++ xk) ++ c :: sk := by simp
  rw [e]
  refine List.perm_middle.trans ?_
  exact ((List.perm_cons_erase hc).append_right xk |>.append_right sk).symm
end
theorem perm_of_nodup {l : List Int} : ∀ {m : List Int}, l.Nodup → m.Nodup → (∀ x, x ∈ l ↔ x ∈ m) → l.Perm m := by
  induction l with
  | nil =>
    intro m _ _ h
    cases m with
    | nil => exact .nil
    | cons y m => exact absurd ((h y).mpr (List.mem_cons_self ..)) (by simp)
  | cons x l ih =>
    intro m h1 h2 h
    rw [List.nodup_cons] at h1
    have hx : x ∈ m := (h x).mp (List.mem_cons_self ..)
    refine ((ih (m := m.erase x) h1.2 (h2.erase x) fun y => ?_).cons x).trans (List.perm_cons_erase hx).symm
    rw [List.Nodup.mem_erase_iff h2]
    constructor
    · exact fun hy => ⟨fun e => h1.1 (e ▸ hy), (h y).mp (List.mem_cons_of_mem _ hy)⟩
    · intro hI0
      refine e0a2 hI0 fun e hy => ?_
      clear hI0
      exact (List.mem_cons.mp ((h y).mpr hy)).resolve_left e
theorem filter_split (p : Int → Bool) (l : List Int) : List.Perm (l.filter p ++ l.filter fun x => !p x) l := by
  induction l with
  | nil => exact .nil
  | cons x l ih =>
    cases h : p x with
    | true =>
      rw [List.filter_cons_of_pos h, List.filter_cons_of_neg (by rw [h]; decide)]
      exact ih.cons x
    | false =>
      rw [List.filter_cons_of_neg (by rw [h]; decide), List.filter_cons_of_pos (by rw [h]; rfl)]
      exact List.perm_middle.trans (ih.cons x)
/-- a graph that bears nothing of what is hidden -/
theorem GraphAt.hide {τ : Hp} {A : GA} {G : Gr} {cps : List Value} (H : GraphAt τ A G cps) {l : List Addr} (h : ∀ b ∈ l, b ≠ A.g ∧ b ≠ A.D ∧ b ≠ A.Cp ∧ ¬ Foot A G.keys b) : GraphAt (hideL l τ) A G cps := by
  refine e2a2 H.att fun m n h1 h2 => ?_
  refine e1a1 H.near fun e1 h3 => ?_
  refine e1a1 H.cross fun e2 h4 => ?_
  refine e1a1 H.cost fun e3 h5 => ?_
  refine e1a1 H.ali fun e4 h6 => ?_
  have f : ∀ {b x}, τ b = some x → Foot A G.keys b → hideL l τ b = some x := fun q hf => hideL_at q fun hb => (h _ hb).2.2.2 hf
  exact ⟨hideL_at H.inst fun hb => (h _ hb).1 rfl, ⟨m, n, hideL_at h1 fun hb => (h _ hb).2.1 rfl, h2⟩, ⟨e1, f h3 .n⟩, fun k hk => let ⟨ep, q⟩ := H.nbs k hk; ⟨ep, f q (.r hk)⟩, ⟨e2, f h4 .x⟩, ⟨e3, f h5 .c⟩, ⟨e4, f h6 .a⟩, hideL_at H.copies fun hb => (h _ hb).2.2.1 rfl, H.sep, H.sepn, H.inj, H.ok⟩
/-! what finished gives is whole: the plain law -/
section
variable {n N : Nat} {left xk sk : List Int} {many : Int}
theorem whole_H1 (b : Bal n N left xk sk many) (p : Int → Bool) : List.Perm ((left ++ xk.filter p) ++ (xk.filter fun k => !p k) ++ sk) (upN (left.length + xk.length + sk.length)) := by
  rw [b.len]
  refine List.Perm.trans ?_ b.perm
  refine List.Perm.append_right sk ?_
  rw [List.append_assoc]
  exact (filter_split p xk).append_left left
variable {G : Gr} {ld f xf : Int → Int} {rs : List (Addr × Int × Int)} {crs tl sv cs done sl : List Int}
theorem whole_H2 (hk : G.keys = left) (V : Cov G ld (fun a b => ∃ r ∈ rs, r.2.1 = a ∧ r.2.2 = b) fun a => a ∈ crs) (Pt : Part G (tl ++ sv) sv done cs f []) (hd : ∀ x, x ∈ done ↔ x ∈ G.keys ∧ G.ali x = x) (p : Int → Bool) :
    ∀ c ∈ left, c ∈ left ++ xk.filter p ∧ plF G ld f xf c ∈ (if c ∈ crs then sv else tl ++ sv) := by
  intro c hc
  rw [← hk] at hc
  have h1 := V.led.key c hc
  have h2 := V.led.fix hc
  have h3 := Pt.row (ld c) (((Pt.all _ ((hd _).mpr ⟨h1, h2⟩)).resolve_right (by simp)))
  refine ⟨List.mem_append_left _ (hk ▸ hc), ?_⟩
  unfold plF
  rw [if_pos hc]
  unfold rowOf at h3
  by_cases h : c ∈ crs
  · rw [if_pos h]
    rw [if_pos (V.crs c hc h)] at h3
    exact h3
  · rw [if_neg h]
    split at h3
    · exact List.mem_append_right _ h3
    · exact h3
theorem whole_H3 (hk : G.keys = left) (V : Cov G ld (fun a b => ∃ r ∈ rs, r.2.1 = a ∧ r.2.2 = b) fun a => a ∈ crs) (Pt : Part G (tl ++ sv) sv done cs f []) (hd : ∀ x, x ∈ done ↔ x ∈ G.keys ∧ G.ali x = x) :
    ∀ r ∈ rs, r.2.1 ∈ left → r.2.2 ∈ left → plF G ld f xf r.2.1 ≠ plF G ld f xf r.2.2 := by
  intro r hr h1 h2
  rw [← hk] at h1 h2
  have c : ∀ x ∈ G.keys, ld x ∈ cs := fun x hx => (Pt.all _ ((hd _).mpr ⟨V.led.key x hx, V.led.fix hx⟩)).resolve_right (by simp)
  unfold plF
  rw [if_pos h1, if_pos h2]
  exact Pt.apart _ (c _ h1) _ (c _ h2) (V.edge _ h1 _ h2 ⟨r, hr, rfl, rfl⟩)
theorem whole_H4 (b : Bal n N left xk sk many) (hk : G.keys = left) : ∀ k ∈ xk, (xf k < 8 → k ∈ left ++ (xk.filter fun k => decide (xf k < 8)) ∧ plF G ld f xf k = 10 + xf k) ∧ (¬ xf k < 8 → k ∈ (xk.filter fun k => !decide (xf k < 8)) ∧ xf k = xf k) := by
  intro k hx
  refine ⟨fun h => ⟨List.mem_append_right _ (List.mem_filter.mpr ⟨hx, by simpa using h⟩), ?_⟩, fun h => ⟨List.mem_filter.mpr ⟨hx, by simpa using h⟩, rfl⟩⟩
  unfold plF
  rw [if_neg (by rw [hk]; exact b.disj k hx)]
theorem saved_pos {j : Nat} (e : sv = [19, 9, 18].take j) : (∀ x ∈ sv, x = 9 ∨ x = 18 ∨ x = 19) ∧ sv.Nodup := by
  subst e
  refine ⟨fun x hx => ?_, ?_⟩
  · have := List.mem_of_mem_take hx
    simp only [List.mem_cons, List.not_mem_nil, or_false] at this
    rcases this with h | h | h
    · exact .inr (.inr h)
    · exact .inl h
    · exact .inr (.inl h)
  · exact (List.take_sublist _ _).nodup (by decide)
theorem whole_H5 {j : Nat} (e : sv = [19, 9, 18].take j) (hk : G.keys = left) (b : Bal n N left xk sk many) (xp : ∀ k ∈ xk, 0 ≤ xf k) (h1 : List.Pairwise (· ≤ ·) sl) (h2 : List.Perm sl (sv.filter fun n => decide (∃ k ∈ G.keys ++ xk.filter fun k => decide (xf k < 8), plF G ld f xf k = n))) :
    sl = [9, 18, 19].filter fun n => decide (n ∈ sv) && decide (n ∈ left.map (plF G ld f xf)) := by
  refine e0a2 (saved_pos e) fun s1 s2 => ?_
  refine sorted_eq (h2.trans (perm_of_nodup (s2.filter _) ((show ([9, 18, 19] : List Int).Nodup by decide).filter _) fun x => ?_)) h1 (List.Pairwise.filter _ (by decide))
  rw [List.mem_filter, List.mem_filter, decide_eq_true_eq, Bool.and_eq_true, decide_eq_true_eq, decide_eq_true_eq, List.mem_map]
  constructor
  · intro hI0
    refine hideG fun PG kG => ?_
    obtain ⟨hx, k, hk1, hk2⟩ := hI0
    refine kG ?_
    clear kG PG
    have hx3 := s1 x hx
    refine ⟨by simpa using hx3, hx, ?_⟩
    rcases List.mem_append.mp hk1 with h | h
    · exact ⟨k, hk ▸ h, hk2⟩
    · refine e0a2 (List.mem_filter.mp h) fun g1 g2 => ?_
      have g3 := xp k g1
      rw [decide_eq_true_eq] at g2
      unfold plF at hk2
      rw [if_neg (by rw [hk]; exact b.disj k g1)] at hk2
      o_readsAll
  · intro hI0
    refine hideG fun PG kG => ?_
    obtain ⟨_, hx, k, hk1, hk2⟩ := hI0
    refine kG ?_
    clear kG PG
    exact ⟨hx, k, List.mem_append_left _ (hk ▸ hk1), hk2⟩
end
theorem upN_add (n m : Nat) : upN (n + m) = upN n ++ (upN m).map fun i => (n : Int) + i := by
  unfold upN
  rw [List.range_add, List.map_append, List.map_map, List.map_map]
  congr 1
theorem LSt.nilf {β τ : Hp} {w g lf Pm Sl : Addr} {S : SpA} {left sk tk : List Int} {xf yf xf' yf' : Int → Int} {many : Int} (H : LSt β τ w g lf Pm Sl S left [] xf [] yf sk tk many) : LSt β τ w g lf Pm Sl S left [] xf' [] yf' sk tk many :=
  ⟨H.wb, H.b1, H.b2, H.b3, H.b4, H.b5, H.b6, H.z, H.s, H.d, H.l, H.p, H.q, H.a, H.x, H.t⟩
/-- a graph whose own places alone are new to the base -/
theorem GIn.own {σ τ : Hp} {A : GA} {G : Gr} {cps : List Value} (H : GIn σ τ A G cps) : ∃ γ, GIn γ τ A G cps ∧ Ext σ γ ∧ Ext γ τ ∧ γ A.g = some (.inst 187 A.D) ∧ ∃ m n, γ A.D = some (.att m n) ∧ m "copies" = some (.ref A.Cp) := by
  classical
  refine GraphAt.elim H.at_ fun m nn e1 e2 e3 e4 i1 i2 i3 i4 i5 i6 i7 i8 i9 i10 i11 i12 i13 i14 i15 d1 d2 d3 d4 d5 f1 f2 f3 f4 f5 f6 f7 f8 _ _ _ _ _ _ => ?_
  have fr : ∀ {b x}, τ b = some x → (∀ l e, x ≠ .dict l e) → ¬ Foot A G.keys b := fun q hx h => by
    rcases h with h | h | h | h | ⟨k, hk, h⟩
    · rw [h, d1] at q; cases q; exact hx _ _ rfl
    · rw [h, d2] at q; cases q; exact hx _ _ rfl
    · rw [h, d3] at q; cases q; exact hx _ _ rfl
    · rw [h, d4] at q; cases q; exact hx _ _ rfl
    · refine e1a1 (H.at_.nbs k hk) fun ep r => ?_
      rw [h, r] at q; cases q; exact hx _ _ rfl
  have hx : Ext (fun b => if Foot A G.keys b then none else τ b) τ := fun b y q => by
    replace q : (if Foot A G.keys b then none else τ b) = some y := q
    split at q
    · cases q
    · exact q
  refine ⟨fun b => if Foot A G.keys b then none else τ b, ⟨H.at_, hx, fun b hb => if_pos hb⟩, fun b y q => ?_, hx, ?_, m, nn, ?_, i7⟩
  · exact (if_neg (fun h => by rw [H.new b h] at q; cases q)).trans (H.ext b y q)
  · exact (if_neg (fr i1 nofun)).trans i1
  · exact (if_neg (fr i2 nofun)).trans i2
theorem GIn.same {γ τ : Hp} {A A' : GA} {G' : Gr} {cps' : List Value} {m : Str → Option Value} {n : Nat} (H : GIn γ τ A' G' cps') (hg : A'.g = A.g) (h1 : γ A.g = some (.inst 187 A.D)) (h2 : γ A.D = some (.att m n)) (h3 : m "copies" = some (.ref A.Cp)) : A'.D = A.D ∧ A'.Cp = A.Cp := by
  have k1 := H.ext.at h1
  rw [← hg, H.at_.inst] at k1
  have eD : A'.D = A.D := by injection k1 with h; injection h
  refine e2a7 H.at_.att fun m' n' g1 g2 g3 g4 g5 g6 _ => ?_
  have k2 := H.ext.at h2
  rw [← eD, g1] at k2
  injection k2 with h; injection h with h4 h5
  refine ⟨eD, ?_⟩
  rw [h4, h3] at g6
  injection g6 with h; injection h with h; exact h.symm
noncomputable def RL (w t rw pp ss Pm Sl lf : Addr) (n : Nat) (ix : Int) (ρ : Rho) : Prop := ρ "well" = some (.ref w) ∧ ρ "many" = some (vi n) ∧ ρ "picture" = some (.ref t) ∧ ρ "rows" = some (.ref rw) ∧ ρ "pools" = some (.ref pp) ∧ ρ "spills" = some (.ref ss) ∧ ρ "index" = some (vi ix) ∧ ρ "params" = some (.ref Pm) ∧ ρ "slots" = some (.ref Sl) ∧ ρ "left" = some (.ref lf)
section
variable {C : Cx} (B : Bs C) (hK : KOk C.K) {k : Nat}
include B hK
theorem law_spec {l : Addr} {vs : Array Value} {ns : List Int} (hl : C.h₀.IsList l vs) (hI : IntsAre vs.toList ns) (h63 : ns.length ≤ 63) : Sp C (k + 6) (.ref 282) [.ref l] (fun _ => none) fun v _ => v = .bool true := by
  refine fn_startL B (fn_282 hK) lk_282_dbg rfl rfl ?_
  intro PX
  -- the well
  refine exs_cut 1 (fun ρ τ => ∃ w g, ρ "well" = some (.ref w) ∧ WellAt τ w g) (fun K hQ => ?_) ?_
  · tb_start
    refine ⟨⟨by decide, rfl, rfl⟩, fr_intro fun w hw => ?_⟩
    have u0 : upd (fun _ => none) w (MO.sd []) w = some (.sd []) := upd_self _ _ _
    generalize upd (fun _ => none) w (MO.sd []) = τ0 at *
    tb_start
    repeat (tb_rel; tb_start)
    refine ho_upto0 hl (by decide) (by have := hI.length; rw [Array.length_toList] at this; o_readsAll) (fr_intro fun c hc => ?_)
    rw [ints_norm hI, ← List.map_take]
    have u1 : upd τ0 c (.list ((ns.take (Int.toNat 63)).map vi)) c = some (.list ((ns.take (Int.toNat 63)).map vi)) := upd_self _ _ _
    have u2 : upd τ0 c (.list ((ns.take (Int.toNat 63)).map vi)) w = some (.sd []) := upd_some u0 (ne_of' hc u0)
    have tl : (ns.take (Int.toNat 63)).length ≤ 63 := by rw [List.length_take]; o_readsAll
    generalize ns.take (Int.toNat 63) = ms at *
    tb_start
    refine ho_comp (seq_list u1) (by w_left) (fr_intro fun g hg => ?_)
    generalize upd τ0 c (.list (ms.map vi)) = τ1 at *
    refine comp_int (fun _ => True) ms (fun _ => true) (fun y => vi (y.fmod 2147483647)) (by o_readsAll) (fun l => stay_list u1 (by o_reads)) ?_ trivial ?_
    · intro y hy ρ l Kc hr hl kt kf
      tb_start
      repeat (tb_rel; tb_start)
      rw [upd_upd]
      exact kt _ trivial rfl
    · have e1 : (ms.filter fun _ => true).map (fun y => vi (y.fmod 2147483647)) = (ms.map fun y => y.fmod 2147483647).map vi := by
        rw [List.filter_eq_self.mpr fun _ _ => rfl, List.map_map]; rfl
      rw [e1]
      have nw : g ≠ w := (ne_of' hg u2).symm
      tb_start
      refine ⟨upd_some u2 (ne_of' hg u2), (by decide : (["given", "at", "last"] : List Str).Nodup), ?_⟩
      tb_start
      exact hQ _ _ ⟨w, g, by o_shape, WellAt.of (upd_self _ _ _) rfl (upd_some (upd_self _ _ _) nw) (by decide) (by rw [List.length_map]; o_readsAll)⟩
  intro ρ1 τ1 hI0
  refine e2a2 hI0 fun w g p1 W1 => ?_
  clear hI0
  -- the picture
  refine exs_cut 2 (fun ρ τ => ∃ (n : Nat) (t : Addr) (rs : List (Addr × Int × Int)) (crs cst : List Int) (ts : List (Addr × Int × Int × Int)) (β : Hp), ρ "well" = some (.ref w) ∧ ρ "many" = some (vi n) ∧ ρ "picture" = some (.ref t) ∧ 2 ≤ n ∧ n ≤ 7 ∧ WB β τ w g ∧ PicAt β t n rs crs cst ts) (fun K hQ => ?_) ?_
  · have B1 := WB.hide1 W1
    tb_start
    repeat (tb_rel; tb_start)
    refine Sp.mono (draw_wb B hK B1 (by decide)) fun v τ2 h => ?_
    refine e1a4 h fun r hR4_1 r0 r6 W2 => ?_
    clear h
    obtain rfl := hR4_1
    obtain ⟨n, hn⟩ : ∃ n : Nat, 2 + r = n := ⟨(2 + r).toNat, by o_readsAll⟩
    tb_start
    repeat (tb_rel; tb_start)
    rw [hn]
    refine Sp.mono (picture_spec B hK W2.well (n := n) (by o_readsAll) (by o_readsAll)) fun v τ3 h => ?_
    refine e6a4 h fun t rs crs cst ts β hR5_6 W3 _ P => ?_
    clear h
    obtain rfl := hR5_6
    tb_start
    repeat (tb_rel; tb_start)
    exact hQ _ _ ⟨n, t, rs, crs, cst, ts, β, by o_shape, by o_shape, by o_shape, by o_readsAll, by o_readsAll, W3, P⟩
  intro ρ2 τ2 hI0
  refine e7a7 hI0 fun n t rs crs cst ts β2 p1 p2 p3 n2 n7 W2 P2 => ?_
  clear hI0
  -- the rows
  refine exs_cut 1 (fun ρ τ => ∃ (rw ra rb : Addr) (i j : Nat) (β : Hp), ρ "well" = some (.ref w) ∧ ρ "many" = some (vi n) ∧ ρ "picture" = some (.ref t) ∧ ρ "rows" = some (.ref rw) ∧ WB β τ w g ∧ Ext β2 β ∧ β rw = some (.tup [.ref ra, .ref rb]) ∧ β ra = some (.list (([28, 29, 30].take i).map vi)) ∧ β rb = some (.list (([19, 9, 18].take j).map vi))) (fun K hQ => ?_) ?_
  · have e1 : ∀ m, List.take m [vi 28, vi 29, vi 30] = (List.take m ([28, 29, 30] : List Int)).map vi := fun m => by rw [List.map_take]; rfl
    have e2 : ∀ m, List.take m [vi 19, vi 9, vi 18] = (List.take m ([19, 9, 18] : List Int)).map vi := fun m => by rw [List.map_take]; rfl
    tb_start
    repeat (tb_rel; tb_start)
    refine fr_intro fun c1 h1 => ?_
    have Wa := W2.more (Ext.newF h1 (.list [vi 28, vi 29, vi 30]))
    have ua : upd τ2 c1 (.list [vi 28, vi 29, vi 30]) c1 = some (.list [vi 28, vi 29, vi 30]) := upd_self _ _ _
    have Ba := WB.hide1 Wa.well
    have ba := hide_at (c1 := w) (c2 := w) ua (Wa.well.ne ua nofun) (Wa.well.ne ua nofun)
    have xa : Ext β2 (hide w w (upd τ2 c1 (.list [vi 28, vi 29, vi 30]))) := ext_hide Wa.ext Wa.nw Wa.nw
    generalize upd τ2 c1 (.list [vi 28, vi 29, vi 30]) = τa at *
    generalize hide w w τa = βa at *
    tb_start
    repeat (tb_rel; tb_start)
    refine Sp.mono (draw_wb B hK Ba (by decide)) fun v τ3 h => ?_
    refine e1a4 h fun i hR7_1 i0 i4 W3 => ?_
    clear h
    obtain rfl := hR7_1
    tb_start
    repeat (tb_rel; tb_start)
    refine ho_upto (W3.ext.at ba) i0 (by decide) (fr_intro fun ra hra => ?_)
    rw [e1]
    have W4 := W3.more (Ext.newF hra (.list ((List.take i.toNat [28, 29, 30]).map vi)))
    have u4 : upd τ3 ra (.list ((List.take i.toNat [28, 29, 30]).map vi)) ra = some (.list ((List.take i.toNat [28, 29, 30]).map vi)) := upd_self _ _ _
    generalize upd τ3 ra (.list ((List.take i.toNat [28, 29, 30]).map vi)) = τ4 at *
    tb_start
    repeat (tb_rel; tb_start)
    refine fr_intro fun c2 h2 => ?_
    have Wb := W4.more (Ext.newF h2 (.list [vi 19, vi 9, vi 18]))
    have ub : upd τ4 c2 (.list [vi 19, vi 9, vi 18]) c2 = some (.list [vi 19, vi 9, vi 18]) := upd_self _ _ _
    have ub4 := (Ext.newF h2 (.list [vi 19, vi 9, vi 18])).at u4
    have Bb := WB.hide1 Wb.well
    have bb := hide_at (c1 := w) (c2 := w) ub (Wb.well.ne ub nofun) (Wb.well.ne ub nofun)
    have b4 := hide_at (c1 := w) (c2 := w) ub4 (Wb.well.ne ub4 nofun) (Wb.well.ne ub4 nofun)
    have xb : Ext βa (hide w w (upd τ4 c2 (.list [vi 19, vi 9, vi 18]))) := ext_hide Wb.ext Wb.nw Wb.nw
    generalize upd τ4 c2 (.list [vi 19, vi 9, vi 18]) = τb at *
    generalize hide w w τb = βb at *
    tb_start
    repeat (tb_rel; tb_start)
    refine Sp.mono (draw_wb B hK Bb (by decide)) fun v τ5 h => ?_
    refine e1a4 h fun j hR8_1 j0 j4 W5 => ?_
    clear h
    obtain rfl := hR8_1
    tb_start
    repeat (tb_rel; tb_start)
    refine ho_upto (W5.ext.at bb) j0 (by decide) (fr_intro fun rb hrb => ?_)
    rw [e2]
    have W6 := W5.more (Ext.newF hrb (.list ((List.take j.toNat [19, 9, 18]).map vi)))
    have u6 : upd τ5 rb (.list ((List.take j.toNat [19, 9, 18]).map vi)) rb = some (.list ((List.take j.toNat [19, 9, 18]).map vi)) := upd_self _ _ _
    generalize upd τ5 rb (.list ((List.take j.toNat [19, 9, 18]).map vi)) = τ6 at *
    tb_start
    repeat (tb_rel; tb_start)
    refine fr_intro fun rw hrw => ?_
    have x7 := Ext.newF hrw (.tup [.ref ra, .ref rb])
    have W7 := W6.more x7
    have u7 : upd τ6 rw (.tup [.ref ra, .ref rb]) rw = some (.tup [.ref ra, .ref rb]) := upd_self _ _ _
    have u8 := x7.at u6
    tb_start
    repeat (tb_rel; tb_start)
    generalize upd τ6 rw (.tup [.ref ra, .ref rb]) = τ7 at *
    have x9 : Ext βb (hide w w τ7) := ext_hide W7.ext W7.nw W7.nw
    exact hQ _ _ ⟨rw, ra, rb, i.toNat, j.toNat, _, by o_shape, by o_shape, by o_shape, by o_shape, WB.hide1 W7.well, (xa.trans xb).trans x9, hide_at u7 (W7.well.ne u7 nofun) (W7.well.ne u7 nofun), x9.at b4, hide_at u8 (W7.well.ne u8 nofun) (W7.well.ne u8 nofun)⟩
  clear W2 p1 p2 p3
  intro ρ3 τ3 hI0
  refine e6a9 hI0 fun rw ra rb i j β3 p1 p2 p3 p4 W3 x23 q1 q2 q3 => ?_
  clear hI0
  have P3 := P2.ext x23
  have tl5 : ([28, 29, 30].take i : List Int).length ≤ 5 := by rw [List.length_take]; simp; o_readsAll
  have sl5 : ([19, 9, 18].take j : List Int).length ≤ 5 := by rw [List.length_take]; simp; o_readsAll
  have tpos : ∀ x ∈ ([28, 29, 30].take i : List Int), 0 ≤ x := fun x hx => by
    have := List.mem_of_mem_take hx
    simp only [List.mem_cons, List.not_mem_nil, or_false] at this
    o_readsAll
  have esv : ∃ sv : List Int, sv = [19, 9, 18].take j := ⟨_, rfl⟩
  refine e1a1 esv fun sv hsv => ?_
  clear esv
  rw [← hsv] at q3 sl5
  generalize ([28, 29, 30].take i : List Int) = tl at *
  -- pools, spills, index
  refine exs_cut 1 (fun ρ τ => ∃ (PP : PA) (S : SpA) (ix : Int) (β : Hp), ρ "well" = some (.ref w) ∧ ρ "many" = some (vi n) ∧ ρ "picture" = some (.ref t) ∧ ρ "rows" = some (.ref rw) ∧ ρ "pools" = some (.ref PP.p) ∧ ρ "spills" = some (.ref S.s) ∧ ρ "index" = some (vi ix) ∧ 0 ≤ ix ∧
      WB β τ w g ∧ Ext β3 β ∧ PoolsAt β PP (tl ++ sv) sv ∧ SpillsAt τ S [] (fun _ => 0) [] (fun _ => 0) 0 ∧ ∀ b, b = S.s ∨ b = S.D ∨ b = S.Fz ∨ b = S.Fx ∨ b = S.Ft → β b = none) (fun K hQ => ?_) ?_
  · have r1 := W3.ext.at q1
    have r2 := W3.ext.at q2
    have r3 := W3.ext.at q3
    tb_start
    repeat (tb_rel; tb_start)
    refine Sp.mono (pools_new B hK r2 r3 tl5 sl5) fun v τ4 h => ?_
    refine e1a3 h fun PP hR11_1 HP xp => ?_
    clear h
    obtain rfl := hR11_1
    have W4 := W3.more xp
    have B4 := WB.hide1 W4.well
    have x4 : Ext β3 (hide w w τ4) := ext_hide W4.ext W4.nw W4.nw
    have HPb : PoolsAt (hide w w τ4) PP (tl ++ sv) sv := by
      refine e2a2 HP.att fun m nn g1 g2 => ?_
      exact ⟨hide_at HP.inst (W4.well.ne HP.inst nofun) (W4.well.ne HP.inst nofun), ⟨m, nn, hide_at g1 (W4.well.ne g1 nofun) (W4.well.ne g1 nofun), g2⟩, hide_at HP.la (W4.well.ne HP.la nofun) (W4.well.ne HP.la nofun), hide_at HP.lk (W4.well.ne HP.lk nofun) (W4.well.ne HP.lk nofun), HP.n1, HP.n2⟩
    tb_start
    repeat (tb_rel; tb_start)
    refine Sp.mono (spills_new B hK) fun v τ5 h => ?_
    refine e1a4 h fun S hR13_1 HS xs hf => ?_
    clear h
    obtain rfl := hR13_1
    have W5 := B4.more xs
    have nS : ∀ b, b = S.s ∨ b = S.D ∨ b = S.Fz ∨ b = S.Fx ∨ b = S.Ft → hide w w τ4 b = none := fun b hb => hide_ext.none (hf b hb)
    generalize hide w w τ4 = β4 at *
    have B5 := WB.hide1 W5.well
    have x5 : Ext β4 (hide w w τ5) := ext_hide W5.ext W5.nw W5.nw
    have HSb : SpillsAt (hide w w τ5) S [] (fun _ => 0) [] (fun _ => 0) 0 := by
      refine e2a2 HS.att fun m nn g1 g2 => ?_
      refine e1a1 HS.fz fun e1 g3 => ?_
      refine e1a1 HS.fx fun e2 g4 => ?_
      refine e1a1 HS.ft fun e3 g5 => ?_
      exact ⟨hide_at HS.inst (W5.well.ne HS.inst nofun) (W5.well.ne HS.inst nofun), ⟨m, nn, hide_at g1 (W5.well.ne g1 nofun) (W5.well.ne g1 nofun), g2⟩, ⟨e1, hide_at g3 (W5.well.ne g3 nofun) (W5.well.ne g3 nofun)⟩, ⟨e2, hide_at g4 (W5.well.ne g4 nofun) (W5.well.ne g4 nofun)⟩, ⟨e3, hide_at g5 (W5.well.ne g5 nofun) (W5.well.ne g5 nofun)⟩, HS.sep⟩
    tb_start
    repeat (tb_rel; tb_start)
    refine Sp.mono (draw_wb B hK B5 (by decide)) fun v τ6 h => ?_
    refine e1a4 h fun ix hR18_1 ix0 _ W6 => ?_
    clear h
    obtain rfl := hR18_1
    tb_start
    repeat (tb_rel; tb_start)
    refine fr_intro fun tp htp => ?_
    have x6 := Ext.newF htp (.tup [.ref PP.p, .ref S.s, vi ix])
    have W7 := W6.more x6
    tb_start
    repeat (tb_rel; tb_start)
    have HS7 : SpillsAt (upd τ6 tp (.tup [.ref PP.p, .ref S.s, vi ix])) S [] (fun _ => 0) [] (fun _ => 0) 0 := by
      have x := W7.ext
      refine e2a2 HSb.att fun m nn g1 g2 => ?_
      refine e1a1 HSb.fz fun e1 g3 => ?_
      refine e1a1 HSb.fx fun e2 g4 => ?_
      refine e1a1 HSb.ft fun e3 g5 => ?_
      exact ⟨x.at HSb.inst, ⟨m, nn, x.at g1, g2⟩, ⟨e1, x.at g3⟩, ⟨e2, x.at g4⟩, ⟨e3, x.at g5⟩, HSb.sep⟩
    exact hQ _ _ ⟨PP, S, ix, β4, by o_shape, by o_shape, by o_shape, by o_shape, by o_shape, by o_shape, by o_shape, ix0, W7.down x5 W5.giv, x4, HPb, HS7, nS⟩
  clear W3 p1 p2 p3 p4
  intro ρ4 τ4 hI0
  refine e4a13 hI0 fun PP S ix β4 p1 p2 p3 p4 p5 p6 p7 ix0 W4 x34 HP4 HS4 nS => ?_
  clear hI0
  have P4 := P3.ext x34
  replace q1 := x34.at q1
  replace q2 := x34.at q2
  replace q3 := x34.at q3
  -- params, slots, left
  refine exs_cut 1 (fun ρ τ => ∃ (Pm Sl lf : Addr) (β : Hp), RL w t rw PP.p S.s Pm Sl lf n ix ρ ∧ LSt β τ w g lf Pm Sl S (upN n) [] (fun _ => 0) [] (fun _ => 0) [] [] 0 ∧ Ext β4 β) (fun K hQ => ?_) ?_
  · tb_start
    repeat (tb_rel; tb_start)
    refine fr_intro2 fun Pm e1 h1 => ?_
    tb_start
    repeat (tb_rel; tb_start)
    refine fr_intro2 fun Sl e2 h2 => ?_
    tb_start
    repeat (tb_rel; tb_start)
    refine ho_range (by o_readsAll) (by o_readsAll) (fr_intro fun c hc => ?_)
    rw [Int.toNat_natCast]
    tb_start
    repeat (tb_rel; tb_start)
    refine fr_intro fun lf h3 => ?_
    tb_start
    repeat (tb_rel; tb_start)
    refine fr_intro fun tp htp => ?_
    have y1 := Ext.newF h1 (.dict [] e1)
    have y2 := y1.trans (Ext.newF h2 (.dict [] e2))
    have y3 := y2.trans (Ext.newF hc (.rng n))
    have y4 := y3.trans (Ext.newF h3 (.list (rangeL n)))
    have y5 := y4.trans (Ext.newF htp (.tup [.ref Pm, .ref Sl, .ref lf]))
    tb_start
    repeat (tb_rel; tb_start)
    have v1 : upd (upd (upd (upd (upd τ4 Pm (.dict [] e1)) Sl (.dict [] e2)) c (.rng n)) lf (.list (rangeL n))) tp (.tup [.ref Pm, .ref Sl, .ref lf]) Pm = some (.dict [] e1) := by o_reads
    have v2 : upd (upd (upd (upd (upd τ4 Pm (.dict [] e1)) Sl (.dict [] e2)) c (.rng n)) lf (.list (rangeL n))) tp (.tup [.ref Pm, .ref Sl, .ref lf]) Sl = some (.dict [] e2) := by o_reads
    have v3 : upd (upd (upd (upd (upd τ4 Pm (.dict [] e1)) Sl (.dict [] e2)) c (.rng n)) lf (.list (rangeL n))) tp (.tup [.ref Pm, .ref Sl, .ref lf]) lf = some (.list ((upN n).map vi)) := by show _ = some (MO.list (rangeL n)); o_reads
    have f1 : τ4 Pm = none := h1.out
    have f2 : τ4 Sl = none := y1.fr h2
    have f3 : τ4 lf = none := y3.fr h3
    have d1 : Pm ≠ Sl := by o_fieldsN
    generalize upd (upd (upd (upd (upd τ4 Pm (.dict [] e1)) Sl (.dict [] e2)) c (.rng n)) lf (.list (rangeL n))) tp (.tup [.ref Pm, .ref Sl, .ref lf]) = τ5 at *
    have W5 := W4.more y5
    have xL : Ext β4 (hideL (muts w lf Pm Sl S) τ5) := ext_hideL W5.ext fun b hb => by
      simp only [muts, List.mem_cons, List.not_mem_nil, or_false] at hb
      rcases hb with rfl | rfl | rfl | rfl | rfl | rfl | rfl
      · exact W4.nw
      · exact W4.ext.none f3
      · exact W4.ext.none f1
      · exact W4.ext.none f2
      · exact nS _ (.inr (.inl rfl))
      · exact nS _ (.inr (.inr (.inr (.inl rfl))))
      · exact nS _ (.inr (.inr (.inr (.inr rfl))))
    have hL : ∀ {b}, b ∈ muts w lf Pm Sl S → hideL (muts w lf Pm Sl S) τ5 b = none := hideL_none
    refine e2a2 HS4.att fun m nn g1 g2 => ?_
    refine e1a1 HS4.fz fun i1 g3 => ?_
    refine e1a1 HS4.fx fun i2 g4 => ?_
    refine e1a1 HS4.ft fun i3 g5 => ?_
    have gi := HS4.inst
    refine e0a3 HS4.sep fun s1 s2 s3 => ?_
    have z1 := y5.at g3
    have z2 := y5.at gi
    have z3 := y5.at g1
    have z4 := y5.at g4
    have z5 := y5.at g5
    refine hQ _ _ ⟨Pm, Sl, lf, _, ⟨by o_shape, by o_shape, by o_shape, by o_shape, by o_shape, by o_shape, by o_shape, by o_shape, by o_shape, by o_shape⟩, ⟨⟨hideL_ext, hL (by simp [muts]), ?_, W5.wat⟩, hL (by simp [muts]), hL (by simp [muts]), hL (by simp [muts]), hL (by simp [muts]), hL (by simp [muts]), hL (by simp [muts]), ⟨i1, hideL_at z1 ?_⟩, hideL_at z2 ?_, ⟨d1, (ne_of g4 f1).symm, (ne_of g5 f1).symm, (ne_of g4 f2).symm, (ne_of g5 f2).symm, s3⟩, v3, ⟨e1, v1⟩, ⟨e2, v2⟩, ⟨m, nn, z3, g2⟩, ⟨i2, z4⟩, ⟨i3, z5⟩⟩, xL⟩
    · refine e1a2 W4.giv fun ms h h' => ?_
      exact ⟨ms, xL.at h, h'⟩
    · intro hb
      simp only [muts, List.mem_cons, List.not_mem_nil, or_false] at hb
      rcases hb with h | h | h | h | h | h | h
      · exact W5.well.ne z1 nofun h
      · exact ne_of g3 f3 h
      · exact ne_of g3 f1 h
      · exact ne_of g3 f2 h
      · exact ne_kind z1 z3 nofun h
      · exact s1 h
      · exact s2 h
    · intro hb
      simp only [muts, List.mem_cons, List.not_mem_nil, or_false] at hb
      rcases hb with h | h | h | h | h | h | h
      · exact W5.well.ne z2 nofun h
      · exact ne_of gi f3 h
      · exact ne_of gi f1 h
      · exact ne_of gi f2 h
      · exact ne_kind z2 z3 nofun h
      · exact ne_kind z2 z4 nofun h
      · exact ne_kind z2 z5 nofun h
  clear W4 p1 p2 p3 p4 p5 p6 p7 HS4 nS
  intro ρ5 τ5 hI0
  refine e4a3 hI0 fun Pm Sl lf β5 pL L5 x45 => ?_
  clear hI0
  have P5 := P4.ext x45
  have HP5 := HP4.ext x45
  replace q1 := x45.at q1
  replace q2 := x45.at q2
  replace q3 := x45.at q3
  clear x23 x34 x45 P2 P3 P4 HP4
  -- the parameters
  refine exs_cut 2 (fun ρ τ => RL w t rw PP.p S.s Pm Sl lf n ix ρ ∧ ∃ (N : Nat) (xk : List Int) (xf : Int → Int) (many : Int) (β : Hp), N ≤ 10 ∧ Ext β5 β ∧ LSt β τ w g lf Pm Sl S (upN n) xk xf xk xf [] [] many ∧ Bal n N (upN n) xk [] many ∧ ∀ k ∈ xk, 0 ≤ xf k) (fun K hQ => ?_) ?_
  · refine exs_cut 1 (fun ρ τ => RL w t rw PP.p S.s Pm Sl lf n ix ρ ∧ ∃ (m : Nat) (β : Hp), m ≤ 3 ∧ Ext β5 β ∧ LSt β τ w g lf Pm Sl S (upN n) ((upN m).map fun i => (n : Int) + i) (fun j => ix + (j - n)) ((upN m).map fun i => (n : Int) + i) (fun j => ix + (j - n)) [] [] 0) (fun K1 hQ1 => ?_) ?_
    · have pp := pL
      refine e0a10 pL fun p1 p2 p3 p4 p5 p6 p7 p8 p9 p10 => ?_
      clear pL
      tb_start
      repeat (tb_rel; tb_start)
      refine Sp.mono (draw_lst B hK L5 (by decide)) fun v τ6 h => ?_
      refine e1a4 h fun m hR32_1 m0 m4 L6 => ?_
      clear h
      obtain rfl := hR32_1
      tb_start
      repeat (tb_rel; tb_start)
      refine ho_range m0 (by o_readsAll) (fr_intro fun c hc => ?_)
      have cm : c ∉ muts w lf Pm Sl S := fun h => by
        refine e1a1 (L6.there c h) fun x hx => ?_
        exact ne_of' hc hx rfl
      have L7 := L6.more (Ext.newF hc (.rng m.toNat))
      have u7 : upd τ6 c (.rng m.toNat) c = some (.rng m.toNat) := upd_self _ _ _
      tb_start
      refine ho_for (seq_rng u7) (by show ((upN m.toNat).map vi).length ≤ _; rw [List.length_map, len_upN]; o_readsAll) ?_
      generalize upd τ6 c (.rng m.toNat) = τ7 at *
      refine e0a2 L7.rebase fun L8 x8 => ?_
      have b8 := hideL_at u7 cm
      generalize hideL (muts w lf Pm Sl S) τ7 = β8 at *
      refine for_ind (fun xs ρ τ => ∃ (done rest : List Int), xs = List.map vi rest ∧ upN m.toNat = done ++ rest ∧ RL w t rw PP.p S.s Pm Sl lf n ix ρ ∧ LSt β8 τ w g lf Pm Sl S (upN n) (done.map fun i => (n : Int) + i) (fun j => ix + (j - n)) (done.map fun i => (n : Int) + i) (fun j => ix + (j - n)) [] [] 0) ?_ ?_ ?_ ⟨[], upN m.toNat, rfl, rfl, pp, L8.nilf⟩
      · intro xs ρ τ hI0
        refine e2a4 hI0 fun _ _ _ _ _ h => ?_
        clear hI0
        exact stay_rng u7 (h.wb.ext.at b8)
      · intro ρ τ hI0
        refine e2a4 hI0 fun done rest e1 e p h => ?_
        clear hI0
        cases List.map_eq_nil_iff.mp e1.symm
        rw [List.append_nil] at e
        rw [← e] at h
        exact hQ1 _ _ ⟨p, m.toNat, β8, by o_readsAll, x8, h⟩
      · intro v xs ρ τ hI0 K2 kn _ _ _
        refine e2a4 hI0 fun done rest e1 e hN37_4 L9 => ?_
        clear hI0
        refine e0a10 hN37_4 fun p1 p2 p3 p4 p5 p6 p7 p8 p9 p10 => ?_
        clear hN37_4
        refine e2a3 (map_cons e1) fun y rest hR39_2 hR39_3 hR39_4 => ?_
        obtain rfl := hR39_2
        obtain rfl := hR39_3
        obtain rfl := hR39_4
        have hy := mem_upN.mp (show y ∈ upN m.toNat by rw [e]; simp)
        have dl : done.length ≤ 3 := by
          have := congrArg List.length e
          rw [len_upN, List.length_append] at this; o_readsAll
        have hyd : y ∉ done := fun h => by
          have := nodup_upN m.toNat
          rw [e] at this
          exact (List.nodup_append.mp this).2.2 y h y (List.mem_cons_self ..) rfl
        have hkd : (n : Int) + y ∉ done.map fun i => (n : Int) + i := fun h => by
          refine e1a2 (List.mem_map.mp h) fun z hz h => ?_
          exact hyd (by rw [show y = z by o_readsAll]; exact hz)
        have e5 : stored (dk (done.map fun i => (n : Int) + i) fun k => vi (ix + (k - n))) (n + y) (vi (ix + y)) = dk ((done ++ [y]).map fun i => (n : Int) + i) fun k => vi (ix + (k - n)) := by
          rw [dk_new_vi hkd, List.map_append]
          refine dk_congr fun j _ => ?_
          split
          · rename_i h; rw [h]; congr 1; o_readsAll
          · rfl
        refine exs_cut 1 (fun ρ' τ' => RL w t rw PP.p S.s Pm Sl lf n ix ρ' ∧ ρ' "turn" = some (vi y) ∧ LSt β8 τ' w g lf Pm Sl S (upN n) ((done ++ [y]).map fun i => (n : Int) + i) (fun j => ix + (j - n)) (done.map fun i => (n : Int) + i) (fun j => ix + (j - n)) [] [] 0) (fun K3 hQ3 => ?_) ?_
        · refine e1a1 L9.p fun ep hp => ?_
          tb_start
          repeat (tb_rel; tb_start)
          rw [e5]
          exact hQ3 _ _ ⟨⟨by o_shape, by o_shape, by o_shape, by o_shape, by o_shape, by o_shape, by o_shape, by o_shape, by o_shape, by o_shape⟩, by o_shape, L9.setP _ _ _⟩
        · intro ρ' τ' hI0
          refine e0a3 hI0 fun hN42_0 pt L10 => ?_
          clear hI0
          refine e0a10 hN42_0 fun p1 p2 p3 p4 p5 p6 p7 p8 p9 p10 => ?_
          clear hN42_0
          refine e1a1 L10.x fun ex hx => ?_
          refine e2a6 L10.a fun ma na g1 g2 g3 g4 g5 g6 => ?_
          have gs := L10.wb.ext.at L10.s
          tb_start
          repeat (tb_rel; tb_start)
          rw [e5]
          exact kn _ _ ⟨done ++ [y], rest, rfl, by rw [e]; simp, ⟨by o_shape, by o_shape, by o_shape, by o_shape, by o_shape, by o_shape, by o_shape, by o_shape, by o_shape, by o_shape⟩, L10.setX _ _ _⟩
    · intro ρ6 τ6 hI0
      refine hideG fun PG kG => ?_
      obtain ⟨⟨p1, p2, p3, p4, p5, p6, p7, p8, p9, p10⟩, m, β, m3, x56, L6⟩ := hI0
      refine kG ?_
      clear kG PG
      refine e1a1 L6.p fun ep hp => ?_
      refine e2a6 L6.a fun ma na g1 g2 g3 g4 g5 g6 => ?_
      have gs := L6.wb.ext.at L6.s
      have ml : ((upN m).map fun i => (n : Int) + i).length ≤ 3 := by rw [List.length_map, len_upN]; exact m3
      tb_start
      repeat (tb_rel; tb_start)
      refine hQ _ _ ⟨⟨p1, p2, p3, p4, p5, p6, p7, p8, p9, p10⟩, n + m, _, _, _, β, by o_readsAll, x56, L6.setM g1 _, ⟨?_, ?_, fun x hx => mem_upN.mp hx⟩, fun k hk => ?_⟩
      · rw [List.append_nil, ← upN_add]
      · rw [dk_len]; simp
      · refine e1a2 (List.mem_map.mp hk) fun z hz hR50_2 => ?_
        obtain rfl := hR50_2
        have := mem_upN.mp hz
        show 0 ≤ ix + ((n : Int) + z - n)
        o_readsAll
  clear L5 pL
  intro ρ6 τ6 hI0
  refine hideG fun PG kG => ?_
  obtain ⟨pL, N, xk, xf, many, β6, N10, x56, L6, Bl, xp⟩ := hI0
  refine kG ?_
  clear kG PG
  have P6 := P5.ext x56
  have HP6 := HP5.ext x56
  replace q1 := x56.at q1
  replace q2 := x56.at q2
  replace q3 := x56.at q3
  clear x56 P5 HP5
  -- round by round
  have pp := pL
  refine e0a10 pL fun p1 p2 p3 p4 p5 p6 p7 p8 p9 p10 => ?_
  clear pL
  tb_start
  repeat (tb_rel; tb_start)
  refine ho_range (by o_readsAll) (by o_readsAll) (fr_intro fun c hc => ?_)
  rw [show ((n : Int) + 1).toNat = n + 1 by o_readsAll]
  have cm : c ∉ muts w lf Pm Sl S := fun h => by
    refine e1a1 (L6.there c h) fun x hx => ?_
    exact ne_of' hc hx rfl
  have L7 := L6.more (Ext.newF hc (.rng (n + 1)))
  have u7 : upd τ6 c (.rng (n + 1)) c = some (.rng (n + 1)) := upd_self _ _ _
  tb_start
  refine ho_for (seq_rng u7) (by show ((upN (n + 1)).map vi).length ≤ _; rw [List.length_map, len_upN]; o_readsAll) ?_
  generalize upd τ6 c (.rng (n + 1)) = τ7 at *
  refine e0a2 L7.rebase fun L8 x8 => ?_
  have b8 := hideL_at u7 cm
  generalize hideL (muts w lf Pm Sl S) τ7 = β8 at *
  have P8 := P6.ext x8
  have HP8 := HP6.ext x8
  replace q1 := x8.at q1
  replace q2 := x8.at q2
  replace q3 := x8.at q3
  refine for_ind (fun xs ρ τ => ∃ (done rest left xk sk : List Int) (xf : Int → Int) (many : Int), xs = List.map vi rest ∧ upN (n + 1) = done ++ rest ∧ RL w t rw PP.p S.s Pm Sl lf n ix ρ ∧ LSt β8 τ w g lf Pm Sl S left xk xf xk xf sk sk many ∧ Bal n N left xk sk many ∧ (∀ k ∈ xk, 0 ≤ xf k) ∧ left.length + done.length ≤ n) ?_ ?_ ?_
    ⟨[], upN (n + 1), upN n, xk, [], xf, many, rfl, rfl, pp, L8, Bl, xp, by rw [len_upN]; exact Nat.le_refl _⟩
  · intro xs ρ τ hI0
    refine e7a5 hI0 fun _ _ _ _ _ _ _ _ _ _ h _ => ?_
    clear hI0
    exact stay_rng u7 (h.wb.ext.at b8)
  · intro ρ τ hI0
    refine e7a7 hI0 fun done rest left xk sk xf many e1 e _ _ _ _ h => ?_
    clear hI0
    cases List.map_eq_nil_iff.mp e1.symm
    rw [List.append_nil] at e
    have := congrArg List.length e
    rw [len_upN] at this
    o_readsAll
  · intro v xs ρ τ hI0 K2 kn _ _ kr
    refine e7a7 hI0 fun done rest left xk sk xf many e1 e p Lt Bl xp hle => ?_
    clear hI0
    refine e2a3 (map_cons e1) fun y rest hR58_2 hR58_3 hR58_4 => ?_
    obtain rfl := hR58_2
    obtain rfl := hR58_3
    obtain rfl := hR58_4
    have hN := Bl.len
    have lsub := Bl.sub
    have lnd := Bl.ndl
    have Pt := P8.ext Lt.wb.ext
    have HPt := HP8.ext Lt.wb.ext
    refine e1a1 Lt.z fun ez hz8 => ?_
    have hz := Lt.wb.ext.at hz8
    have hlf := Lt.l
    refine e2a6 Lt.a fun ma na g1 g2 g3 g4 g5 g6 => ?_
    have gs := Lt.wb.ext.at Lt.s
    refine e0a2 (saved_pos hsv) fun sp1 _ => ?_
    have hkp : ∀ x ∈ sv, 0 ≤ x := fun x hx => by have := sp1 x hx; o_readsAll
    have hal : ∀ x ∈ tl ++ sv, 0 ≤ x := fun x hx => (List.mem_append.mp hx).elim (tpos x) (hkp x)
    refine exs_cut 3 (fun ρ' τ' => RL w t rw PP.p S.s Pm Sl lf n ix ρ' ∧ ∃ (A : GA) (G : Gr) (ld : Int → Int) (c1 c2 : Addr) (cs : List Int) (f : Int → Int) (ls dn : List Int) (ec1 ec2 : Nat) (cps : List Value), ρ' "graph" = some (.ref A.g) ∧ ρ' "colours" = some (.ref c1) ∧ ρ' "lost" = some (.ref c2) ∧ Ext τ τ' ∧ GraphAt τ' A G cps ∧ G.keys = left ∧
      Cov G ld (fun a b => ∃ r ∈ rs, r.2.1 = a ∧ r.2.2 = b) (fun a => a ∈ crs) ∧ τ' c1 = some (.dict (dk cs fun k => vi (f k)) ec1) ∧ τ' c2 = some (.dict (ds ls) ec2) ∧ Part G (tl ++ sv) sv dn cs f ls ∧ (∀ x, x ∈ dn ↔ x ∈ G.keys ∧ G.ali x = x) ∧ (∀ b ∈ muts w lf Pm Sl S, b ≠ A.g ∧ b ≠ A.D ∧ b ≠ A.Cp ∧ ¬ Foot A G.keys b) ∧ c2 ∉ muts w lf Pm Sl S) (fun K3 hQ3 => ?_) ?_
    · refine e0a10 p fun p1 p2 p3 p4 p5 p6 p7 p8 p9 p10 => ?_
      clear p
      tb_start
      repeat (tb_rel; tb_start)
      refine Sp.mono (graph_spec B hK Pt hlf lnd lsub n7) fun v τ1 h => ?_
      refine e3a8 h fun A G cps hR63_3 HG hk V hcp fg fD fC => ?_
      clear h
      obtain rfl := hR63_3
      refine hideG fun PG kG => ?_
      obtain ⟨γ, HG1, xγ, xγ1, γg, mγ, nγ, γD, γC⟩ := HG.own
      refine kG ?_
      clear kG PG
      have gs1 := HG.ext.at gs
      have g11 := HG.ext.at g1
      tb_start
      repeat (tb_rel; tb_start)
      refine Sp.mono (coalesce_spec B hK HG1 V (HPt.ext xγ) (xγ.at hz) (by rw [hk]; exact hcp.ext xγ)) fun v τ2 h => ?_
      refine hideG fun PG kG => ?_
      obtain ⟨rfl, A', G', ld', ag, HG2, hk2, V2⟩ := h
      refine kG ?_
      clear kG PG
      refine e0a2 (HG2.same ag γg γD γC) fun eD eC => ?_
      have x2 := xγ.trans HG2.ext
      have gs2 := x2.at gs
      have g12 := x2.at g1
      rw [← ag]
      tb_start
      repeat (tb_rel; tb_start)
      refine Sp.mono (coloured_spec B hK HG2.at_ V2.nice V2.led (HPt.ext x2) (x2.at hz) (by rw [hk2, hk]; exact hcp.ext x2) hal hkp) fun v τ3 h => ?_
      refine e9a9 h fun tt c1 c2 cs f ls ec1 ec2 dn hR67_9 ht hc1 hc2 x3 n1 n2' Pr hdn => ?_
      clear h
      obtain rfl := hR67_9
      tb_start
      repeat (tb_rel; tb_start)
      refine hQ3 _ _ ⟨⟨by o_shape, by o_shape, by o_shape, by o_shape, by o_shape, by o_shape, by o_shape, by o_shape, by o_shape, by o_shape⟩, A', G', ld', c1, c2, cs, f, ls, dn, ec1, ec2, cps, by o_shape, by o_shape, by o_shape, x2.trans x3, HG2.at_.ext x3, hk2.trans hk, V2, hc1, hc2, Pr, hdn, fun b hb => ?_, fun hb => ?_⟩
      · refine e1a1 (Lt.there b hb) fun x hx => ?_
        refine ⟨?_, ?_, ?_, fun h => ?_⟩
        · rw [ag]; exact ne_of hx fg
        · rw [eD]; exact ne_of hx fD
        · rw [eC]; exact ne_of hx fC
        · have := HG2.new b h
          rw [xγ.at hx] at this; cases this
      · refine e1a1 (Lt.there c2 hb) fun x hx => ?_
        exact ne_of (x2.at hx) n2' rfl
    clear p
    intro ρ3 τ3 hI0
    refine hideG fun PG kG => ?_
    obtain ⟨⟨p1, p2, p3, p4, p5, p6, p7, p8, p9, p10⟩, A, G, ld, c1, c2, cs, f, ls, dn, ec1, ec2, cps, pg, pc, pl, x3, HG, hk, V, hc1, hc2, Pr, hdn, hmut, hc2m⟩ := hI0
    refine kG ?_
    clear kG PG
    tb_start
    repeat (tb_rel; tb_start)
    refine fr_intro2 fun d0 e0 hd0 => ?_
    have x4 := Ext.newF hd0 (.dict [] e0)
    have u4 : upd τ3 d0 (.dict [] e0) d0 = some (.dict [] e0) := upd_self _ _ _
    have hc1 := x4.at hc1
    have hc2 := x4.at hc2
    have HG := HG.ext x4
    have x4' := x3.trans x4
    tb_start
    refine ho_eq_dict hc2 u4 (fun h => ?_) (fun h => ?_)
    · cases List.map_eq_nil_iff.mp h
      generalize upd τ3 d0 (.dict [] e0) = τ4 at *
      have L4 := Lt.more x4'
      tb_start
      repeat (tb_rel; tb_start)
      refine Sp.mono (finished_spec B hK HG V.led (HPt.ext x4') L4.spills hc1 (fun x hx ha => (Pr.all x ((hdn x).mpr ⟨hx, ha⟩)).resolve_right (by simp)) Bl.ndx (by rw [hk]; exact Bl.disj) (by o_readsAll)) fun v τ5 h => ?_
      refine e2a5 h fun x sl hR72_2 x5 HA hs1 hs2 => ?_
      clear h
      obtain rfl := hR72_2
      rw [hk] at HA
      have L5 := L4.more x5
      have x5' := (Lt.wb.ext.trans x4').trans x5
      refine e1a1 L5.p fun e6 hp6 => ?_
      refine e1a1 L5.q fun e7 hq7 => ?_
      refine e1a1 L5.t fun e8 ht8 => ?_
      have fl1 := List.length_filter_le (fun k => decide (xf k < 8)) xk
      have fl2 := List.length_filter_le (fun k => !decide (xf k < 8)) xk
      tb_start
      repeat (tb_rel; tb_start)
      refine Sp.mono (whole_spec B hK (P8.ext x5') HA L5.l (x5'.at q1) (x5'.at q2) (x5'.at q3) hp6 hq7 ht8 (by o_readsAll) (by o_readsAll) (by o_readsAll) (by rw [List.length_append]; o_readsAll) (by o_readsAll) tl5 sl5 (whole_H1 Bl _) (whole_H2 hk V Pr hdn _) (whole_H3 hk V Pr hdn) (whole_H4 Bl hk) (whole_H5 hsv hk Bl xp hs1 hs2) Bl.many) fun v τ6 h => ?_
      subst h
      exact kr _ _ _ rfl
    · have hls : ls ≠ [] := fun e => h (by rw [e]; rfl)
      generalize upd τ3 d0 (.dict [] e0) = τ4 at *
      have L4 := Lt.more x4'
      refine e0a2 L4.rebase fun L5 x5 => ?_
      have G5 := HG.hide hmut
      have c5 := hideL_at hc2 hc2m
      generalize hideL (muts w lf Pm Sl S) τ4 = β9 at *
      have dsub : ∀ r ∈ ls, r ∈ left ∧ ld r = r := fun r hr => by
        refine e0a2 ((hdn r).mp (Pr.lsub r hr)) fun h1 h2 => ?_
        refine e1a1 (V.led.ch r h1) fun m ch => ?_
        exact ⟨hk ▸ h1, (ch.uniq (.base h2))⟩
      have lsl : ls.length ≤ 10 := Nat.le_trans (nodup_le Pr.lnd fun x hx => (dsub x hx).1) (by o_readsAll)
      tb_start
      repeat (tb_rel; tb_start)
      refine ho_for (seq_dict hc2) (by w_left) ?_
      refine for_ind (fun xs ρ τ => ∃ (d2 r2 left' xk' sk' : List Int) (xf' : Int → Int) (many' : Int), xs = List.map vi r2 ∧ ls = d2 ++ r2 ∧ RL w t rw PP.p S.s Pm Sl lf n ix ρ ∧ ρ "graph" = some (.ref A.g) ∧ LSt β9 τ w g lf Pm Sl S left' xk' xf' xk' xf' sk' sk' many' ∧ Bal n N left' xk' sk' many' ∧ (∀ k ∈ xk', 0 ≤ xf' k) ∧ ∀ y, y ∈ left' ↔ y ∈ left ∧ ld y ∉ d2) ?_ ?_ ?_
        ⟨[], ls, left, xk, sk, xf, many, rfl, rfl, ⟨p1, p2, p3, p4, p5, p6, p7, p8, p9, p10⟩, pg, L5, Bl, xp, fun y => by simp⟩
      · intro xs ρ τ hI0
        refine e7a6 hI0 fun _ _ _ _ _ _ _ _ _ _ _ h _ => ?_
        clear hI0
        exact stay_dict hc2 (h.wb.ext.at c5)
      · intro ρ' τ' hI0
        refine e7a8 hI0 fun d2 r2 left' xk' sk' xf' many' e1 e2 p _ L6 Bl6 xp6 hl6 => ?_
        clear hI0
        cases List.map_eq_nil_iff.mp e1.symm
        rw [List.append_nil] at e2
        subst e2
        refine kn _ _ ⟨done ++ [y], rest, left', xk', sk', xf', many', rfl, by rw [e]; simp, p, Lt.down L6 x5, Bl6, xp6, ?_⟩
        refine e1a1 (List.exists_mem_of_ne_nil _ hls) fun r hr => ?_
        refine e0a2 (dsub r hr) fun h1 h2 => ?_
        have hlt := nodup_le (m := left.erase r) Bl6.ndl fun z hz => by
          refine e0a2 ((hl6 z).mp hz) fun g7 g8 => ?_
          exact (List.mem_erase_of_ne (fun e => g8 (by rw [e, h2]; exact hr))).mpr g7
        rw [List.length_erase_of_mem h1] at hlt
        have := List.length_pos_of_mem h1
        rw [List.length_append, List.length_singleton]
        o_readsAll
      · intro v xs ρ' τ' hI0 K4 kn4 _ _ _
        refine e7a8 hI0 fun d2 r2 left' xk' sk' xf' many' e1 e2 hN84_9 pg L6 Bl6 xp6 hl6 => ?_
        clear hI0
        refine e0a10 hN84_9 fun p1 p2 p3 p4 p5 p6 p7 p8 p9 p10 => ?_
        clear hN84_9
        refine e2a3 (map_cons e1) fun r r2 hR86_2 hR86_3 hR86_4 => ?_
        obtain rfl := hR86_2
        obtain rfl := hR86_3
        obtain rfl := hR86_4
        have hrd : r ∉ d2 := fun h => by
          have := Pr.lnd
          rw [e2] at this
          exact (List.nodup_append.mp this).2.2 r h r (List.mem_cons_self ..) rfl
        have G6 := G5.ext L6.wb.ext
        refine GraphAt.elim G6 fun m nn ea eb ec ed i1 i2 i3 i4 i5 i6 i7 i8 i9 i10 i11 i12 i13 i14 i15 _ _ _ _ _ _ _ _ _ _ _ _ _ _ _ _ _ _ _ => ?_
        tb_start
        repeat (tb_rel; tb_start)
        refine Sp.mono (members_spec B hK G6 V.led) fun v τ7 h => ?_
        refine e1a3 h fun cm hR87_1 hcm hR87_3 => ?_
        clear h
        obtain rfl := hR87_1
        obtain rfl := hR87_3
        have cmm : cm ∉ muts w lf Pm Sl S := fun h => by
          refine e1a1 (L6.there cm h) fun x hx => ?_
          exact ne_of' hcm hx rfl
        have L7 := L6.more (Ext.newF hcm (.list ((G.keys.filter fun y => ld y == r).map vi)))
        have u7 : upd τ' cm (.list ((G.keys.filter fun y => ld y == r).map vi)) cm = some (.list ((G.keys.filter fun y => ld y == r).map vi)) := upd_self _ _ _
        have hM : ∀ z, z ∈ (G.keys.filter fun y => ld y == r) ↔ z ∈ left ∧ ld z = r := fun z => by
          rw [List.mem_filter, hk, beq_iff_eq]
        have hMn : (G.keys.filter fun y => ld y == r).Nodup := by rw [hk]; exact lnd.filter _
        have hMl : (G.keys.filter fun y => ld y == r).length ≤ 10 := by
          have := List.length_filter_le (fun y => ld y == r) G.keys
          rw [hk] at this ⊢; o_readsAll
        generalize (G.keys.filter fun y => ld y == r) = M at *
        tb_start
        refine ho_for (seq_list u7) (by w_left) ?_
        generalize upd τ' cm (.list (M.map vi)) = τ7 at *
        refine e0a2 L7.rebase fun L8 x8 => ?_
        have b8 := hideL_at u7 cmm
        generalize hideL (muts w lf Pm Sl S) τ7 = β10 at *
        refine for_ind (fun xs ρ τ => ∃ (d3 r3 left'' xk'' sk'' : List Int) (xf'' : Int → Int) (many'' : Int), xs = List.map vi r3 ∧ M = d3 ++ r3 ∧ (RL w t rw PP.p S.s Pm Sl lf n ix ρ ∧ ρ "graph" = some (.ref A.g)) ∧ LSt β10 τ w g lf Pm Sl S left'' xk'' xf'' xk'' xf'' sk'' sk'' many'' ∧ Bal n N left'' xk'' sk'' many'' ∧ (∀ k ∈ xk'', 0 ≤ xf'' k) ∧ ∀ y, y ∈ left'' ↔ y ∈ left' ∧ y ∉ d3) ?_ ?_ ?_
          ⟨[], M, left', xk', sk', xf', many', rfl, rfl, ⟨⟨by o_shape, by o_shape, by o_shape, by o_shape, by o_shape, by o_shape, by o_shape, by o_shape, by o_shape, by o_shape⟩, by o_shape⟩, L8, Bl6, xp6, fun y => by simp⟩
        · intro xs ρ τ hI0
          refine e7a5 hI0 fun _ _ _ _ _ _ _ _ _ _ h _ => ?_
          clear hI0
          exact stay_list u7 (h.wb.ext.at b8)
        · intro ρ'' τ'' hI0
          refine e7a7 hI0 fun d3 r3 left'' xk'' sk'' xf'' many'' e1 e3 hN91_9 L9 Bl9 xp9 hl9 => ?_
          clear hI0
          refine e0a2 hN91_9 fun p pg' => ?_
          clear hN91_9
          cases List.map_eq_nil_iff.mp e1.symm
          rw [List.append_nil] at e3
          subst e3
          refine kn4 _ _ ⟨d2 ++ [r], r2, left'', xk'', sk'', xf'', many'', rfl, by rw [e2]; simp, p, pg', L6.down L9 x8, Bl9, xp9, fun z => ?_⟩
          rw [hl9, hl6, hM, List.mem_append, List.mem_singleton]
          constructor
          · intro hI0
            refine e0a2 hI0 fun hN93_0 h3 => ?_
            clear hI0
            refine e0a2 hN93_0 fun h1 h2 => ?_
            clear hN93_0
            exact ⟨h1, fun h => h.elim h2 fun h => h3 ⟨h1, h⟩⟩
          · intro hI0
            refine e0a2 hI0 fun h1 h2 => ?_
            clear hI0
            exact ⟨⟨h1, fun h => h2 (.inl h)⟩, fun h => h2 (.inr h.2)⟩
        · intro v xs ρ'' τ'' hI0 K5 kn5 _ _ _
          refine e7a7 hI0 fun d3 r3 left'' xk'' sk'' xf'' many'' e1 e3 hN96_9 L9 Bl9 xp9 hl9 => ?_
          clear hI0
          refine e0a2 hN96_9 fun hN97_0 pg' => ?_
          clear hN96_9
          refine e0a10 hN97_0 fun p1 p2 p3 p4 p5 p6 p7 p8 p9 p10 => ?_
          clear hN97_0
          refine e2a3 (map_cons e1) fun z r3 hR99_2 hR99_3 hR99_4 => ?_
          obtain rfl := hR99_2
          obtain rfl := hR99_3
          obtain rfl := hR99_4
          have hzM : z ∈ M := by rw [e3]; simp
          have hzd : z ∉ d3 := fun h => by
            rw [e3] at hMn
            exact (List.nodup_append.mp hMn).2.2 z h z (List.mem_cons_self ..) rfl
          have hzl : z ∈ left'' := by
            refine e0a2 ((hM z).mp hzM) fun h1 h2 => ?_
            exact (hl9 z).mpr ⟨(hl6 z).mpr ⟨h1, by rw [h2]; exact hrd⟩, hzd⟩
          refine e0a2 (Bl9.disjs z hzl) fun zx zs => ?_
          have bl9 := Bl9.len
          have fin : ∀ (ρf : Rho) (τf : Hp) xkf skf xff manyf, RL w t rw PP.p S.s Pm Sl lf n ix ρf → ρf "graph" = some (.ref A.g) → LSt β10 τf w g lf Pm Sl S (left''.erase z) xkf xff xkf xff skf skf manyf → Bal n N (left''.erase z) xkf skf manyf → (∀ k ∈ xkf, 0 ≤ xff k) → K5 .next ρf τf := fun ρf τf xkf skf xff manyf h1 h2 h3 h4 h5 =>
            kn5 _ _ ⟨d3 ++ [z], r3, left''.erase z, xkf, skf, xff, manyf, rfl, by rw [e3]; simp, ⟨h1, h2⟩, h3, h4, h5, fun y => by
              rw [List.Nodup.mem_erase_iff Bl9.ndl, hl9, List.mem_append, List.mem_singleton]
              constructor
              · intro hI0
                refine e0a3 hI0 fun h6 h7 h8 => ?_
                clear hI0
                exact ⟨h7, fun h => h.elim h8 h6⟩
              · intro hI0
                refine e0a2 hI0 fun h6 h7 => ?_
                clear hI0
                exact ⟨fun h => h7 (.inr h), h6, fun h => h7 (.inl h)⟩⟩
          have bS := Bl9.slot hzl
          have bP := Bl9.param hzl
          clear kn5 hl9
          refine exs_cut 1 (fun ρf τf => RL w t rw PP.p S.s Pm Sl lf n ix ρf ∧ ρf "graph" = some (.ref A.g) ∧ ρf "cell" = some (vi z) ∧ LSt β10 τf w g lf Pm Sl S (left''.erase z) xk'' xf'' xk'' xf'' sk'' sk'' many'') (fun K6 hQ6 => ?_) ?_
          · have hl10 := L9.l
            tb_start
            repeat (tb_rel; tb_start)
            refine ho_remove hl10 (by o_readsAll) hzl ?_
            tb_start
            repeat (tb_rel; tb_start)
            exact hQ6 _ _ ⟨⟨by o_shape, by o_shape, by o_shape, by o_shape, by o_shape, by o_shape, by o_shape, by o_shape, by o_shape, by o_shape⟩, by o_shape, by o_shape, L9.setL _⟩
          clear p1 p2 p3 p4 p5 p6 p7 p8 p9 p10 pg' L9
          intro ρa τa hI0
          refine e0a4 hI0 fun pL pg' pz L10 => ?_
          clear hI0
          refine exs_cut 1 (fun ρf τf => RL w t rw PP.p S.s Pm Sl lf n ix ρf ∧ ρf "graph" = some (.ref A.g) ∧ ∃ (xkf skf : List Int) (xff : Int → Int), LSt β10 τf w g lf Pm Sl S (left''.erase z) xkf xff xkf xff skf skf many'' ∧ Bal n N (left''.erase z) xkf skf (many'' + 1) ∧ ∀ k ∈ xkf, 0 ≤ xff k) (fun K6 hQ6 => ?_) ?_
          · have pp := pL
            refine e0a10 pL fun p1 p2 p3 p4 p5 p6 p7 p8 p9 p10 => ?_
            clear pL
            tb_start
            repeat (tb_rel; tb_start)
            refine Sp.mono (draw_lst B hK L10 (by decide)) fun v τb h => ?_
            refine e1a4 h fun rr hR106_1 _ _ L11 => ?_
            clear h
            obtain rfl := hR106_1
            tb_start
            repeat (tb_rel; tb_start)
            refine on_bool (fun _ => ?_) (fun _ => ?_)
            · show exsW _ _ _ τb _
              refine exs_cut 1 (fun ρf τf => ρf = ρa ∧ LSt β10 τf w g lf Pm Sl S (left''.erase z) xk'' xf'' xk'' xf'' (sk'' ++ [z]) sk'' many'') (fun K7 hQ7 => ?_) ?_
              · refine e1a1 L11.q fun eq hq => ?_
                tb_start
                repeat (tb_rel; tb_start)
                have e6 : stored (dk sk'' fun k => vi (4 + k)) z (vi (4 + z)) = dk (sk'' ++ [z]) fun k => vi (4 + k) := by
                  rw [dk_new_vi zs]
                  refine dk_congr fun j _ => ?_
                  split
                  · rename_i h; rw [h]
                  · rfl
                rw [e6]
                exact hQ7 _ _ ⟨rfl, L11.setQ _ _⟩
              · intro ρf τf hI0
                refine e0a2 hI0 fun hR108_0 L12 => ?_
                clear hI0
                obtain rfl := hR108_0
                refine e1a1 L12.t fun et ht => ?_
                refine e2a6 L12.a fun mb nb h1 h2 h3 h4 h5 h6 => ?_
                have gs := L12.wb.ext.at L12.s
                tb_start
                repeat (tb_rel; tb_start)
                have e6 : stored (dk sk'' fun k => vi (4 + k)) z (vi (4 + z)) = dk (sk'' ++ [z]) fun k => vi (4 + k) := by
                  rw [dk_new_vi zs]
                  refine dk_congr fun j _ => ?_
                  split
                  · rename_i h; rw [h]
                  · rfl
                rw [e6]
                exact hQ6 _ _ ⟨pp, pg', xk'', sk'' ++ [z], xf'', L12.setT _ _, bS, xp9⟩
            · show exsW _ _ _ τb _
              have hd : ∃ xff : Int → Int, xff = (fun j => if j = z then ix + ((dk xk'' fun k => vi (xf'' k)).length : Int) else xf'' j) := ⟨_, rfl⟩
              refine e1a1 hd fun xff hxff => ?_
              clear hd
              have hxz : xff z = ix + ((dk xk'' fun k => vi (xf'' k)).length : Int) := by rw [hxff]; exact if_pos rfl
              have hxo : ∀ j, j ≠ z → xff j = xf'' j := fun j hj => by rw [hxff]; exact if_neg hj
              refine exs_cut 1 (fun ρf τf => ρf = ρa ∧ LSt β10 τf w g lf Pm Sl S (left''.erase z) (xk'' ++ [z]) xff xk'' xf'' sk'' sk'' many'') (fun K7 hQ7 => ?_) ?_
              · refine e1a1 L11.p fun ep hp => ?_
                tb_start
                repeat (tb_rel; tb_start)
                have e6 : stored (dk xk'' fun k => vi (xf'' k)) z (vi (ix + ((dk xk'' fun k => vi (xf'' k)).length : Int))) = dk (xk'' ++ [z]) fun k => vi (xff k) := by
                  rw [dk_new_vi zx, hxff]
                rw [e6]
                exact hQ7 _ _ ⟨rfl, L11.setP _ _ _⟩
              · intro ρf τf hI0
                refine e0a2 hI0 fun hR113_0 L12 => ?_
                clear hI0
                obtain rfl := hR113_0
                refine e1a1 L12.p fun ep hp => ?_
                refine e1a1 L12.x fun ex hx => ?_
                refine e2a6 L12.a fun mb nb h1 h2 h3 h4 h5 h6 => ?_
                have gs := L12.wb.ext.at L12.s
                have hzm : z ∈ xk'' ++ [z] := by simp
                tb_start
                repeat (tb_rel; tb_start)
                have e6 : stored (dk xk'' fun k => vi (xf'' k)) z (vi (xff z)) = dk (xk'' ++ [z]) fun k => vi (xff k) := by
                  rw [dk_new_vi zx]
                  refine dk_congr fun j _ => ?_
                  split
                  · rename_i h; rw [h]
                  · rename_i h; rw [hxo j h]
                rw [e6]
                refine hQ6 _ _ ⟨pp, pg', xk'' ++ [z], sk'', xff, L12.setX _ _ _, bP, fun k hk => ?_⟩
                by_cases q : k = z
                · rw [q, hxz]; o_readsAll
                · rw [hxo k q]
                  exact xp9 k ((List.mem_append.mp hk).resolve_right fun h => q (List.mem_singleton.mp h))
          · clear pL pg' L10
            intro ρb τb hI0
            refine hideG fun PG kG => ?_
            obtain ⟨⟨p1, p2, p3, p4, p5, p6, p7, p8, p9, p10⟩, pg', xkf, skf, xff, L13, Bf, xpf⟩ := hI0
            refine kG ?_
            clear kG PG
            refine e2a6 L13.a fun mb nb h1 h2 h3 h4 h5 h6 => ?_
            have gs := L13.wb.ext.at L13.s
            tb_start
            repeat (tb_rel; tb_start)
            exact fin _ _ xkf skf xff _ ⟨p1, p2, p3, p4, p5, p6, p7, p8, p9, p10⟩ pg' (L13.setM h1 _) Bf xpf
end
theorem law_sp : LawSp := fun _ B hK _ _ _ hl hI h63 => law_spec (k := 14) B hK hl hI h63
end Mine
end
theorem PySem.Challenge.cw_sa0178_01_holds : PySem.Challenge.rw_sa0178_01.Holds := by
  exact Mine.J Mine.law_sp
