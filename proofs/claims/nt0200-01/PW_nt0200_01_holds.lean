import PyProof.Rows.All
import Wide.All
import OpenK.AllK
import Wide.FinOn
import PySem.Challenge.RW_nt0200_01
open PySem PySem.W PySem.Calls PyProof.Rows
set_option Elab.async false
set_option linter.all false
set_option bootstrap.genMatcherCode false
set_option maxRecDepth 100000
noncomputable section
namespace Mine
theorem xAA {p0 : Prop} {p1 : Prop} {p2 : Prop} {C : Prop} (h : p0 ∧ p1 ∧ p2) (k : p0 → p1 → p2 → C) : C := by
  obtain ⟨h0, h1, h2⟩ := h
  exact k h0 h1 h2
theorem yAA {p0 : Prop} {p1 : Prop} {p2 : Prop} {C : Prop} (k : p0 → p1 → p2 → C) (h : p0 ∧ p1 ∧ p2) : C := xAA h k
theorem xAAA {p0 : Prop} {p1 : Prop} {p2 : Prop} {p3 : Prop} {C : Prop} (h : p0 ∧ p1 ∧ p2 ∧ p3) (k : p0 → p1 → p2 → p3 → C) : C := by
  obtain ⟨h0, h1, h2, h3⟩ := h
  exact k h0 h1 h2 h3
theorem yAAA {p0 : Prop} {p1 : Prop} {p2 : Prop} {p3 : Prop} {C : Prop} (k : p0 → p1 → p2 → p3 → C) (h : p0 ∧ p1 ∧ p2 ∧ p3) : C := xAAA h k
theorem xAAAAA {p0 : Prop} {p1 : Prop} {p2 : Prop} {p3 : Prop} {p4 : Prop} {p5 : Prop} {C : Prop} (h : p0 ∧ p1 ∧ p2 ∧ p3 ∧ p4 ∧ p5) (k : p0 → p1 → p2 → p3 → p4 → p5 → C) : C := by
  obtain ⟨h0, h1, h2, h3, h4, h5⟩ := h
  exact k h0 h1 h2 h3 h4 h5
theorem xAAAEEAAAA {T3 T4 : Type} {p0 : Prop} {p1 : Prop} {p2 : Prop} {p5 : T3 → T4 → Prop} {p6 : T3 → T4 → Prop} {p7 : T3 → T4 → Prop} {p8 : T3 → T4 → Prop} {p9 : T3 → T4 → Prop} {C : Prop} (h : p0 ∧ p1 ∧ p2 ∧ ∃ x3, ∃ x4, p5 x3 x4 ∧ p6 x3 x4 ∧ p7 x3 x4 ∧ p8 x3 x4 ∧ p9 x3 x4) (k : p0 → p1 → p2 → ∀ x3, ∀ x4, p5 x3 x4 → p6 x3 x4 → p7 x3 x4 → p8 x3 x4 → p9 x3 x4 → C) : C := by
  obtain ⟨h0, h1, h2, x3, x4, h5, h6, h7, h8, h9⟩ := h
  exact k h0 h1 h2 x3 x4 h5 h6 h7 h8 h9
theorem yAAAEEAAAA {T3 T4 : Type} {p0 : Prop} {p1 : Prop} {p2 : Prop} {p5 : T3 → T4 → Prop} {p6 : T3 → T4 → Prop} {p7 : T3 → T4 → Prop} {p8 : T3 → T4 → Prop} {p9 : T3 → T4 → Prop} {C : Prop} (k : p0 → p1 → p2 → ∀ x3, ∀ x4, p5 x3 x4 → p6 x3 x4 → p7 x3 x4 → p8 x3 x4 → p9 x3 x4 → C) (h : p0 ∧ p1 ∧ p2 ∧ ∃ x3, ∃ x4, p5 x3 x4 ∧ p6 x3 x4 ∧ p7 x3 x4 ∧ p8 x3 x4 ∧ p9 x3 x4) : C := xAAAEEAAAA h k
theorem xAAAEEEEEAAAAAAAA {T3 T4 T5 T6 T7 : Type} {p0 : Prop} {p1 : Prop} {p2 : Prop} {p8 : T3 → T4 → T5 → T6 → T7 → Prop} {p9 : T3 → T4 → T5 → T6 → T7 → Prop} {p10 : T3 → T4 → T5 → T6 → T7 → Prop} {p11 : T3 → T4 → T5 → T6 → T7 → Prop} {p12 : T3 → T4 → T5 → T6 → T7 → Prop} {p13 : T3 → T4 → T5 → T6 → T7 → Prop} {p14 : T3 → T4 → T5 → T6 → T7 → Prop} {p15 : T3 → T4 → T5 → T6 → T7 → Prop} {p16 : T3 → T4 → T5 → T6 → T7 → Prop} {C : Prop} (h : p0 ∧ p1 ∧ p2 ∧ ∃ x3, ∃ x4, ∃ x5, ∃ x6, ∃ x7, p8 x3 x4 x5 x6 x7 ∧ p9 x3 x4 x5 x6 x7 ∧ p10 x3 x4 x5 x6 x7 ∧ p11 x3 x4 x5 x6 x7 ∧ p12 x3 x4 x5 x6 x7 ∧ p13 x3 x4 x5 x6 x7 ∧ p14 x3 x4 x5 x6 x7 ∧ p15 x3 x4 x5 x6 x7 ∧ p16 x3 x4 x5 x6 x7) (k : p0 → p1 → p2 → ∀ x3, ∀ x4, ∀ x5, ∀ x6, ∀ x7, p8 x3 x4 x5 x6 x7 → p9 x3 x4 x5 x6 x7 → p10 x3 x4 x5 x6 x7 → p11 x3 x4 x5 x6 x7 → p12 x3 x4 x5 x6 x7 → p13 x3 x4 x5 x6 x7 → p14 x3 x4 x5 x6 x7 → p15 x3 x4 x5 x6 x7 → p16 x3 x4 x5 x6 x7 → C) : C := by
  obtain ⟨h0, h1, h2, x3, x4, x5, x6, x7, h8, h9, h10, h11, h12, h13, h14, h15, h16⟩ := h
  exact k h0 h1 h2 x3 x4 x5 x6 x7 h8 h9 h10 h11 h12 h13 h14 h15 h16
theorem yAAAEEEEEAAAAAAAA {T3 T4 T5 T6 T7 : Type} {p0 : Prop} {p1 : Prop} {p2 : Prop} {p8 : T3 → T4 → T5 → T6 → T7 → Prop} {p9 : T3 → T4 → T5 → T6 → T7 → Prop} {p10 : T3 → T4 → T5 → T6 → T7 → Prop} {p11 : T3 → T4 → T5 → T6 → T7 → Prop} {p12 : T3 → T4 → T5 → T6 → T7 → Prop} {p13 : T3 → T4 → T5 → T6 → T7 → Prop} {p14 : T3 → T4 → T5 → T6 → T7 → Prop} {p15 : T3 → T4 → T5 → T6 → T7 → Prop} {p16 : T3 → T4 → T5 → T6 → T7 → Prop} {C : Prop} (k : p0 → p1 → p2 → ∀ x3, ∀ x4, ∀ x5, ∀ x6, ∀ x7, p8 x3 x4 x5 x6 x7 → p9 x3 x4 x5 x6 x7 → p10 x3 x4 x5 x6 x7 → p11 x3 x4 x5 x6 x7 → p12 x3 x4 x5 x6 x7 → p13 x3 x4 x5 x6 x7 → p14 x3 x4 x5 x6 x7 → p15 x3 x4 x5 x6 x7 → p16 x3 x4 x5 x6 x7 → C) (h : p0 ∧ p1 ∧ p2 ∧ ∃ x3, ∃ x4, ∃ x5, ∃ x6, ∃ x7, p8 x3 x4 x5 x6 x7 ∧ p9 x3 x4 x5 x6 x7 ∧ p10 x3 x4 x5 x6 x7 ∧ p11 x3 x4 x5 x6 x7 ∧ p12 x3 x4 x5 x6 x7 ∧ p13 x3 x4 x5 x6 x7 ∧ p14 x3 x4 x5 x6 x7 ∧ p15 x3 x4 x5 x6 x7 ∧ p16 x3 x4 x5 x6 x7) : C := xAAAEEEEEAAAAAAAA h k
theorem xAAEAAA {T2 : Type} {p0 : Prop} {p1 : Prop} {p3 : T2 → Prop} {p4 : T2 → Prop} {p5 : T2 → Prop} {p6 : T2 → Prop} {C : Prop} (h : p0 ∧ p1 ∧ ∃ x2, p3 x2 ∧ p4 x2 ∧ p5 x2 ∧ p6 x2) (k : p0 → p1 → ∀ x2, p3 x2 → p4 x2 → p5 x2 → p6 x2 → C) : C := by
  obtain ⟨h0, h1, x2, h3, h4, h5, h6⟩ := h
  exact k h0 h1 x2 h3 h4 h5 h6
theorem xAE {T1 : Type} {p0 : Prop} {p2 : T1 → Prop} {C : Prop} (h : p0 ∧ ∃ x1, p2 x1) (k : p0 → ∀ x1, p2 x1 → C) : C := by
  obtain ⟨h0, x1, h2⟩ := h
  exact k h0 x1 h2
theorem yAE {T1 : Type} {p0 : Prop} {p2 : T1 → Prop} {C : Prop} (k : p0 → ∀ x1, p2 x1 → C) (h : p0 ∧ ∃ x1, p2 x1) : C := xAE h k
theorem xAEA {T1 : Type} {p0 : Prop} {p2 : T1 → Prop} {p3 : T1 → Prop} {C : Prop} (h : p0 ∧ ∃ x1, p2 x1 ∧ p3 x1) (k : p0 → ∀ x1, p2 x1 → p3 x1 → C) : C := by
  obtain ⟨h0, x1, h2, h3⟩ := h
  exact k h0 x1 h2 h3
theorem xAEAA {T1 : Type} {p0 : Prop} {p2 : T1 → Prop} {p3 : T1 → Prop} {p4 : T1 → Prop} {C : Prop} (h : p0 ∧ ∃ x1, p2 x1 ∧ p3 x1 ∧ p4 x1) (k : p0 → ∀ x1, p2 x1 → p3 x1 → p4 x1 → C) : C := by
  obtain ⟨h0, x1, h2, h3, h4⟩ := h
  exact k h0 x1 h2 h3 h4
theorem xAEEAA {T1 T2 : Type} {p0 : Prop} {p3 : T1 → T2 → Prop} {p4 : T1 → T2 → Prop} {p5 : T1 → T2 → Prop} {C : Prop} (h : p0 ∧ ∃ x1, ∃ x2, p3 x1 x2 ∧ p4 x1 x2 ∧ p5 x1 x2) (k : p0 → ∀ x1, ∀ x2, p3 x1 x2 → p4 x1 x2 → p5 x1 x2 → C) : C := by
  obtain ⟨h0, x1, x2, h3, h4, h5⟩ := h
  exact k h0 x1 x2 h3 h4 h5
theorem xEA {T0 : Type} {p1 : T0 → Prop} {p2 : T0 → Prop} {C : Prop} (h : ∃ x0, p1 x0 ∧ p2 x0) (k : ∀ x0, p1 x0 → p2 x0 → C) : C := by
  obtain ⟨x0, h1, h2⟩ := h
  exact k x0 h1 h2
theorem yEA {T0 : Type} {p1 : T0 → Prop} {p2 : T0 → Prop} {C : Prop} (k : ∀ x0, p1 x0 → p2 x0 → C) (h : ∃ x0, p1 x0 ∧ p2 x0) : C := xEA h k
theorem xEAA {T0 : Type} {p1 : T0 → Prop} {p2 : T0 → Prop} {p3 : T0 → Prop} {C : Prop} (h : ∃ x0, p1 x0 ∧ p2 x0 ∧ p3 x0) (k : ∀ x0, p1 x0 → p2 x0 → p3 x0 → C) : C := by
  obtain ⟨x0, h1, h2, h3⟩ := h
  exact k x0 h1 h2 h3
theorem yEAA {T0 : Type} {p1 : T0 → Prop} {p2 : T0 → Prop} {p3 : T0 → Prop} {C : Prop} (k : ∀ x0, p1 x0 → p2 x0 → p3 x0 → C) (h : ∃ x0, p1 x0 ∧ p2 x0 ∧ p3 x0) : C := xEAA h k
theorem xEAAA {T0 : Type} {p1 : T0 → Prop} {p2 : T0 → Prop} {p3 : T0 → Prop} {p4 : T0 → Prop} {C : Prop} (h : ∃ x0, p1 x0 ∧ p2 x0 ∧ p3 x0 ∧ p4 x0) (k : ∀ x0, p1 x0 → p2 x0 → p3 x0 → p4 x0 → C) : C := by
  obtain ⟨x0, h1, h2, h3, h4⟩ := h
  exact k x0 h1 h2 h3 h4
theorem yEAAA {T0 : Type} {p1 : T0 → Prop} {p2 : T0 → Prop} {p3 : T0 → Prop} {p4 : T0 → Prop} {C : Prop} (k : ∀ x0, p1 x0 → p2 x0 → p3 x0 → p4 x0 → C) (h : ∃ x0, p1 x0 ∧ p2 x0 ∧ p3 x0 ∧ p4 x0) : C := xEAAA h k
theorem xEAAAA {T0 : Type} {p1 : T0 → Prop} {p2 : T0 → Prop} {p3 : T0 → Prop} {p4 : T0 → Prop} {p5 : T0 → Prop} {C : Prop} (h : ∃ x0, p1 x0 ∧ p2 x0 ∧ p3 x0 ∧ p4 x0 ∧ p5 x0) (k : ∀ x0, p1 x0 → p2 x0 → p3 x0 → p4 x0 → p5 x0 → C) : C := by
  obtain ⟨x0, h1, h2, h3, h4, h5⟩ := h
  exact k x0 h1 h2 h3 h4 h5
theorem xEAAE {T0 T3 : Type} {p1 : T0 → Prop} {p2 : T0 → Prop} {p4 : T0 → T3 → Prop} {C : Prop} (h : ∃ x0, p1 x0 ∧ p2 x0 ∧ ∃ x3, p4 x0 x3) (k : ∀ x0, p1 x0 → p2 x0 → ∀ x3, p4 x0 x3 → C) : C := by
  obtain ⟨x0, h1, h2, x3, h4⟩ := h
  exact k x0 h1 h2 x3 h4
theorem yEAAE {T0 T3 : Type} {p1 : T0 → Prop} {p2 : T0 → Prop} {p4 : T0 → T3 → Prop} {C : Prop} (k : ∀ x0, p1 x0 → p2 x0 → ∀ x3, p4 x0 x3 → C) (h : ∃ x0, p1 x0 ∧ p2 x0 ∧ ∃ x3, p4 x0 x3) : C := xEAAE h k
theorem xEE {T0 T1 : Type} {p2 : T0 → T1 → Prop} {C : Prop} (h : ∃ x0, ∃ x1, p2 x0 x1) (k : ∀ x0, ∀ x1, p2 x0 x1 → C) : C := by
  obtain ⟨x0, x1, h2⟩ := h
  exact k x0 x1 h2
theorem xEEA {T0 T1 : Type} {p2 : T0 → T1 → Prop} {p3 : T0 → T1 → Prop} {C : Prop} (h : ∃ x0, ∃ x1, p2 x0 x1 ∧ p3 x0 x1) (k : ∀ x0, ∀ x1, p2 x0 x1 → p3 x0 x1 → C) : C := by
  obtain ⟨x0, x1, h2, h3⟩ := h
  exact k x0 x1 h2 h3
theorem yEEA {T0 T1 : Type} {p2 : T0 → T1 → Prop} {p3 : T0 → T1 → Prop} {C : Prop} (k : ∀ x0, ∀ x1, p2 x0 x1 → p3 x0 x1 → C) (h : ∃ x0, ∃ x1, p2 x0 x1 ∧ p3 x0 x1) : C := xEEA h k
theorem xEEAA {T0 T1 : Type} {p2 : T0 → T1 → Prop} {p3 : T0 → T1 → Prop} {p4 : T0 → T1 → Prop} {C : Prop} (h : ∃ x0, ∃ x1, p2 x0 x1 ∧ p3 x0 x1 ∧ p4 x0 x1) (k : ∀ x0, ∀ x1, p2 x0 x1 → p3 x0 x1 → p4 x0 x1 → C) : C := by
  obtain ⟨x0, x1, h2, h3, h4⟩ := h
  exact k x0 x1 h2 h3 h4
theorem yEEAA {T0 T1 : Type} {p2 : T0 → T1 → Prop} {p3 : T0 → T1 → Prop} {p4 : T0 → T1 → Prop} {C : Prop} (k : ∀ x0, ∀ x1, p2 x0 x1 → p3 x0 x1 → p4 x0 x1 → C) (h : ∃ x0, ∃ x1, p2 x0 x1 ∧ p3 x0 x1 ∧ p4 x0 x1) : C := xEEAA h k
theorem xEEAAA {T0 T1 : Type} {p2 : T0 → T1 → Prop} {p3 : T0 → T1 → Prop} {p4 : T0 → T1 → Prop} {p5 : T0 → T1 → Prop} {C : Prop} (h : ∃ x0, ∃ x1, p2 x0 x1 ∧ p3 x0 x1 ∧ p4 x0 x1 ∧ p5 x0 x1) (k : ∀ x0, ∀ x1, p2 x0 x1 → p3 x0 x1 → p4 x0 x1 → p5 x0 x1 → C) : C := by
  obtain ⟨x0, x1, h2, h3, h4, h5⟩ := h
  exact k x0 x1 h2 h3 h4 h5
theorem yEEAAA {T0 T1 : Type} {p2 : T0 → T1 → Prop} {p3 : T0 → T1 → Prop} {p4 : T0 → T1 → Prop} {p5 : T0 → T1 → Prop} {C : Prop} (k : ∀ x0, ∀ x1, p2 x0 x1 → p3 x0 x1 → p4 x0 x1 → p5 x0 x1 → C) (h : ∃ x0, ∃ x1, p2 x0 x1 ∧ p3 x0 x1 ∧ p4 x0 x1 ∧ p5 x0 x1) : C := xEEAAA h k
theorem xEEAAAAA {T0 T1 : Type} {p2 : T0 → T1 → Prop} {p3 : T0 → T1 → Prop} {p4 : T0 → T1 → Prop} {p5 : T0 → T1 → Prop} {p6 : T0 → T1 → Prop} {p7 : T0 → T1 → Prop} {C : Prop} (h : ∃ x0, ∃ x1, p2 x0 x1 ∧ p3 x0 x1 ∧ p4 x0 x1 ∧ p5 x0 x1 ∧ p6 x0 x1 ∧ p7 x0 x1) (k : ∀ x0, ∀ x1, p2 x0 x1 → p3 x0 x1 → p4 x0 x1 → p5 x0 x1 → p6 x0 x1 → p7 x0 x1 → C) : C := by
  obtain ⟨x0, x1, h2, h3, h4, h5, h6, h7⟩ := h
  exact k x0 x1 h2 h3 h4 h5 h6 h7
theorem xEEAAEEAA {T0 T1 T4 T5 : Type} {p2 : T0 → T1 → Prop} {p3 : T0 → T1 → Prop} {p6 : T0 → T1 → T4 → T5 → Prop} {p7 : T0 → T1 → T4 → T5 → Prop} {p8 : T0 → T1 → T4 → T5 → Prop} {C : Prop} (h : ∃ x0, ∃ x1, p2 x0 x1 ∧ p3 x0 x1 ∧ ∃ x4, ∃ x5, p6 x0 x1 x4 x5 ∧ p7 x0 x1 x4 x5 ∧ p8 x0 x1 x4 x5) (k : ∀ x0, ∀ x1, p2 x0 x1 → p3 x0 x1 → ∀ x4, ∀ x5, p6 x0 x1 x4 x5 → p7 x0 x1 x4 x5 → p8 x0 x1 x4 x5 → C) : C := by
  obtain ⟨x0, x1, h2, h3, x4, x5, h6, h7, h8⟩ := h
  exact k x0 x1 h2 h3 x4 x5 h6 h7 h8
theorem yEEAAEEAA {T0 T1 T4 T5 : Type} {p2 : T0 → T1 → Prop} {p3 : T0 → T1 → Prop} {p6 : T0 → T1 → T4 → T5 → Prop} {p7 : T0 → T1 → T4 → T5 → Prop} {p8 : T0 → T1 → T4 → T5 → Prop} {C : Prop} (k : ∀ x0, ∀ x1, p2 x0 x1 → p3 x0 x1 → ∀ x4, ∀ x5, p6 x0 x1 x4 x5 → p7 x0 x1 x4 x5 → p8 x0 x1 x4 x5 → C) (h : ∃ x0, ∃ x1, p2 x0 x1 ∧ p3 x0 x1 ∧ ∃ x4, ∃ x5, p6 x0 x1 x4 x5 ∧ p7 x0 x1 x4 x5 ∧ p8 x0 x1 x4 x5) : C := xEEAAEEAA h k
theorem xEEE {T0 T1 T2 : Type} {p3 : T0 → T1 → T2 → Prop} {C : Prop} (h : ∃ x0, ∃ x1, ∃ x2, p3 x0 x1 x2) (k : ∀ x0, ∀ x1, ∀ x2, p3 x0 x1 x2 → C) : C := by
  obtain ⟨x0, x1, x2, h3⟩ := h
  exact k x0 x1 x2 h3
theorem yEEE {T0 T1 T2 : Type} {p3 : T0 → T1 → T2 → Prop} {C : Prop} (k : ∀ x0, ∀ x1, ∀ x2, p3 x0 x1 x2 → C) (h : ∃ x0, ∃ x1, ∃ x2, p3 x0 x1 x2) : C := xEEE h k
theorem xEEEA {T0 T1 T2 : Type} {p3 : T0 → T1 → T2 → Prop} {p4 : T0 → T1 → T2 → Prop} {C : Prop} (h : ∃ x0, ∃ x1, ∃ x2, p3 x0 x1 x2 ∧ p4 x0 x1 x2) (k : ∀ x0, ∀ x1, ∀ x2, p3 x0 x1 x2 → p4 x0 x1 x2 → C) : C := by
  obtain ⟨x0, x1, x2, h3, h4⟩ := h
  exact k x0 x1 x2 h3 h4
theorem yEEEA {T0 T1 T2 : Type} {p3 : T0 → T1 → T2 → Prop} {p4 : T0 → T1 → T2 → Prop} {C : Prop} (k : ∀ x0, ∀ x1, ∀ x2, p3 x0 x1 x2 → p4 x0 x1 x2 → C) (h : ∃ x0, ∃ x1, ∃ x2, p3 x0 x1 x2 ∧ p4 x0 x1 x2) : C := xEEEA h k
theorem xEEEAA {T0 T1 T2 : Type} {p3 : T0 → T1 → T2 → Prop} {p4 : T0 → T1 → T2 → Prop} {p5 : T0 → T1 → T2 → Prop} {C : Prop} (h : ∃ x0, ∃ x1, ∃ x2, p3 x0 x1 x2 ∧ p4 x0 x1 x2 ∧ p5 x0 x1 x2) (k : ∀ x0, ∀ x1, ∀ x2, p3 x0 x1 x2 → p4 x0 x1 x2 → p5 x0 x1 x2 → C) : C := by
  obtain ⟨x0, x1, x2, h3, h4, h5⟩ := h
  exact k x0 x1 x2 h3 h4 h5
theorem yEEEAA {T0 T1 T2 : Type} {p3 : T0 → T1 → T2 → Prop} {p4 : T0 → T1 → T2 → Prop} {p5 : T0 → T1 → T2 → Prop} {C : Prop} (k : ∀ x0, ∀ x1, ∀ x2, p3 x0 x1 x2 → p4 x0 x1 x2 → p5 x0 x1 x2 → C) (h : ∃ x0, ∃ x1, ∃ x2, p3 x0 x1 x2 ∧ p4 x0 x1 x2 ∧ p5 x0 x1 x2) : C := xEEEAA h k
theorem xEEEAAA {T0 T1 T2 : Type} {p3 : T0 → T1 → T2 → Prop} {p4 : T0 → T1 → T2 → Prop} {p5 : T0 → T1 → T2 → Prop} {p6 : T0 → T1 → T2 → Prop} {C : Prop} (h : ∃ x0, ∃ x1, ∃ x2, p3 x0 x1 x2 ∧ p4 x0 x1 x2 ∧ p5 x0 x1 x2 ∧ p6 x0 x1 x2) (k : ∀ x0, ∀ x1, ∀ x2, p3 x0 x1 x2 → p4 x0 x1 x2 → p5 x0 x1 x2 → p6 x0 x1 x2 → C) : C := by
  obtain ⟨x0, x1, x2, h3, h4, h5, h6⟩ := h
  exact k x0 x1 x2 h3 h4 h5 h6
theorem yEEEAAA {T0 T1 T2 : Type} {p3 : T0 → T1 → T2 → Prop} {p4 : T0 → T1 → T2 → Prop} {p5 : T0 → T1 → T2 → Prop} {p6 : T0 → T1 → T2 → Prop} {C : Prop} (k : ∀ x0, ∀ x1, ∀ x2, p3 x0 x1 x2 → p4 x0 x1 x2 → p5 x0 x1 x2 → p6 x0 x1 x2 → C) (h : ∃ x0, ∃ x1, ∃ x2, p3 x0 x1 x2 ∧ p4 x0 x1 x2 ∧ p5 x0 x1 x2 ∧ p6 x0 x1 x2) : C := xEEEAAA h k
theorem xEEEAAAA {T0 T1 T2 : Type} {p3 : T0 → T1 → T2 → Prop} {p4 : T0 → T1 → T2 → Prop} {p5 : T0 → T1 → T2 → Prop} {p6 : T0 → T1 → T2 → Prop} {p7 : T0 → T1 → T2 → Prop} {C : Prop} (h : ∃ x0, ∃ x1, ∃ x2, p3 x0 x1 x2 ∧ p4 x0 x1 x2 ∧ p5 x0 x1 x2 ∧ p6 x0 x1 x2 ∧ p7 x0 x1 x2) (k : ∀ x0, ∀ x1, ∀ x2, p3 x0 x1 x2 → p4 x0 x1 x2 → p5 x0 x1 x2 → p6 x0 x1 x2 → p7 x0 x1 x2 → C) : C := by
  obtain ⟨x0, x1, x2, h3, h4, h5, h6, h7⟩ := h
  exact k x0 x1 x2 h3 h4 h5 h6 h7
theorem yEEEAAAA {T0 T1 T2 : Type} {p3 : T0 → T1 → T2 → Prop} {p4 : T0 → T1 → T2 → Prop} {p5 : T0 → T1 → T2 → Prop} {p6 : T0 → T1 → T2 → Prop} {p7 : T0 → T1 → T2 → Prop} {C : Prop} (k : ∀ x0, ∀ x1, ∀ x2, p3 x0 x1 x2 → p4 x0 x1 x2 → p5 x0 x1 x2 → p6 x0 x1 x2 → p7 x0 x1 x2 → C) (h : ∃ x0, ∃ x1, ∃ x2, p3 x0 x1 x2 ∧ p4 x0 x1 x2 ∧ p5 x0 x1 x2 ∧ p6 x0 x1 x2 ∧ p7 x0 x1 x2) : C := xEEEAAAA h k
theorem xEEEAAAAA {T0 T1 T2 : Type} {p3 : T0 → T1 → T2 → Prop} {p4 : T0 → T1 → T2 → Prop} {p5 : T0 → T1 → T2 → Prop} {p6 : T0 → T1 → T2 → Prop} {p7 : T0 → T1 → T2 → Prop} {p8 : T0 → T1 → T2 → Prop} {C : Prop} (h : ∃ x0, ∃ x1, ∃ x2, p3 x0 x1 x2 ∧ p4 x0 x1 x2 ∧ p5 x0 x1 x2 ∧ p6 x0 x1 x2 ∧ p7 x0 x1 x2 ∧ p8 x0 x1 x2) (k : ∀ x0, ∀ x1, ∀ x2, p3 x0 x1 x2 → p4 x0 x1 x2 → p5 x0 x1 x2 → p6 x0 x1 x2 → p7 x0 x1 x2 → p8 x0 x1 x2 → C) : C := by
  obtain ⟨x0, x1, x2, h3, h4, h5, h6, h7, h8⟩ := h
  exact k x0 x1 x2 h3 h4 h5 h6 h7 h8
theorem yEEEAAAAA {T0 T1 T2 : Type} {p3 : T0 → T1 → T2 → Prop} {p4 : T0 → T1 → T2 → Prop} {p5 : T0 → T1 → T2 → Prop} {p6 : T0 → T1 → T2 → Prop} {p7 : T0 → T1 → T2 → Prop} {p8 : T0 → T1 → T2 → Prop} {C : Prop} (k : ∀ x0, ∀ x1, ∀ x2, p3 x0 x1 x2 → p4 x0 x1 x2 → p5 x0 x1 x2 → p6 x0 x1 x2 → p7 x0 x1 x2 → p8 x0 x1 x2 → C) (h : ∃ x0, ∃ x1, ∃ x2, p3 x0 x1 x2 ∧ p4 x0 x1 x2 ∧ p5 x0 x1 x2 ∧ p6 x0 x1 x2 ∧ p7 x0 x1 x2 ∧ p8 x0 x1 x2) : C := xEEEAAAAA h k
theorem xEEEAAAEA {T0 T1 T2 T6 : Type} {p3 : T0 → T1 → T2 → Prop} {p4 : T0 → T1 → T2 → Prop} {p5 : T0 → T1 → T2 → Prop} {p7 : T0 → T1 → T2 → T6 → Prop} {p8 : T0 → T1 → T2 → T6 → Prop} {C : Prop} (h : ∃ x0, ∃ x1, ∃ x2, p3 x0 x1 x2 ∧ p4 x0 x1 x2 ∧ p5 x0 x1 x2 ∧ ∃ x6, p7 x0 x1 x2 x6 ∧ p8 x0 x1 x2 x6) (k : ∀ x0, ∀ x1, ∀ x2, p3 x0 x1 x2 → p4 x0 x1 x2 → p5 x0 x1 x2 → ∀ x6, p7 x0 x1 x2 x6 → p8 x0 x1 x2 x6 → C) : C := by
  obtain ⟨x0, x1, x2, h3, h4, h5, x6, h7, h8⟩ := h
  exact k x0 x1 x2 h3 h4 h5 x6 h7 h8
theorem yEEEAAAEA {T0 T1 T2 T6 : Type} {p3 : T0 → T1 → T2 → Prop} {p4 : T0 → T1 → T2 → Prop} {p5 : T0 → T1 → T2 → Prop} {p7 : T0 → T1 → T2 → T6 → Prop} {p8 : T0 → T1 → T2 → T6 → Prop} {C : Prop} (k : ∀ x0, ∀ x1, ∀ x2, p3 x0 x1 x2 → p4 x0 x1 x2 → p5 x0 x1 x2 → ∀ x6, p7 x0 x1 x2 x6 → p8 x0 x1 x2 x6 → C) (h : ∃ x0, ∃ x1, ∃ x2, p3 x0 x1 x2 ∧ p4 x0 x1 x2 ∧ p5 x0 x1 x2 ∧ ∃ x6, p7 x0 x1 x2 x6 ∧ p8 x0 x1 x2 x6) : C := xEEEAAAEA h k
theorem xEEEEA {T0 T1 T2 T3 : Type} {p4 : T0 → T1 → T2 → T3 → Prop} {p5 : T0 → T1 → T2 → T3 → Prop} {C : Prop} (h : ∃ x0, ∃ x1, ∃ x2, ∃ x3, p4 x0 x1 x2 x3 ∧ p5 x0 x1 x2 x3) (k : ∀ x0, ∀ x1, ∀ x2, ∀ x3, p4 x0 x1 x2 x3 → p5 x0 x1 x2 x3 → C) : C := by
  obtain ⟨x0, x1, x2, x3, h4, h5⟩ := h
  exact k x0 x1 x2 x3 h4 h5
theorem yEEEEA {T0 T1 T2 T3 : Type} {p4 : T0 → T1 → T2 → T3 → Prop} {p5 : T0 → T1 → T2 → T3 → Prop} {C : Prop} (k : ∀ x0, ∀ x1, ∀ x2, ∀ x3, p4 x0 x1 x2 x3 → p5 x0 x1 x2 x3 → C) (h : ∃ x0, ∃ x1, ∃ x2, ∃ x3, p4 x0 x1 x2 x3 ∧ p5 x0 x1 x2 x3) : C := xEEEEA h k
theorem xEEEEAA {T0 T1 T2 T3 : Type} {p4 : T0 → T1 → T2 → T3 → Prop} {p5 : T0 → T1 → T2 → T3 → Prop} {p6 : T0 → T1 → T2 → T3 → Prop} {C : Prop} (h : ∃ x0, ∃ x1, ∃ x2, ∃ x3, p4 x0 x1 x2 x3 ∧ p5 x0 x1 x2 x3 ∧ p6 x0 x1 x2 x3) (k : ∀ x0, ∀ x1, ∀ x2, ∀ x3, p4 x0 x1 x2 x3 → p5 x0 x1 x2 x3 → p6 x0 x1 x2 x3 → C) : C := by
  obtain ⟨x0, x1, x2, x3, h4, h5, h6⟩ := h
  exact k x0 x1 x2 x3 h4 h5 h6
theorem yEEEEAA {T0 T1 T2 T3 : Type} {p4 : T0 → T1 → T2 → T3 → Prop} {p5 : T0 → T1 → T2 → T3 → Prop} {p6 : T0 → T1 → T2 → T3 → Prop} {C : Prop} (k : ∀ x0, ∀ x1, ∀ x2, ∀ x3, p4 x0 x1 x2 x3 → p5 x0 x1 x2 x3 → p6 x0 x1 x2 x3 → C) (h : ∃ x0, ∃ x1, ∃ x2, ∃ x3, p4 x0 x1 x2 x3 ∧ p5 x0 x1 x2 x3 ∧ p6 x0 x1 x2 x3) : C := xEEEEAA h k
theorem xEEEEAAA {T0 T1 T2 T3 : Type} {p4 : T0 → T1 → T2 → T3 → Prop} {p5 : T0 → T1 → T2 → T3 → Prop} {p6 : T0 → T1 → T2 → T3 → Prop} {p7 : T0 → T1 → T2 → T3 → Prop} {C : Prop} (h : ∃ x0, ∃ x1, ∃ x2, ∃ x3, p4 x0 x1 x2 x3 ∧ p5 x0 x1 x2 x3 ∧ p6 x0 x1 x2 x3 ∧ p7 x0 x1 x2 x3) (k : ∀ x0, ∀ x1, ∀ x2, ∀ x3, p4 x0 x1 x2 x3 → p5 x0 x1 x2 x3 → p6 x0 x1 x2 x3 → p7 x0 x1 x2 x3 → C) : C := by
  obtain ⟨x0, x1, x2, x3, h4, h5, h6, h7⟩ := h
  exact k x0 x1 x2 x3 h4 h5 h6 h7
theorem yEEEEAAA {T0 T1 T2 T3 : Type} {p4 : T0 → T1 → T2 → T3 → Prop} {p5 : T0 → T1 → T2 → T3 → Prop} {p6 : T0 → T1 → T2 → T3 → Prop} {p7 : T0 → T1 → T2 → T3 → Prop} {C : Prop} (k : ∀ x0, ∀ x1, ∀ x2, ∀ x3, p4 x0 x1 x2 x3 → p5 x0 x1 x2 x3 → p6 x0 x1 x2 x3 → p7 x0 x1 x2 x3 → C) (h : ∃ x0, ∃ x1, ∃ x2, ∃ x3, p4 x0 x1 x2 x3 ∧ p5 x0 x1 x2 x3 ∧ p6 x0 x1 x2 x3 ∧ p7 x0 x1 x2 x3) : C := xEEEEAAA h k
theorem xEEEEAAAA {T0 T1 T2 T3 : Type} {p4 : T0 → T1 → T2 → T3 → Prop} {p5 : T0 → T1 → T2 → T3 → Prop} {p6 : T0 → T1 → T2 → T3 → Prop} {p7 : T0 → T1 → T2 → T3 → Prop} {p8 : T0 → T1 → T2 → T3 → Prop} {C : Prop} (h : ∃ x0, ∃ x1, ∃ x2, ∃ x3, p4 x0 x1 x2 x3 ∧ p5 x0 x1 x2 x3 ∧ p6 x0 x1 x2 x3 ∧ p7 x0 x1 x2 x3 ∧ p8 x0 x1 x2 x3) (k : ∀ x0, ∀ x1, ∀ x2, ∀ x3, p4 x0 x1 x2 x3 → p5 x0 x1 x2 x3 → p6 x0 x1 x2 x3 → p7 x0 x1 x2 x3 → p8 x0 x1 x2 x3 → C) : C := by
  obtain ⟨x0, x1, x2, x3, h4, h5, h6, h7, h8⟩ := h
  exact k x0 x1 x2 x3 h4 h5 h6 h7 h8
theorem xEEEEAAAAA {T0 T1 T2 T3 : Type} {p4 : T0 → T1 → T2 → T3 → Prop} {p5 : T0 → T1 → T2 → T3 → Prop} {p6 : T0 → T1 → T2 → T3 → Prop} {p7 : T0 → T1 → T2 → T3 → Prop} {p8 : T0 → T1 → T2 → T3 → Prop} {p9 : T0 → T1 → T2 → T3 → Prop} {C : Prop} (h : ∃ x0, ∃ x1, ∃ x2, ∃ x3, p4 x0 x1 x2 x3 ∧ p5 x0 x1 x2 x3 ∧ p6 x0 x1 x2 x3 ∧ p7 x0 x1 x2 x3 ∧ p8 x0 x1 x2 x3 ∧ p9 x0 x1 x2 x3) (k : ∀ x0, ∀ x1, ∀ x2, ∀ x3, p4 x0 x1 x2 x3 → p5 x0 x1 x2 x3 → p6 x0 x1 x2 x3 → p7 x0 x1 x2 x3 → p8 x0 x1 x2 x3 → p9 x0 x1 x2 x3 → C) : C := by
  obtain ⟨x0, x1, x2, x3, h4, h5, h6, h7, h8, h9⟩ := h
  exact k x0 x1 x2 x3 h4 h5 h6 h7 h8 h9
theorem yEEEEAAAAA {T0 T1 T2 T3 : Type} {p4 : T0 → T1 → T2 → T3 → Prop} {p5 : T0 → T1 → T2 → T3 → Prop} {p6 : T0 → T1 → T2 → T3 → Prop} {p7 : T0 → T1 → T2 → T3 → Prop} {p8 : T0 → T1 → T2 → T3 → Prop} {p9 : T0 → T1 → T2 → T3 → Prop} {C : Prop} (k : ∀ x0, ∀ x1, ∀ x2, ∀ x3, p4 x0 x1 x2 x3 → p5 x0 x1 x2 x3 → p6 x0 x1 x2 x3 → p7 x0 x1 x2 x3 → p8 x0 x1 x2 x3 → p9 x0 x1 x2 x3 → C) (h : ∃ x0, ∃ x1, ∃ x2, ∃ x3, p4 x0 x1 x2 x3 ∧ p5 x0 x1 x2 x3 ∧ p6 x0 x1 x2 x3 ∧ p7 x0 x1 x2 x3 ∧ p8 x0 x1 x2 x3 ∧ p9 x0 x1 x2 x3) : C := xEEEEAAAAA h k
theorem xEEEEEAAA {T0 T1 T2 T3 T4 : Type} {p5 : T0 → T1 → T2 → T3 → T4 → Prop} {p6 : T0 → T1 → T2 → T3 → T4 → Prop} {p7 : T0 → T1 → T2 → T3 → T4 → Prop} {p8 : T0 → T1 → T2 → T3 → T4 → Prop} {C : Prop} (h : ∃ x0, ∃ x1, ∃ x2, ∃ x3, ∃ x4, p5 x0 x1 x2 x3 x4 ∧ p6 x0 x1 x2 x3 x4 ∧ p7 x0 x1 x2 x3 x4 ∧ p8 x0 x1 x2 x3 x4) (k : ∀ x0, ∀ x1, ∀ x2, ∀ x3, ∀ x4, p5 x0 x1 x2 x3 x4 → p6 x0 x1 x2 x3 x4 → p7 x0 x1 x2 x3 x4 → p8 x0 x1 x2 x3 x4 → C) : C := by
  obtain ⟨x0, x1, x2, x3, x4, h5, h6, h7, h8⟩ := h
  exact k x0 x1 x2 x3 x4 h5 h6 h7 h8
theorem yEEEEEAAA {T0 T1 T2 T3 T4 : Type} {p5 : T0 → T1 → T2 → T3 → T4 → Prop} {p6 : T0 → T1 → T2 → T3 → T4 → Prop} {p7 : T0 → T1 → T2 → T3 → T4 → Prop} {p8 : T0 → T1 → T2 → T3 → T4 → Prop} {C : Prop} (k : ∀ x0, ∀ x1, ∀ x2, ∀ x3, ∀ x4, p5 x0 x1 x2 x3 x4 → p6 x0 x1 x2 x3 x4 → p7 x0 x1 x2 x3 x4 → p8 x0 x1 x2 x3 x4 → C) (h : ∃ x0, ∃ x1, ∃ x2, ∃ x3, ∃ x4, p5 x0 x1 x2 x3 x4 ∧ p6 x0 x1 x2 x3 x4 ∧ p7 x0 x1 x2 x3 x4 ∧ p8 x0 x1 x2 x3 x4) : C := xEEEEEAAA h k
theorem xEEEEEEAAAAAA {T0 T1 T2 T3 T4 T5 : Type} {p6 : T0 → T1 → T2 → T3 → T4 → T5 → Prop} {p7 : T0 → T1 → T2 → T3 → T4 → T5 → Prop} {p8 : T0 → T1 → T2 → T3 → T4 → T5 → Prop} {p9 : T0 → T1 → T2 → T3 → T4 → T5 → Prop} {p10 : T0 → T1 → T2 → T3 → T4 → T5 → Prop} {p11 : T0 → T1 → T2 → T3 → T4 → T5 → Prop} {p12 : T0 → T1 → T2 → T3 → T4 → T5 → Prop} {C : Prop} (h : ∃ x0, ∃ x1, ∃ x2, ∃ x3, ∃ x4, ∃ x5, p6 x0 x1 x2 x3 x4 x5 ∧ p7 x0 x1 x2 x3 x4 x5 ∧ p8 x0 x1 x2 x3 x4 x5 ∧ p9 x0 x1 x2 x3 x4 x5 ∧ p10 x0 x1 x2 x3 x4 x5 ∧ p11 x0 x1 x2 x3 x4 x5 ∧ p12 x0 x1 x2 x3 x4 x5) (k : ∀ x0, ∀ x1, ∀ x2, ∀ x3, ∀ x4, ∀ x5, p6 x0 x1 x2 x3 x4 x5 → p7 x0 x1 x2 x3 x4 x5 → p8 x0 x1 x2 x3 x4 x5 → p9 x0 x1 x2 x3 x4 x5 → p10 x0 x1 x2 x3 x4 x5 → p11 x0 x1 x2 x3 x4 x5 → p12 x0 x1 x2 x3 x4 x5 → C) : C := by
  obtain ⟨x0, x1, x2, x3, x4, x5, h6, h7, h8, h9, h10, h11, h12⟩ := h
  exact k x0 x1 x2 x3 x4 x5 h6 h7 h8 h9 h10 h11 h12
theorem yEEEEEEAAAAAA {T0 T1 T2 T3 T4 T5 : Type} {p6 : T0 → T1 → T2 → T3 → T4 → T5 → Prop} {p7 : T0 → T1 → T2 → T3 → T4 → T5 → Prop} {p8 : T0 → T1 → T2 → T3 → T4 → T5 → Prop} {p9 : T0 → T1 → T2 → T3 → T4 → T5 → Prop} {p10 : T0 → T1 → T2 → T3 → T4 → T5 → Prop} {p11 : T0 → T1 → T2 → T3 → T4 → T5 → Prop} {p12 : T0 → T1 → T2 → T3 → T4 → T5 → Prop} {C : Prop} (k : ∀ x0, ∀ x1, ∀ x2, ∀ x3, ∀ x4, ∀ x5, p6 x0 x1 x2 x3 x4 x5 → p7 x0 x1 x2 x3 x4 x5 → p8 x0 x1 x2 x3 x4 x5 → p9 x0 x1 x2 x3 x4 x5 → p10 x0 x1 x2 x3 x4 x5 → p11 x0 x1 x2 x3 x4 x5 → p12 x0 x1 x2 x3 x4 x5 → C) (h : ∃ x0, ∃ x1, ∃ x2, ∃ x3, ∃ x4, ∃ x5, p6 x0 x1 x2 x3 x4 x5 ∧ p7 x0 x1 x2 x3 x4 x5 ∧ p8 x0 x1 x2 x3 x4 x5 ∧ p9 x0 x1 x2 x3 x4 x5 ∧ p10 x0 x1 x2 x3 x4 x5 ∧ p11 x0 x1 x2 x3 x4 x5 ∧ p12 x0 x1 x2 x3 x4 x5) : C := xEEEEEEAAAAAA h k
end Mine
end
noncomputable section
namespace Mine
noncomputable def envT (pw : Program) : Env := { scope := pw.main.scope, locals := mainNs, globals := mainNs, cells := [], code := .ref 13, frame := some 14 }
noncomputable def pos0 : Pos := ⟨0, 0, 0, 0⟩
noncomputable def topF : Frame := topFrame pos0
noncomputable def bT (pw : Program) : List Stmt := pw.main.body
noncomputable def cT (pw : Program) : Code := .body (bT pw) (envT pw)
noncomputable def o11 : Obj := { cls := .type "tuple", data := .seq #[] }
noncomputable def o12 : Obj := { cls := .none, data := .fields #[] }
noncomputable def o13 : Obj :=
  { cls := .type "code", data := .fields #[.str (Str.ofString "<module>") 182, .str (Str.ofString "<module>") 183, .str (Str.ofString "/claim/cut.py") 184, .int 1 0, .int 0 0, .int 0 0, .int 0 0,
        .int 0 0, .ref 11, .bool false, .int 181 0, .ref 12, .none, .none,
        .none, .none, .int 185 0, .int 1 0, .str (Str.ofString "/claim/cut.py") 186] }
noncomputable def o14 : Obj :=
  { cls := .type "frame", slots := #[some (.ref 13), some (.ref 3), some (.ref 3), none, some (.str (Str.ofString "__main__") 164), none, some (.ref 0)] }
noncomputable def heapA (P : Params) : Heap := (((boot_heap P).push o11).push o12 |>.push o13).push o14
noncomputable def nd (o : Obj) (l r : BT) : BT := .node o l r
noncomputable def lf (o : Obj) : BT := .node o .nil .nil
noncomputable def treeA (P : Params) : BT :=
  nd (boot_o_0 P)
    (nd (boot_o_1 P) (nd (boot_o_3 P) (lf (boot_o_7 P)) (lf o11)) (nd (boot_o_5 P) (lf (boot_o_9 P)) (lf o13)))
    (nd (boot_o_2 P) (nd (boot_o_4 P) (lf (boot_o_8 P)) (lf o12)) (nd (boot_o_6 P) (lf (boot_o_10 P)) (lf o14)))
noncomputable def stT (P : Params) (os : OsState) : SharedT := ⟨treeA P, 15, (boot_heap P).life, #[], boot_drawn, 187, os⟩
theorem treeA_abs (P : Params) : absHeap (treeA P) 15 (boot_heap P).life = heapA P := by kernel_rfl
theorem bti : behindTheImports PySem.Challenge.pw_nt0200_01 = bT PySem.Challenge.pw_nt0200_01 := by kernel_rfl
theorem pre_run (w : World) (os : OsState) : topGo treeTable PySem.Challenge.pw_nt0200_01 w 11 (some (.ref 6)) 12 ⟨boot_heap w.params, #[], boot_drawn, boot_toks, os⟩ (topStub PySem.Challenge.pw_nt0200_01) =
    some ((stT w.params os).abs, ⟨denote treeTable (cT PySem.Challenge.pw_nt0200_01), cT PySem.Challenge.pw_nt0200_01, pos0, [topF]⟩) := by
  kernel_rfl
end Mine
end
noncomputable section
namespace Mine
noncomputable def S (l : List Nat) : Str := ⟨l.toArray⟩
noncomputable def de (P : Params) (x : Str) (t : Nat) (v : Value) : DictEntry := ⟨PyData.keyHash P x, .str x t, v⟩
noncomputable def stAt (pw : Program) (i : Nat) : Stmt := (pw.main.body.drop i).headD (.Pass pos0)
noncomputable def mtAt (pw : Program) (i j : Nat) : Stmt := match stAt pw i with
  | .ClassDef _ _ _ b _ _ _ _ _ _ _ => (b.drop j).headD (.Pass pos0)
  | s => s
noncomputable def paramsOf : Stmt → Arguments
  | .FunctionDef _ a _ _ _ _ _ _ _ _ => a
  | _ => ⟨[], [], none, [], [], none, []⟩
noncomputable def bodyOf : Stmt → List Stmt
  | .FunctionDef _ _ b _ _ _ _ _ _ _ => b
  | _ => []
noncomputable def scopeOf : Stmt → Scope
  | .FunctionDef _ _ _ _ _ _ s _ _ _ => s
  | _ => PySem.Challenge.pw_nt0200_01.main.scope
noncomputable def nameOf : Stmt → Str
  | .FunctionDef n _ _ _ _ _ _ _ _ _ => n
  | _ => S []
noncomputable def fnK (st : Stmt) (qual : Str) (pm : Value) (cd : Addr) (dv : Value) : FuncData := fnOf (nameOf st) qual (paramsOf st) (bodyOf st) (scopeOf st) dv .none .none pm none (.ref cd) .none
noncomputable def k2 (_ : Program) (P : Params) : Obj := ⟨.none, none, (.dict #[de P (S [116, 121, 112, 101, 46, 95, 95, 115, 117, 98, 99, 108, 97, 115, 115, 101, 115, 95, 95, 46, 69, 120, 99, 101, 112, 116, 105, 111, 110, 46, 48]) 456 (.int 206 0), de P (S [116, 121, 112, 101, 46, 95, 95, 115, 117, 98, 99, 108, 97, 115, 115, 101, 115, 95, 95, 46, 69, 120, 99, 101, 112, 116, 105, 111, 110, 46, 110]) 457 (.int 1 0)] 2), #[]⟩
noncomputable def k3 (_ : Program) (P : Params) : Obj := ⟨(.type "dict"), none, (.dict #[de P (S [95, 95, 110, 97, 109, 101, 95, 95]) 165 (.str (S [108, 97, 119, 95, 110, 116, 48, 50, 48, 48, 95, 48, 49]) 1153), de P (S [95, 95, 100, 111, 99, 95, 95]) 166 .none, de P (S [95, 95, 112, 97, 99, 107, 97, 103, 101, 95, 95]) 167 .none, de P (S [95, 95, 108, 111, 97, 100, 101, 114, 95, 95]) 168 (.builtin "__main__.__loader__#opaque"), de P (S [95, 95, 115, 112, 101, 99, 95, 95]) 169 .none, de P (S [95, 95, 97, 110, 110, 111, 116, 97, 116, 105, 111, 110, 115, 95, 95]) 170 (.ref 6), de P (S [95, 95, 98, 117, 105, 108, 116, 105, 110, 115, 95, 95]) 171 (.ref 4), de P (S [95, 95, 102, 105, 108, 101, 95, 95]) 173 (.str (S [47, 99, 108, 97, 105, 109, 47, 99, 117, 116, 46, 112, 121]) 172), de P (S [95, 95, 99, 97, 99, 104, 101, 100, 95, 95]) 174 .none, de P (S [95, 119, 97, 108, 108]) 193 (.ref 21), de P (S [83, 112, 101, 99, 105, 97, 108]) 224 (.ref 266), de P (S [83, 112, 101, 99, 105, 97, 108, 95, 100, 97, 116, 97]) 225 (.ref 38), de P (S [69, 77, 80, 84, 89]) 231 (.ref 44), de P (S [85, 78, 83, 80, 69, 67, 73, 70, 73, 69, 68]) 237 (.ref 47), de P (S [83, 121, 109, 98, 111, 108]) 268 (.ref 65), de P (S [83, 121, 109, 98, 111, 108, 84, 97, 98, 108, 101]) 346 (.ref 128), de P (S [80, 97, 105, 114]) 377 (.ref 149), de P (S [86, 101, 99, 116, 111, 114]) 406 (.ref 170), de P (S [108, 105, 115, 116, 95, 111, 102]) 416 (.ref 182), de P (S [115, 112, 108, 105, 116, 95, 108, 105, 115, 116]) 426 (.ref 189), de P (S [83, 99, 104, 101, 109, 101, 69, 114, 114, 111, 114]) 459 (.ref 206), de P (S [83, 121, 110, 116, 97, 120, 84, 114, 111, 117, 98, 108, 101]) 486 (.ref 226), de P (S [65, 108, 105, 97, 115]) 521 (.ref 245), de P (S [83, 112, 101, 99, 105, 97, 108, 95, 115, 99, 111, 112, 101, 115]) 551 (.ref 266), de P (S [76, 111, 99, 97, 108, 78, 97, 109, 101]) 582 (.ref 287), de P (S [71, 108, 111, 98, 97, 108, 78, 97, 109, 101]) 611 (.ref 308), de P (S [77, 97, 99, 114, 111]) 644 (.ref 329), de P (S [105, 115, 95, 105, 100, 101, 110, 116, 105, 102, 105, 101, 114]) 651 (.ref 340), de P (S [107, 101, 121, 95, 111, 102]) 658 (.ref 347), de P (S [114, 111, 111, 116, 95, 115, 121, 109, 98, 111, 108]) 666 (.ref 354), de P (S [83, 99, 111, 112, 101]) 750 (.ref 413), de P (S [115, 97, 109, 101, 95, 100, 101, 110, 111, 116, 97, 116, 105, 111, 110]) 758 (.ref 424), de P (S [115, 97, 109, 101]) 768 (.ref 431), de P (S [97, 108, 105, 97, 115, 95, 111, 102]) 777 (.ref 438), de P (S [115, 116, 114, 105, 112, 95, 116, 97, 107, 101]) 789 (.ref 445), de P (S [115, 116, 114, 105, 112]) 802 (.ref 452), de P (S [119, 111, 114, 100, 95, 111, 102]) 812 (.ref 459), de P (S [116, 104, 105, 110, 103, 115, 95, 111, 102]) 822 (.ref 466), de P (S [105, 110, 110, 101, 114, 95, 108, 105, 115, 116]) 832 (.ref 473), de P (S [105, 115, 95, 119, 111, 114, 100]) 842 (.ref 480), de P (S [98, 105, 110, 100, 105, 110, 103, 115, 95, 111, 102]) 854 (.ref 487), de P (S [115, 101, 113, 117, 101, 110, 99, 101]) 862 (.ref 494), de P (S [99, 104, 111, 105, 99, 101]) 872 (.ref 501), de P (S [112, 114, 111, 99, 101, 100, 117, 114, 101]) 881 (.ref 508), de P (S [107, 101, 112, 116]) 891 (.ref 515), de P (S [100, 111, 95, 97, 110, 100]) 903 (.ref 522), de P (S [100, 111, 95, 111, 114]) 916 (.ref 529), de P (S [100, 111, 95, 108, 101, 116]) 930 (.ref 536), de P (S [100, 111, 95, 108, 101, 116, 95, 115, 116, 97, 114]) 945 (.ref 543), de P (S [100, 111, 95, 108, 101, 116, 114, 101, 99]) 951 (.ref 548), de P (S [99, 111, 110, 100, 95, 99, 108, 97, 117, 115, 101]) 965 (.ref 555), de P (S [100, 111, 95, 99, 111, 110, 100]) 978 (.ref 562), de P (S [99, 97, 115, 101, 95, 116, 101, 115, 116]) 988 (.ref 569), de P (S [100, 111, 95, 99, 97, 115, 101]) 1003 (.ref 576), de P (S [115, 116, 101, 112, 95, 111, 102]) 1011 (.ref 583), de P (S [100, 111, 95, 100, 111]) 1035 (.ref 590), de P (S [100, 111, 95, 100, 101, 108, 97, 121]) 1045 (.ref 597), de P (S [78, 97, 109, 101, 115]) 1152 (.ref 677), de P (S [95, 108, 97, 119, 95, 119, 111, 114, 100, 115]) 1164 (.ref 682), de P (S [95, 108, 97, 119, 95, 100, 114, 97, 119]) 1172 (.ref 689), de P (S [95, 108, 97, 119, 95, 114, 111, 119]) 1179 (.ref 696), de P (S [95, 108, 97, 119, 95, 115, 111, 109, 101]) 1185 (.ref 701), de P (S [95, 108, 97, 119, 95, 98, 105, 110, 100, 105, 110, 103, 115]) 1195 (.ref 708), de P (S [95, 108, 97, 119, 95, 99, 108, 97, 117, 115, 101, 115]) 1205 (.ref 715), de P (S [95, 108, 97, 119, 95, 102, 111, 114, 109]) 1215 (.ref 722), de P (S [95, 108, 97, 119, 95, 98, 101, 110, 116]) 1229 (.ref 729), de P (S [95, 108, 97, 119, 95, 105, 115, 95, 114, 111, 119]) 1236 (.ref 736), de P (S [95, 108, 97, 119, 95, 97, 114, 101, 95, 98, 105, 110, 100, 105, 110, 103, 115]) 1245 (.ref 743), de P (S [95, 108, 97, 119, 95, 97, 114, 101, 95, 99, 108, 97, 117, 115, 101, 115]) 1257 (.ref 750), de P (S [95, 108, 97, 119, 95, 105, 115, 95, 114, 105, 103, 104, 116]) 1267 (.ref 757), de P (S [95, 108, 97, 119, 95, 100, 97, 116, 117, 109]) 1273 (.ref 762), de P (S [95, 108, 97, 119, 95, 116, 111, 108, 100]) 1279 (.ref 767), de P (S [95, 108, 97, 119, 95, 116, 117, 114, 110, 101, 100]) 1289 (.ref 774), de P (S [95, 108, 97, 119, 95, 105, 115, 95, 108, 101, 116]) 1299 (.ref 781), de P (S [108, 97, 119]) 1305 (.ref 786)] 75), #[]⟩
noncomputable def k34 (_ : Program) (_ : Params) : Obj := ⟨(.type "code"), none, (.fields #[(.str (S [95, 95, 105, 110, 105, 116, 95, 95]) 208), (.str (S [83, 112, 101, 99, 105, 97, 108, 46, 95, 95, 105, 110, 105, 116, 95, 95]) 209), (.str (S [47, 99, 108, 97, 105, 109, 47, 99, 117, 116, 46, 112, 121]) 210), (.int 7 0), (.int 2 0), (.int 0 0), (.int 0 0), (.int 3 0), (.ref 29), (.bool true), (.int 181 0), (.ref 30), .none, (.ref 31), (.ref 32), (.ref 33), (.int 213 0), (.int 7 0), (.str (S [47, 99, 108, 97, 105, 109, 47, 99, 117, 116, 46, 112, 121]) 214)]), #[]⟩
noncomputable def k35 (pw : Program) (_ : Params) : Obj := ⟨.type "function", none, .func (fnK (mtAt pw 2 0) (S [83, 112, 101, 99, 105, 97, 108, 46, 95, 95, 105, 110, 105, 116, 95, 95]) (.str (S [115, 99, 104, 101, 109, 101, 46, 100, 97, 116, 97]) 194) 34 .none), #[]⟩
noncomputable def k37 (_ : Program) (P : Params) : Obj := ⟨(.type "dict"), none, (.dict #[de P (S [95, 95, 109, 111, 100, 117, 108, 101, 95, 95]) 203 (.str (S [115, 99, 104, 101, 109, 101, 46, 100, 97, 116, 97]) 194), de P (S [95, 95, 102, 105, 114, 115, 116, 108, 105, 110, 101, 110, 111, 95, 95]) 207 (.int 5 206), de P (S [95, 95, 105, 110, 105, 116, 95, 95]) 215 (.ref 35), de P (S [95, 95, 115, 116, 97, 116, 105, 99, 95, 97, 116, 116, 114, 105, 98, 117, 116, 101, 115, 95, 95]) 217 (.ref 36), de P (S [95, 95, 100, 105, 99, 116, 95, 95]) 219 (.ref 39), de P (S [95, 95, 119, 101, 97, 107, 114, 101, 102, 95, 95]) 221 (.ref 40), de P (S [95, 95, 100, 111, 99, 95, 95]) 222 .none] 4), #[]⟩
noncomputable def k38 (_ : Program) (_ : Params) : Obj := ⟨(.type "type"), none, (.cls ⟨(S [83, 112, 101, 99, 105, 97, 108]), [(.type "object")], [(.ref 38), (.type "object")], 37, (S [83, 112, 101, 99, 105, 97, 108]), true, [], [], false, none, false⟩), #[none, none, some (.str (S [83, 112, 101, 99, 105, 97, 108]) 196), some (.str (S [83, 112, 101, 99, 105, 97, 108]) 204), some (.builtin "object.__new__"), some (.bool true)]⟩
noncomputable def k43 (_ : Program) (P : Params) : Obj := ⟨(.type "dict"), none, (.dict #[de P (S [116, 105, 116, 108, 101]) 230 (.str (S [101, 109, 112, 116, 121]) 226)] 1), #[]⟩
noncomputable def k44 (_ : Program) (_ : Params) : Obj := ⟨(.ref 38), some 43, .plain, #[]⟩
noncomputable def k46 (_ : Program) (P : Params) : Obj := ⟨(.type "dict"), none, (.dict #[de P (S [116, 105, 116, 108, 101]) 236 (.str (S [117, 110, 115, 112, 101, 99, 105, 102, 105, 101, 100]) 232)] 1), #[]⟩
noncomputable def k47 (_ : Program) (_ : Params) : Obj := ⟨(.ref 38), some 46, .plain, #[]⟩
noncomputable def k61 (_ : Program) (_ : Params) : Obj := ⟨(.type "code"), none, (.fields #[(.str (S [95, 95, 105, 110, 105, 116, 95, 95]) 250), (.str (S [83, 121, 109, 98, 111, 108, 46, 95, 95, 105, 110, 105, 116, 95, 95]) 251), (.str (S [47, 99, 108, 97, 105, 109, 47, 99, 117, 116, 46, 112, 121]) 252), (.int 14 0), (.int 3 0), (.int 0 0), (.int 0 0), (.int 3 0), (.ref 56), (.bool true), (.int 181 0), (.ref 57), .none, (.ref 58), (.ref 59), (.ref 60), (.int 256 0), (.int 14 0), (.str (S [47, 99, 108, 97, 105, 109, 47, 99, 117, 116, 46, 112, 121]) 257)]), #[]⟩
noncomputable def k62 (pw : Program) (_ : Params) : Obj := ⟨.type "function", none, .func (fnK (mtAt pw 6 0) (S [83, 121, 109, 98, 111, 108, 46, 95, 95, 105, 110, 105, 116, 95, 95]) (.str (S [115, 99, 104, 101, 109, 101, 46, 100, 97, 116, 97]) 194) 61 .none), #[]⟩
noncomputable def k64 (_ : Program) (P : Params) : Obj := ⟨(.type "dict"), none, (.dict #[de P (S [95, 95, 109, 111, 100, 117, 108, 101, 95, 95]) 245 (.str (S [115, 99, 104, 101, 109, 101, 46, 100, 97, 116, 97]) 194), de P (S [95, 95, 102, 105, 114, 115, 116, 108, 105, 110, 101, 110, 111, 95, 95]) 249 (.int 12 248), de P (S [95, 95, 105, 110, 105, 116, 95, 95]) 258 (.ref 62), de P (S [95, 95, 115, 116, 97, 116, 105, 99, 95, 97, 116, 116, 114, 105, 98, 117, 116, 101, 115, 95, 95]) 261 (.ref 63), de P (S [95, 95, 100, 105, 99, 116, 95, 95]) 263 (.ref 66), de P (S [95, 95, 119, 101, 97, 107, 114, 101, 102, 95, 95]) 265 (.ref 67), de P (S [95, 95, 100, 111, 99, 95, 95]) 266 .none] 4), #[]⟩
noncomputable def k65 (_ : Program) (_ : Params) : Obj := ⟨(.type "type"), none, (.cls ⟨(S [83, 121, 109, 98, 111, 108]), [(.type "object")], [(.ref 65), (.type "object")], 64, (S [83, 121, 109, 98, 111, 108]), true, [], [], false, none, false⟩), #[none, none, some (.str (S [83, 121, 109, 98, 111, 108]) 238), some (.str (S [83, 121, 109, 98, 111, 108]) 246), some (.builtin "object.__new__"), some (.bool true)]⟩
noncomputable def k82 (_ : Program) (_ : Params) : Obj := ⟨(.type "code"), none, (.fields #[(.str (S [95, 95, 105, 110, 105, 116, 95, 95]) 281), (.str (S [83, 121, 109, 98, 111, 108, 84, 97, 98, 108, 101, 46, 95, 95, 105, 110, 105, 116, 95, 95]) 282), (.str (S [47, 99, 108, 97, 105, 109, 47, 99, 117, 116, 46, 112, 121]) 283), (.int 19 0), (.int 1 0), (.int 0 0), (.int 0 0), (.int 3 0), (.ref 77), (.bool true), (.int 181 0), (.ref 78), .none, (.ref 79), (.ref 80), (.ref 81), (.int 285 0), (.int 19 0), (.str (S [47, 99, 108, 97, 105, 109, 47, 99, 117, 116, 46, 112, 121]) 286)]), #[]⟩
noncomputable def k83 (pw : Program) (_ : Params) : Obj := ⟨.type "function", none, .func (fnK (mtAt pw 7 0) (S [83, 121, 109, 98, 111, 108, 84, 97, 98, 108, 101, 46, 95, 95, 105, 110, 105, 116, 95, 95]) (.str (S [115, 99, 104, 101, 109, 101, 46, 100, 97, 116, 97]) 194) 82 .none), #[]⟩
noncomputable def k89 (_ : Program) (_ : Params) : Obj := ⟨(.type "code"), none, (.fields #[(.str (S [115, 121, 109, 98, 111, 108]) 288), (.str (S [83, 121, 109, 98, 111, 108, 84, 97, 98, 108, 101, 46, 115, 121, 109, 98, 111, 108]) 289), (.str (S [47, 99, 108, 97, 105, 109, 47, 99, 117, 116, 46, 112, 121]) 290), (.int 23 0), (.int 2 0), (.int 0 0), (.int 0 0), (.int 3 0), (.ref 84), (.bool true), (.int 181 0), (.ref 85), .none, (.ref 86), (.ref 87), (.ref 88), (.int 294 0), (.int 23 0), (.str (S [47, 99, 108, 97, 105, 109, 47, 99, 117, 116, 46, 112, 121]) 295)]), #[]⟩
noncomputable def k90 (pw : Program) (_ : Params) : Obj := ⟨.type "function", none, .func (fnK (mtAt pw 7 1) (S [83, 121, 109, 98, 111, 108, 84, 97, 98, 108, 101, 46, 115, 121, 109, 98, 111, 108]) (.str (S [115, 99, 104, 101, 109, 101, 46, 100, 97, 116, 97]) 194) 89 .none), #[]⟩
noncomputable def k96 (_ : Program) (_ : Params) : Obj := ⟨(.type "code"), none, (.fields #[(.str (S [102, 114, 101, 115, 104]) 297), (.str (S [83, 121, 109, 98, 111, 108, 84, 97, 98, 108, 101, 46, 102, 114, 101, 115, 104]) 298), (.str (S [47, 99, 108, 97, 105, 109, 47, 99, 117, 116, 46, 112, 121]) 299), (.int 31 0), (.int 2 0), (.int 0 0), (.int 0 0), (.int 3 0), (.ref 91), (.bool true), (.int 181 0), (.ref 92), .none, (.ref 93), (.ref 94), (.ref 95), (.int 303 0), (.int 31 0), (.str (S [47, 99, 108, 97, 105, 109, 47, 99, 117, 116, 46, 112, 121]) 304)]), #[]⟩
noncomputable def k97 (pw : Program) (_ : Params) : Obj := ⟨.type "function", none, .func (fnK (mtAt pw 7 2) (S [83, 121, 109, 98, 111, 108, 84, 97, 98, 108, 101, 46, 102, 114, 101, 115, 104]) (.str (S [115, 99, 104, 101, 109, 101, 46, 100, 97, 116, 97]) 194) 96 .none), #[]⟩
noncomputable def k110 (_ : Program) (_ : Params) : Obj := ⟨(.type "code"), none, (.fields #[(.str (S [102, 105, 110, 100]) 314), (.str (S [83, 121, 109, 98, 111, 108, 84, 97, 98, 108, 101, 46, 102, 105, 110, 100]) 315), (.str (S [47, 99, 108, 97, 105, 109, 47, 99, 117, 116, 46, 112, 121]) 316), (.int 39 0), (.int 2 0), (.int 0 0), (.int 0 0), (.int 3 0), (.ref 105), (.bool true), (.int 181 0), (.ref 106), .none, (.ref 107), (.ref 108), (.ref 109), (.int 319 0), (.int 39 0), (.str (S [47, 99, 108, 97, 105, 109, 47, 99, 117, 116, 46, 112, 121]) 320)]), #[]⟩
noncomputable def k111 (pw : Program) (_ : Params) : Obj := ⟨.type "function", none, .func (fnK (mtAt pw 7 4) (S [83, 121, 109, 98, 111, 108, 84, 97, 98, 108, 101, 46, 102, 105, 110, 100]) (.str (S [115, 99, 104, 101, 109, 101, 46, 100, 97, 116, 97]) 194) 110 .none), #[]⟩
noncomputable def k127 (_ : Program) (P : Params) : Obj := ⟨(.type "dict"), none, (.dict #[de P (S [95, 95, 109, 111, 100, 117, 108, 101, 95, 95]) 276 (.str (S [115, 99, 104, 101, 109, 101, 46, 100, 97, 116, 97]) 194), de P (S [95, 95, 102, 105, 114, 115, 116, 108, 105, 110, 101, 110, 111, 95, 95]) 280 (.int 17 279), de P (S [95, 95, 105, 110, 105, 116, 95, 95]) 287 (.ref 83), de P (S [115, 121, 109, 98, 111, 108]) 296 (.ref 90), de P (S [102, 114, 101, 115, 104]) 305 (.ref 97), de P (S [98, 121, 95, 110, 117, 109, 98, 101, 114]) 313 (.ref 104), de P (S [102, 105, 110, 100]) 321 (.ref 111), de P (S [105, 115, 95, 105, 110, 116, 101, 114, 110, 101, 100]) 329 (.ref 118), de P (S [115, 105, 122, 101]) 336 (.ref 125), de P (S [95, 95, 115, 116, 97, 116, 105, 99, 95, 97, 116, 116, 114, 105, 98, 117, 116, 101, 115, 95, 95]) 339 (.ref 126), de P (S [95, 95, 100, 105, 99, 116, 95, 95]) 341 (.ref 129), de P (S [95, 95, 119, 101, 97, 107, 114, 101, 102, 95, 95]) 343 (.ref 130), de P (S [95, 95, 100, 111, 99, 95, 95]) 344 .none] 4), #[]⟩
noncomputable def k128 (_ : Program) (_ : Params) : Obj := ⟨(.type "type"), none, (.cls ⟨(S [83, 121, 109, 98, 111, 108, 84, 97, 98, 108, 101]), [(.type "object")], [(.ref 128), (.type "object")], 127, (S [83, 121, 109, 98, 111, 108, 84, 97, 98, 108, 101]), true, [], [], false, none, false⟩), #[none, none, some (.str (S [83, 121, 109, 98, 111, 108, 84, 97, 98, 108, 101]) 269), some (.str (S [83, 121, 109, 98, 111, 108, 84, 97, 98, 108, 101]) 277), some (.builtin "object.__new__"), some (.bool true)]⟩
noncomputable def k145 (_ : Program) (_ : Params) : Obj := ⟨(.type "code"), none, (.fields #[(.str (S [95, 95, 105, 110, 105, 116, 95, 95]) 359), (.str (S [80, 97, 105, 114, 46, 95, 95, 105, 110, 105, 116, 95, 95]) 360), (.str (S [47, 99, 108, 97, 105, 109, 47, 99, 117, 116, 46, 112, 121]) 361), (.int 49 0), (.int 3 0), (.int 0 0), (.int 0 0), (.int 3 0), (.ref 140), (.bool true), (.int 181 0), (.ref 141), .none, (.ref 142), (.ref 143), (.ref 144), (.int 365 0), (.int 49 0), (.str (S [47, 99, 108, 97, 105, 109, 47, 99, 117, 116, 46, 112, 121]) 366)]), #[]⟩
noncomputable def k146 (pw : Program) (_ : Params) : Obj := ⟨.type "function", none, .func (fnK (mtAt pw 8 0) (S [80, 97, 105, 114, 46, 95, 95, 105, 110, 105, 116, 95, 95]) (.str (S [115, 99, 104, 101, 109, 101, 46, 100, 97, 116, 97]) 194) 145 .none), #[]⟩
noncomputable def k148 (_ : Program) (P : Params) : Obj := ⟨(.type "dict"), none, (.dict #[de P (S [95, 95, 109, 111, 100, 117, 108, 101, 95, 95]) 354 (.str (S [115, 99, 104, 101, 109, 101, 46, 100, 97, 116, 97]) 194), de P (S [95, 95, 102, 105, 114, 115, 116, 108, 105, 110, 101, 110, 111, 95, 95]) 358 (.int 47 357), de P (S [95, 95, 105, 110, 105, 116, 95, 95]) 367 (.ref 146), de P (S [95, 95, 115, 116, 97, 116, 105, 99, 95, 97, 116, 116, 114, 105, 98, 117, 116, 101, 115, 95, 95]) 370 (.ref 147), de P (S [95, 95, 100, 105, 99, 116, 95, 95]) 372 (.ref 150), de P (S [95, 95, 119, 101, 97, 107, 114, 101, 102, 95, 95]) 374 (.ref 151), de P (S [95, 95, 100, 111, 99, 95, 95]) 375 .none] 4), #[]⟩
noncomputable def k149 (_ : Program) (_ : Params) : Obj := ⟨(.type "type"), none, (.cls ⟨(S [80, 97, 105, 114]), [(.type "object")], [(.ref 149), (.type "object")], 148, (S [80, 97, 105, 114]), true, [], [], false, none, false⟩), #[none, none, some (.str (S [80, 97, 105, 114]) 347), some (.str (S [80, 97, 105, 114]) 355), some (.builtin "object.__new__"), some (.bool true)]⟩
noncomputable def k166 (_ : Program) (_ : Params) : Obj := ⟨(.type "code"), none, (.fields #[(.str (S [95, 95, 105, 110, 105, 116, 95, 95]) 390), (.str (S [86, 101, 99, 116, 111, 114, 46, 95, 95, 105, 110, 105, 116, 95, 95]) 391), (.str (S [47, 99, 108, 97, 105, 109, 47, 99, 117, 116, 46, 112, 121]) 392), (.int 54 0), (.int 2 0), (.int 0 0), (.int 0 0), (.int 3 0), (.ref 161), (.bool true), (.int 181 0), (.ref 162), .none, (.ref 163), (.ref 164), (.ref 165), (.int 395 0), (.int 54 0), (.str (S [47, 99, 108, 97, 105, 109, 47, 99, 117, 116, 46, 112, 121]) 396)]), #[]⟩
noncomputable def k167 (pw : Program) (_ : Params) : Obj := ⟨.type "function", none, .func (fnK (mtAt pw 9 0) (S [86, 101, 99, 116, 111, 114, 46, 95, 95, 105, 110, 105, 116, 95, 95]) (.str (S [115, 99, 104, 101, 109, 101, 46, 100, 97, 116, 97]) 194) 166 .none), #[]⟩
noncomputable def k169 (_ : Program) (P : Params) : Obj := ⟨(.type "dict"), none, (.dict #[de P (S [95, 95, 109, 111, 100, 117, 108, 101, 95, 95]) 385 (.str (S [115, 99, 104, 101, 109, 101, 46, 100, 97, 116, 97]) 194), de P (S [95, 95, 102, 105, 114, 115, 116, 108, 105, 110, 101, 110, 111, 95, 95]) 389 (.int 52 388), de P (S [95, 95, 105, 110, 105, 116, 95, 95]) 397 (.ref 167), de P (S [95, 95, 115, 116, 97, 116, 105, 99, 95, 97, 116, 116, 114, 105, 98, 117, 116, 101, 115, 95, 95]) 399 (.ref 168), de P (S [95, 95, 100, 105, 99, 116, 95, 95]) 401 (.ref 171), de P (S [95, 95, 119, 101, 97, 107, 114, 101, 102, 95, 95]) 403 (.ref 172), de P (S [95, 95, 100, 111, 99, 95, 95]) 404 .none] 4), #[]⟩
noncomputable def k170 (_ : Program) (_ : Params) : Obj := ⟨(.type "type"), none, (.cls ⟨(S [86, 101, 99, 116, 111, 114]), [(.type "object")], [(.ref 170), (.type "object")], 169, (S [86, 101, 99, 116, 111, 114]), true, [], [], false, none, false⟩), #[none, none, some (.str (S [86, 101, 99, 116, 111, 114]) 378), some (.str (S [86, 101, 99, 116, 111, 114]) 386), some (.builtin "object.__new__"), some (.bool true)]⟩
noncomputable def k175 (_ : Program) (_ : Params) : Obj := ⟨(.type "tuple"), none, (.seq #[(.ref 44)] 0), #[]⟩
noncomputable def k181 (_ : Program) (_ : Params) : Obj := ⟨(.type "code"), none, (.fields #[(.str (S [108, 105, 115, 116, 95, 111, 102]) 407), (.str (S [108, 105, 115, 116, 95, 111, 102]) 408), (.str (S [47, 99, 108, 97, 105, 109, 47, 99, 117, 116, 46, 112, 121]) 409), (.int 56 0), (.int 2 0), (.int 0 0), (.int 0 0), (.int 3 0), (.ref 176), (.bool true), (.int 181 0), (.ref 177), .none, (.ref 178), (.ref 179), (.ref 180), (.int 414 0), (.int 56 0), (.str (S [47, 99, 108, 97, 105, 109, 47, 99, 117, 116, 46, 112, 121]) 415)]), #[]⟩
noncomputable def k182 (pw : Program) (_ : Params) : Obj := ⟨.type "function", none, .func (fnK (stAt pw 10) (S [108, 105, 115, 116, 95, 111, 102]) (.str (S [115, 99, 104, 101, 109, 101, 46, 100, 97, 116, 97]) 194) 181 (.ref 175)), #[]⟩
noncomputable def k188 (_ : Program) (_ : Params) : Obj := ⟨(.type "code"), none, (.fields #[(.str (S [115, 112, 108, 105, 116, 95, 108, 105, 115, 116]) 417), (.str (S [115, 112, 108, 105, 116, 95, 108, 105, 115, 116]) 418), (.str (S [47, 99, 108, 97, 105, 109, 47, 99, 117, 116, 46, 112, 121]) 419), (.int 61 0), (.int 1 0), (.int 0 0), (.int 0 0), (.int 3 0), (.ref 183), (.bool true), (.int 181 0), (.ref 184), .none, (.ref 185), (.ref 186), (.ref 187), (.int 424 0), (.int 61 0), (.str (S [47, 99, 108, 97, 105, 109, 47, 99, 117, 116, 46, 112, 121]) 425)]), #[]⟩
noncomputable def k189 (pw : Program) (_ : Params) : Obj := ⟨.type "function", none, .func (fnK (stAt pw 11) (S [115, 112, 108, 105, 116, 95, 108, 105, 115, 116]) (.str (S [115, 99, 104, 101, 109, 101, 46, 100, 97, 116, 97]) 194) 188 .none), #[]⟩
noncomputable def k202 (_ : Program) (_ : Params) : Obj := ⟨(.type "code"), none, (.fields #[(.str (S [95, 95, 105, 110, 105, 116, 95, 95]) 441), (.str (S [83, 99, 104, 101, 109, 101, 69, 114, 114, 111, 114, 46, 95, 95, 105, 110, 105, 116, 95, 95]) 442), (.str (S [47, 99, 108, 97, 105, 109, 47, 99, 117, 116, 46, 112, 121]) 443), (.int 76 0), (.int 3 0), (.int 0 0), (.int 0 0), (.int 3 0), (.ref 197), (.bool true), (.int 181 0), (.ref 198), .none, (.ref 199), (.ref 200), (.ref 201), (.int 447 0), (.int 76 0), (.str (S [47, 99, 108, 97, 105, 109, 47, 99, 117, 116, 46, 112, 121]) 448)]), #[]⟩
noncomputable def k203 (pw : Program) (_ : Params) : Obj := ⟨.type "function", none, .func (fnK (mtAt pw 13 0) (S [83, 99, 104, 101, 109, 101, 69, 114, 114, 111, 114, 46, 95, 95, 105, 110, 105, 116, 95, 95]) (.str (S [115, 99, 104, 101, 109, 101, 46, 101, 114, 114, 111, 114, 115]) 427) 202 .none), #[]⟩
noncomputable def k205 (_ : Program) (P : Params) : Obj := ⟨(.type "dict"), none, (.dict #[de P (S [95, 95, 109, 111, 100, 117, 108, 101, 95, 95]) 436 (.str (S [115, 99, 104, 101, 109, 101, 46, 101, 114, 114, 111, 114, 115]) 427), de P (S [95, 95, 102, 105, 114, 115, 116, 108, 105, 110, 101, 110, 111, 95, 95]) 440 (.int 74 439), de P (S [95, 95, 105, 110, 105, 116, 95, 95]) 449 (.ref 203), de P (S [95, 95, 115, 116, 97, 116, 105, 99, 95, 97, 116, 116, 114, 105, 98, 117, 116, 101, 115, 95, 95]) 452 (.ref 204), de P (S [95, 95, 119, 101, 97, 107, 114, 101, 102, 95, 95]) 454 (.ref 207), de P (S [95, 95, 100, 111, 99, 95, 95]) 455 .none] 3), #[]⟩
noncomputable def k206 (_ : Program) (_ : Params) : Obj := ⟨(.type "type"), none, (.cls ⟨(S [83, 99, 104, 101, 109, 101, 69, 114, 114, 111, 114]), [(.type "Exception")], [(.ref 206), (.type "Exception"), (.type "BaseException"), (.type "object")], 205, (S [83, 99, 104, 101, 109, 101, 69, 114, 114, 111, 114]), true, [], [(.ref 226)], false, none, false⟩), #[some (.ref 190), none, some (.str (S [83, 99, 104, 101, 109, 101, 69, 114, 114, 111, 114]) 429), some (.str (S [83, 99, 104, 101, 109, 101, 69, 114, 114, 111, 114]) 437), some (.builtin "Exception.__new__"), some (.bool true)]⟩
noncomputable def k222 (_ : Program) (_ : Params) : Obj := ⟨(.type "code"), none, (.fields #[(.str (S [95, 95, 105, 110, 105, 116, 95, 95]) 472), (.str (S [83, 121, 110, 116, 97, 120, 84, 114, 111, 117, 98, 108, 101, 46, 95, 95, 105, 110, 105, 116, 95, 95]) 473), (.str (S [47, 99, 108, 97, 105, 109, 47, 99, 117, 116, 46, 112, 121]) 474), (.int 81 0), (.int 3 0), (.int 0 0), (.int 0 0), (.int 3 0), (.ref 217), (.bool true), (.int 181 0), (.ref 218), .none, (.ref 219), (.ref 220), (.ref 221), (.int 478 0), (.int 81 0), (.str (S [47, 99, 108, 97, 105, 109, 47, 99, 117, 116, 46, 112, 121]) 479)]), #[]⟩
noncomputable def k223 (pw : Program) (_ : Params) : Obj := ⟨.type "function", none, .func (fnK (mtAt pw 14 0) (S [83, 121, 110, 116, 97, 120, 84, 114, 111, 117, 98, 108, 101, 46, 95, 95, 105, 110, 105, 116, 95, 95]) (.str (S [115, 99, 104, 101, 109, 101, 46, 101, 114, 114, 111, 114, 115]) 427) 222 .none), #[]⟩
noncomputable def k225 (_ : Program) (P : Params) : Obj := ⟨(.type "dict"), none, (.dict #[de P (S [95, 95, 109, 111, 100, 117, 108, 101, 95, 95]) 467 (.str (S [115, 99, 104, 101, 109, 101, 46, 101, 114, 114, 111, 114, 115]) 427), de P (S [95, 95, 102, 105, 114, 115, 116, 108, 105, 110, 101, 110, 111, 95, 95]) 471 (.int 79 470), de P (S [95, 95, 105, 110, 105, 116, 95, 95]) 480 (.ref 223), de P (S [95, 95, 115, 116, 97, 116, 105, 99, 95, 97, 116, 116, 114, 105, 98, 117, 116, 101, 115, 95, 95]) 483 (.ref 224), de P (S [95, 95, 100, 111, 99, 95, 95]) 484 .none] 2), #[]⟩
noncomputable def k226 (_ : Program) (_ : Params) : Obj := ⟨(.type "type"), none, (.cls ⟨(S [83, 121, 110, 116, 97, 120, 84, 114, 111, 117, 98, 108, 101]), [(.ref 206)], [(.ref 226), (.ref 206), (.type "Exception"), (.type "BaseException"), (.type "object")], 225, (S [83, 121, 110, 116, 97, 120, 84, 114, 111, 117, 98, 108, 101]), true, [], [], false, none, false⟩), #[some (.ref 210), none, some (.str (S [83, 121, 110, 116, 97, 120, 84, 114, 111, 117, 98, 108, 101]) 460), some (.str (S [83, 121, 110, 116, 97, 120, 84, 114, 111, 117, 98, 108, 101]) 468), some (.builtin "Exception.__new__"), some (.bool true)]⟩
noncomputable def k241 (_ : Program) (_ : Params) : Obj := ⟨(.type "code"), none, (.fields #[(.str (S [95, 95, 105, 110, 105, 116, 95, 95]) 501), (.str (S [65, 108, 105, 97, 115, 46, 95, 95, 105, 110, 105, 116, 95, 95]) 502), (.str (S [47, 99, 108, 97, 105, 109, 47, 99, 117, 116, 46, 112, 121]) 503), (.int 88 0), (.int 4 0), (.int 0 0), (.int 0 0), (.int 3 0), (.ref 236), (.bool true), (.int 181 0), (.ref 237), .none, (.ref 238), (.ref 239), (.ref 240), (.int 508 0), (.int 88 0), (.str (S [47, 99, 108, 97, 105, 109, 47, 99, 117, 116, 46, 112, 121]) 509)]), #[]⟩
noncomputable def k242 (pw : Program) (_ : Params) : Obj := ⟨.type "function", none, .func (fnK (mtAt pw 16 0) (S [65, 108, 105, 97, 115, 46, 95, 95, 105, 110, 105, 116, 95, 95]) (.str (S [115, 99, 104, 101, 109, 101, 46, 115, 99, 111, 112, 101, 115]) 487) 241 .none), #[]⟩
noncomputable def k244 (_ : Program) (P : Params) : Obj := ⟨(.type "dict"), none, (.dict #[de P (S [95, 95, 109, 111, 100, 117, 108, 101, 95, 95]) 496 (.str (S [115, 99, 104, 101, 109, 101, 46, 115, 99, 111, 112, 101, 115]) 487), de P (S [95, 95, 102, 105, 114, 115, 116, 108, 105, 110, 101, 110, 111, 95, 95]) 500 (.int 86 499), de P (S [95, 95, 105, 110, 105, 116, 95, 95]) 510 (.ref 242), de P (S [95, 95, 115, 116, 97, 116, 105, 99, 95, 97, 116, 116, 114, 105, 98, 117, 116, 101, 115, 95, 95]) 514 (.ref 243), de P (S [95, 95, 100, 105, 99, 116, 95, 95]) 516 (.ref 246), de P (S [95, 95, 119, 101, 97, 107, 114, 101, 102, 95, 95]) 518 (.ref 247), de P (S [95, 95, 100, 111, 99, 95, 95]) 519 .none] 4), #[]⟩
noncomputable def k245 (_ : Program) (_ : Params) : Obj := ⟨(.type "type"), none, (.cls ⟨(S [65, 108, 105, 97, 115]), [(.type "object")], [(.ref 245), (.type "object")], 244, (S [65, 108, 105, 97, 115]), true, [], [], false, none, false⟩), #[none, none, some (.str (S [65, 108, 105, 97, 115]) 489), some (.str (S [65, 108, 105, 97, 115]) 497), some (.builtin "object.__new__"), some (.bool true)]⟩
noncomputable def k262 (_ : Program) (_ : Params) : Obj := ⟨(.type "code"), none, (.fields #[(.str (S [95, 95, 105, 110, 105, 116, 95, 95]) 534), (.str (S [83, 112, 101, 99, 105, 97, 108, 46, 95, 95, 105, 110, 105, 116, 95, 95]) 535), (.str (S [47, 99, 108, 97, 105, 109, 47, 99, 117, 116, 46, 112, 121]) 536), (.int 94 0), (.int 2 0), (.int 0 0), (.int 0 0), (.int 3 0), (.ref 257), (.bool true), (.int 181 0), (.ref 258), .none, (.ref 259), (.ref 260), (.ref 261), (.int 539 0), (.int 94 0), (.str (S [47, 99, 108, 97, 105, 109, 47, 99, 117, 116, 46, 112, 121]) 540)]), #[]⟩
noncomputable def k263 (pw : Program) (_ : Params) : Obj := ⟨.type "function", none, .func (fnK (mtAt pw 17 0) (S [83, 112, 101, 99, 105, 97, 108, 46, 95, 95, 105, 110, 105, 116, 95, 95]) (.str (S [115, 99, 104, 101, 109, 101, 46, 115, 99, 111, 112, 101, 115]) 487) 262 .none), #[]⟩
noncomputable def k265 (_ : Program) (P : Params) : Obj := ⟨(.type "dict"), none, (.dict #[de P (S [95, 95, 109, 111, 100, 117, 108, 101, 95, 95]) 529 (.str (S [115, 99, 104, 101, 109, 101, 46, 115, 99, 111, 112, 101, 115]) 487), de P (S [95, 95, 102, 105, 114, 115, 116, 108, 105, 110, 101, 110, 111, 95, 95]) 533 (.int 92 532), de P (S [95, 95, 105, 110, 105, 116, 95, 95]) 541 (.ref 263), de P (S [95, 95, 115, 116, 97, 116, 105, 99, 95, 97, 116, 116, 114, 105, 98, 117, 116, 101, 115, 95, 95]) 543 (.ref 264), de P (S [95, 95, 100, 105, 99, 116, 95, 95]) 545 (.ref 267), de P (S [95, 95, 119, 101, 97, 107, 114, 101, 102, 95, 95]) 547 (.ref 268), de P (S [95, 95, 100, 111, 99, 95, 95]) 548 .none] 4), #[]⟩
noncomputable def k266 (_ : Program) (_ : Params) : Obj := ⟨(.type "type"), none, (.cls ⟨(S [83, 112, 101, 99, 105, 97, 108]), [(.type "object")], [(.ref 266), (.type "object")], 265, (S [83, 112, 101, 99, 105, 97, 108]), true, [], [], false, none, false⟩), #[none, none, some (.str (S [83, 112, 101, 99, 105, 97, 108]) 522), some (.str (S [83, 112, 101, 99, 105, 97, 108]) 530), some (.builtin "object.__new__"), some (.bool true)]⟩
noncomputable def k283 (_ : Program) (_ : Params) : Obj := ⟨(.type "code"), none, (.fields #[(.str (S [95, 95, 105, 110, 105, 116, 95, 95]) 564), (.str (S [76, 111, 99, 97, 108, 78, 97, 109, 101, 46, 95, 95, 105, 110, 105, 116, 95, 95]) 565), (.str (S [47, 99, 108, 97, 105, 109, 47, 99, 117, 116, 46, 112, 121]) 566), (.int 99 0), (.int 3 0), (.int 0 0), (.int 0 0), (.int 3 0), (.ref 278), (.bool true), (.int 181 0), (.ref 279), .none, (.ref 280), (.ref 281), (.ref 282), (.int 570 0), (.int 99 0), (.str (S [47, 99, 108, 97, 105, 109, 47, 99, 117, 116, 46, 112, 121]) 571)]), #[]⟩
noncomputable def k284 (pw : Program) (_ : Params) : Obj := ⟨.type "function", none, .func (fnK (mtAt pw 19 0) (S [76, 111, 99, 97, 108, 78, 97, 109, 101, 46, 95, 95, 105, 110, 105, 116, 95, 95]) (.str (S [115, 99, 104, 101, 109, 101, 46, 115, 99, 111, 112, 101, 115]) 487) 283 .none), #[]⟩
noncomputable def k286 (_ : Program) (P : Params) : Obj := ⟨(.type "dict"), none, (.dict #[de P (S [95, 95, 109, 111, 100, 117, 108, 101, 95, 95]) 559 (.str (S [115, 99, 104, 101, 109, 101, 46, 115, 99, 111, 112, 101, 115]) 487), de P (S [95, 95, 102, 105, 114, 115, 116, 108, 105, 110, 101, 110, 111, 95, 95]) 563 (.int 97 562), de P (S [95, 95, 105, 110, 105, 116, 95, 95]) 572 (.ref 284), de P (S [95, 95, 115, 116, 97, 116, 105, 99, 95, 97, 116, 116, 114, 105, 98, 117, 116, 101, 115, 95, 95]) 575 (.ref 285), de P (S [95, 95, 100, 105, 99, 116, 95, 95]) 577 (.ref 288), de P (S [95, 95, 119, 101, 97, 107, 114, 101, 102, 95, 95]) 579 (.ref 289), de P (S [95, 95, 100, 111, 99, 95, 95]) 580 .none] 4), #[]⟩
noncomputable def k287 (_ : Program) (_ : Params) : Obj := ⟨(.type "type"), none, (.cls ⟨(S [76, 111, 99, 97, 108, 78, 97, 109, 101]), [(.type "object")], [(.ref 287), (.type "object")], 286, (S [76, 111, 99, 97, 108, 78, 97, 109, 101]), true, [], [], false, none, false⟩), #[none, none, some (.str (S [76, 111, 99, 97, 108, 78, 97, 109, 101]) 552), some (.str (S [76, 111, 99, 97, 108, 78, 97, 109, 101]) 560), some (.builtin "object.__new__"), some (.bool true)]⟩
noncomputable def k304 (_ : Program) (_ : Params) : Obj := ⟨(.type "code"), none, (.fields #[(.str (S [95, 95, 105, 110, 105, 116, 95, 95]) 595), (.str (S [71, 108, 111, 98, 97, 108, 78, 97, 109, 101, 46, 95, 95, 105, 110, 105, 116, 95, 95]) 596), (.str (S [47, 99, 108, 97, 105, 109, 47, 99, 117, 116, 46, 112, 121]) 597), (.int 104 0), (.int 2 0), (.int 0 0), (.int 0 0), (.int 3 0), (.ref 299), (.bool true), (.int 181 0), (.ref 300), .none, (.ref 301), (.ref 302), (.ref 303), (.int 600 0), (.int 104 0), (.str (S [47, 99, 108, 97, 105, 109, 47, 99, 117, 116, 46, 112, 121]) 601)]), #[]⟩
noncomputable def k305 (pw : Program) (_ : Params) : Obj := ⟨.type "function", none, .func (fnK (mtAt pw 20 0) (S [71, 108, 111, 98, 97, 108, 78, 97, 109, 101, 46, 95, 95, 105, 110, 105, 116, 95, 95]) (.str (S [115, 99, 104, 101, 109, 101, 46, 115, 99, 111, 112, 101, 115]) 487) 304 .none), #[]⟩
noncomputable def k307 (_ : Program) (P : Params) : Obj := ⟨(.type "dict"), none, (.dict #[de P (S [95, 95, 109, 111, 100, 117, 108, 101, 95, 95]) 590 (.str (S [115, 99, 104, 101, 109, 101, 46, 115, 99, 111, 112, 101, 115]) 487), de P (S [95, 95, 102, 105, 114, 115, 116, 108, 105, 110, 101, 110, 111, 95, 95]) 594 (.int 102 593), de P (S [95, 95, 105, 110, 105, 116, 95, 95]) 602 (.ref 305), de P (S [95, 95, 115, 116, 97, 116, 105, 99, 95, 97, 116, 116, 114, 105, 98, 117, 116, 101, 115, 95, 95]) 604 (.ref 306), de P (S [95, 95, 100, 105, 99, 116, 95, 95]) 606 (.ref 309), de P (S [95, 95, 119, 101, 97, 107, 114, 101, 102, 95, 95]) 608 (.ref 310), de P (S [95, 95, 100, 111, 99, 95, 95]) 609 .none] 4), #[]⟩
noncomputable def k308 (_ : Program) (_ : Params) : Obj := ⟨(.type "type"), none, (.cls ⟨(S [71, 108, 111, 98, 97, 108, 78, 97, 109, 101]), [(.type "object")], [(.ref 308), (.type "object")], 307, (S [71, 108, 111, 98, 97, 108, 78, 97, 109, 101]), true, [], [], false, none, false⟩), #[none, none, some (.str (S [71, 108, 111, 98, 97, 108, 78, 97, 109, 101]) 583), some (.str (S [71, 108, 111, 98, 97, 108, 78, 97, 109, 101]) 591), some (.builtin "object.__new__"), some (.bool true)]⟩
noncomputable def k325 (_ : Program) (_ : Params) : Obj := ⟨(.type "code"), none, (.fields #[(.str (S [95, 95, 105, 110, 105, 116, 95, 95]) 624), (.str (S [77, 97, 99, 114, 111, 46, 95, 95, 105, 110, 105, 116, 95, 95]) 625), (.str (S [47, 99, 108, 97, 105, 109, 47, 99, 117, 116, 46, 112, 121]) 626), (.int 108 0), (.int 4 0), (.int 0 0), (.int 0 0), (.int 3 0), (.ref 320), (.bool true), (.int 181 0), (.ref 321), .none, (.ref 322), (.ref 323), (.ref 324), (.int 631 0), (.int 108 0), (.str (S [47, 99, 108, 97, 105, 109, 47, 99, 117, 116, 46, 112, 121]) 632)]), #[]⟩
noncomputable def k326 (pw : Program) (_ : Params) : Obj := ⟨.type "function", none, .func (fnK (mtAt pw 21 0) (S [77, 97, 99, 114, 111, 46, 95, 95, 105, 110, 105, 116, 95, 95]) (.str (S [115, 99, 104, 101, 109, 101, 46, 115, 99, 111, 112, 101, 115]) 487) 325 .none), #[]⟩
noncomputable def k328 (_ : Program) (P : Params) : Obj := ⟨(.type "dict"), none, (.dict #[de P (S [95, 95, 109, 111, 100, 117, 108, 101, 95, 95]) 619 (.str (S [115, 99, 104, 101, 109, 101, 46, 115, 99, 111, 112, 101, 115]) 487), de P (S [95, 95, 102, 105, 114, 115, 116, 108, 105, 110, 101, 110, 111, 95, 95]) 623 (.int 106 622), de P (S [95, 95, 105, 110, 105, 116, 95, 95]) 633 (.ref 326), de P (S [95, 95, 115, 116, 97, 116, 105, 99, 95, 97, 116, 116, 114, 105, 98, 117, 116, 101, 115, 95, 95]) 637 (.ref 327), de P (S [95, 95, 100, 105, 99, 116, 95, 95]) 639 (.ref 330), de P (S [95, 95, 119, 101, 97, 107, 114, 101, 102, 95, 95]) 641 (.ref 331), de P (S [95, 95, 100, 111, 99, 95, 95]) 642 .none] 4), #[]⟩
noncomputable def k329 (_ : Program) (_ : Params) : Obj := ⟨(.type "type"), none, (.cls ⟨(S [77, 97, 99, 114, 111]), [(.type "object")], [(.ref 329), (.type "object")], 328, (S [77, 97, 99, 114, 111]), true, [], [], false, none, false⟩), #[none, none, some (.str (S [77, 97, 99, 114, 111]) 612), some (.str (S [77, 97, 99, 114, 111]) 620), some (.builtin "object.__new__"), some (.bool true)]⟩
noncomputable def k339 (_ : Program) (_ : Params) : Obj := ⟨(.type "code"), none, (.fields #[(.str (S [105, 115, 95, 105, 100, 101, 110, 116, 105, 102, 105, 101, 114]) 645), (.str (S [105, 115, 95, 105, 100, 101, 110, 116, 105, 102, 105, 101, 114]) 646), (.str (S [47, 99, 108, 97, 105, 109, 47, 99, 117, 116, 46, 112, 121]) 647), (.int 112 0), (.int 1 0), (.int 0 0), (.int 0 0), (.int 3 0), (.ref 334), (.bool true), (.int 181 0), (.ref 335), .none, (.ref 336), (.ref 337), (.ref 338), (.int 649 0), (.int 112 0), (.str (S [47, 99, 108, 97, 105, 109, 47, 99, 117, 116, 46, 112, 121]) 650)]), #[]⟩
noncomputable def k340 (pw : Program) (_ : Params) : Obj := ⟨.type "function", none, .func (fnK (stAt pw 22) (S [105, 115, 95, 105, 100, 101, 110, 116, 105, 102, 105, 101, 114]) (.str (S [115, 99, 104, 101, 109, 101, 46, 115, 99, 111, 112, 101, 115]) 487) 339 .none), #[]⟩
noncomputable def k346 (_ : Program) (_ : Params) : Obj := ⟨(.type "code"), none, (.fields #[(.str (S [107, 101, 121, 95, 111, 102]) 652), (.str (S [107, 101, 121, 95, 111, 102]) 653), (.str (S [47, 99, 108, 97, 105, 109, 47, 99, 117, 116, 46, 112, 121]) 654), (.int 114 0), (.int 1 0), (.int 0 0), (.int 0 0), (.int 3 0), (.ref 341), (.bool true), (.int 181 0), (.ref 342), .none, (.ref 343), (.ref 344), (.ref 345), (.int 656 0), (.int 114 0), (.str (S [47, 99, 108, 97, 105, 109, 47, 99, 117, 116, 46, 112, 121]) 657)]), #[]⟩
noncomputable def k347 (pw : Program) (_ : Params) : Obj := ⟨.type "function", none, .func (fnK (stAt pw 23) (S [107, 101, 121, 95, 111, 102]) (.str (S [115, 99, 104, 101, 109, 101, 46, 115, 99, 111, 112, 101, 115]) 487) 346 .none), #[]⟩
noncomputable def k353 (_ : Program) (_ : Params) : Obj := ⟨(.type "code"), none, (.fields #[(.str (S [114, 111, 111, 116, 95, 115, 121, 109, 98, 111, 108]) 659), (.str (S [114, 111, 111, 116, 95, 115, 121, 109, 98, 111, 108]) 660), (.str (S [47, 99, 108, 97, 105, 109, 47, 99, 117, 116, 46, 112, 121]) 661), (.int 118 0), (.int 1 0), (.int 0 0), (.int 0 0), (.int 3 0), (.ref 348), (.bool true), (.int 181 0), (.ref 349), .none, (.ref 350), (.ref 351), (.ref 352), (.int 664 0), (.int 118 0), (.str (S [47, 99, 108, 97, 105, 109, 47, 99, 117, 116, 46, 112, 121]) 665)]), #[]⟩
noncomputable def k354 (pw : Program) (_ : Params) : Obj := ⟨.type "function", none, .func (fnK (stAt pw 24) (S [114, 111, 111, 116, 95, 115, 121, 109, 98, 111, 108]) (.str (S [115, 99, 104, 101, 109, 101, 46, 115, 99, 111, 112, 101, 115]) 487) 353 .none), #[]⟩
noncomputable def k367 (_ : Program) (_ : Params) : Obj := ⟨(.type "code"), none, (.fields #[(.str (S [95, 95, 105, 110, 105, 116, 95, 95]) 679), (.str (S [83, 99, 111, 112, 101, 46, 95, 95, 105, 110, 105, 116, 95, 95]) 680), (.str (S [47, 99, 108, 97, 105, 109, 47, 99, 117, 116, 46, 112, 121]) 681), (.int 125 0), (.int 2 0), (.int 0 0), (.int 0 0), (.int 3 0), (.ref 362), (.bool true), (.int 181 0), (.ref 363), .none, (.ref 364), (.ref 365), (.ref 366), (.int 684 0), (.int 125 0), (.str (S [47, 99, 108, 97, 105, 109, 47, 99, 117, 116, 46, 112, 121]) 685)]), #[]⟩
noncomputable def k368 (pw : Program) (_ : Params) : Obj := ⟨.type "function", none, .func (fnK (mtAt pw 25 0) (S [83, 99, 111, 112, 101, 46, 95, 95, 105, 110, 105, 116, 95, 95]) (.str (S [115, 99, 104, 101, 109, 101, 46, 115, 99, 111, 112, 101, 115]) 487) 367 .none), #[]⟩
noncomputable def k374 (_ : Program) (_ : Params) : Obj := ⟨(.type "code"), none, (.fields #[(.str (S [98, 105, 110, 100]) 687), (.str (S [83, 99, 111, 112, 101, 46, 98, 105, 110, 100]) 688), (.str (S [47, 99, 108, 97, 105, 109, 47, 99, 117, 116, 46, 112, 121]) 689), (.int 129 0), (.int 3 0), (.int 0 0), (.int 0 0), (.int 3 0), (.ref 369), (.bool true), (.int 181 0), (.ref 370), .none, (.ref 371), (.ref 372), (.ref 373), (.int 693 0), (.int 129 0), (.str (S [47, 99, 108, 97, 105, 109, 47, 99, 117, 116, 46, 112, 121]) 694)]), #[]⟩
noncomputable def k375 (pw : Program) (_ : Params) : Obj := ⟨.type "function", none, .func (fnK (mtAt pw 25 1) (S [83, 99, 111, 112, 101, 46, 98, 105, 110, 100]) (.str (S [115, 99, 104, 101, 109, 101, 46, 115, 99, 111, 112, 101, 115]) 487) 374 .none), #[]⟩
noncomputable def k381 (_ : Program) (_ : Params) : Obj := ⟨(.type "code"), none, (.fields #[(.str (S [111, 119, 110]) 696), (.str (S [83, 99, 111, 112, 101, 46, 111, 119, 110]) 697), (.str (S [47, 99, 108, 97, 105, 109, 47, 99, 117, 116, 46, 112, 121]) 698), (.int 132 0), (.int 2 0), (.int 0 0), (.int 0 0), (.int 3 0), (.ref 376), (.bool true), (.int 181 0), (.ref 377), .none, (.ref 378), (.ref 379), (.ref 380), (.int 701 0), (.int 132 0), (.str (S [47, 99, 108, 97, 105, 109, 47, 99, 117, 116, 46, 112, 121]) 702)]), #[]⟩
noncomputable def k382 (pw : Program) (_ : Params) : Obj := ⟨.type "function", none, .func (fnK (mtAt pw 25 2) (S [83, 99, 111, 112, 101, 46, 111, 119, 110]) (.str (S [115, 99, 104, 101, 109, 101, 46, 115, 99, 111, 112, 101, 115]) 487) 381 .none), #[]⟩
noncomputable def k388 (_ : Program) (_ : Params) : Obj := ⟨(.type "code"), none, (.fields #[(.str (S [98, 111, 117, 110, 100]) 704), (.str (S [83, 99, 111, 112, 101, 46, 98, 111, 117, 110, 100]) 705), (.str (S [47, 99, 108, 97, 105, 109, 47, 99, 117, 116, 46, 112, 121]) 706), (.int 135 0), (.int 2 0), (.int 0 0), (.int 0 0), (.int 3 0), (.ref 383), (.bool true), (.int 181 0), (.ref 384), .none, (.ref 385), (.ref 386), (.ref 387), (.int 712 0), (.int 135 0), (.str (S [47, 99, 108, 97, 105, 109, 47, 99, 117, 116, 46, 112, 121]) 713)]), #[]⟩
noncomputable def k389 (pw : Program) (_ : Params) : Obj := ⟨.type "function", none, .func (fnK (mtAt pw 25 3) (S [83, 99, 111, 112, 101, 46, 98, 111, 117, 110, 100]) (.str (S [115, 99, 104, 101, 109, 101, 46, 115, 99, 111, 112, 101, 115]) 487) 388 .none), #[]⟩
noncomputable def k395 (_ : Program) (_ : Params) : Obj := ⟨(.type "code"), none, (.fields #[(.str (S [102, 105, 110, 100]) 715), (.str (S [83, 99, 111, 112, 101, 46, 102, 105, 110, 100]) 716), (.str (S [47, 99, 108, 97, 105, 109, 47, 99, 117, 116, 46, 112, 121]) 717), (.int 145 0), (.int 2 0), (.int 0 0), (.int 0 0), (.int 3 0), (.ref 390), (.bool true), (.int 181 0), (.ref 391), .none, (.ref 392), (.ref 393), (.ref 394), (.int 723 0), (.int 145 0), (.str (S [47, 99, 108, 97, 105, 109, 47, 99, 117, 116, 46, 112, 121]) 724)]), #[]⟩
noncomputable def k396 (pw : Program) (_ : Params) : Obj := ⟨.type "function", none, .func (fnK (mtAt pw 25 4) (S [83, 99, 111, 112, 101, 46, 102, 105, 110, 100]) (.str (S [115, 99, 104, 101, 109, 101, 46, 115, 99, 111, 112, 101, 115]) 487) 395 .none), #[]⟩
noncomputable def k402 (_ : Program) (_ : Params) : Obj := ⟨(.type "code"), none, (.fields #[(.str (S [111, 117, 116, 101, 114, 109, 111, 115, 116]) 726), (.str (S [83, 99, 111, 112, 101, 46, 111, 117, 116, 101, 114, 109, 111, 115, 116]) 727), (.str (S [47, 99, 108, 97, 105, 109, 47, 99, 117, 116, 46, 112, 121]) 728), (.int 157 0), (.int 1 0), (.int 0 0), (.int 0 0), (.int 3 0), (.ref 397), (.bool true), (.int 181 0), (.ref 398), .none, (.ref 399), (.ref 400), (.ref 401), (.int 731 0), (.int 157 0), (.str (S [47, 99, 108, 97, 105, 109, 47, 99, 117, 116, 46, 112, 121]) 732)]), #[]⟩
noncomputable def k403 (pw : Program) (_ : Params) : Obj := ⟨.type "function", none, .func (fnK (mtAt pw 25 5) (S [83, 99, 111, 112, 101, 46, 111, 117, 116, 101, 114, 109, 111, 115, 116]) (.str (S [115, 99, 104, 101, 109, 101, 46, 115, 99, 111, 112, 101, 115]) 487) 402 .none), #[]⟩
noncomputable def k412 (_ : Program) (P : Params) : Obj := ⟨(.type "dict"), none, (.dict #[de P (S [95, 95, 109, 111, 100, 117, 108, 101, 95, 95]) 674 (.str (S [115, 99, 104, 101, 109, 101, 46, 115, 99, 111, 112, 101, 115]) 487), de P (S [95, 95, 102, 105, 114, 115, 116, 108, 105, 110, 101, 110, 111, 95, 95]) 678 (.int 123 677), de P (S [95, 95, 105, 110, 105, 116, 95, 95]) 686 (.ref 368), de P (S [98, 105, 110, 100]) 695 (.ref 375), de P (S [111, 119, 110]) 703 (.ref 382), de P (S [98, 111, 117, 110, 100]) 714 (.ref 389), de P (S [102, 105, 110, 100]) 725 (.ref 396), de P (S [111, 117, 116, 101, 114, 109, 111, 115, 116]) 733 (.ref 403), de P (S [100, 101, 112, 116, 104]) 740 (.ref 410), de P (S [95, 95, 115, 116, 97, 116, 105, 99, 95, 97, 116, 116, 114, 105, 98, 117, 116, 101, 115, 95, 95]) 743 (.ref 411), de P (S [95, 95, 100, 105, 99, 116, 95, 95]) 745 (.ref 414), de P (S [95, 95, 119, 101, 97, 107, 114, 101, 102, 95, 95]) 747 (.ref 415), de P (S [95, 95, 100, 111, 99, 95, 95]) 748 .none] 4), #[]⟩
noncomputable def k413 (_ : Program) (_ : Params) : Obj := ⟨(.type "type"), none, (.cls ⟨(S [83, 99, 111, 112, 101]), [(.type "object")], [(.ref 413), (.type "object")], 412, (S [83, 99, 111, 112, 101]), true, [], [], false, none, false⟩), #[none, none, some (.str (S [83, 99, 111, 112, 101]) 667), some (.str (S [83, 99, 111, 112, 101]) 675), some (.builtin "object.__new__"), some (.bool true)]⟩
noncomputable def k423 (_ : Program) (_ : Params) : Obj := ⟨(.type "code"), none, (.fields #[(.str (S [115, 97, 109, 101, 95, 100, 101, 110, 111, 116, 97, 116, 105, 111, 110]) 751), (.str (S [115, 97, 109, 101, 95, 100, 101, 110, 111, 116, 97, 116, 105, 111, 110]) 752), (.str (S [47, 99, 108, 97, 105, 109, 47, 99, 117, 116, 46, 112, 121]) 753), (.int 165 0), (.int 2 0), (.int 0 0), (.int 0 0), (.int 3 0), (.ref 418), (.bool true), (.int 181 0), (.ref 419), .none, (.ref 420), (.ref 421), (.ref 422), (.int 756 0), (.int 165 0), (.str (S [47, 99, 108, 97, 105, 109, 47, 99, 117, 116, 46, 112, 121]) 757)]), #[]⟩
noncomputable def k424 (pw : Program) (_ : Params) : Obj := ⟨.type "function", none, .func (fnK (stAt pw 26) (S [115, 97, 109, 101, 95, 100, 101, 110, 111, 116, 97, 116, 105, 111, 110]) (.str (S [115, 99, 104, 101, 109, 101, 46, 115, 99, 111, 112, 101, 115]) 487) 423 .none), #[]⟩
noncomputable def k430 (_ : Program) (_ : Params) : Obj := ⟨(.type "code"), none, (.fields #[(.str (S [115, 97, 109, 101]) 759), (.str (S [115, 97, 109, 101]) 760), (.str (S [47, 99, 108, 97, 105, 109, 47, 99, 117, 116, 46, 112, 121]) 761), (.int 175 0), (.int 4 0), (.int 0 0), (.int 0 0), (.int 3 0), (.ref 425), (.bool true), (.int 181 0), (.ref 426), .none, (.ref 427), (.ref 428), (.ref 429), (.int 766 0), (.int 175 0), (.str (S [47, 99, 108, 97, 105, 109, 47, 99, 117, 116, 46, 112, 121]) 767)]), #[]⟩
noncomputable def k431 (pw : Program) (_ : Params) : Obj := ⟨.type "function", none, .func (fnK (stAt pw 27) (S [115, 97, 109, 101]) (.str (S [115, 99, 104, 101, 109, 101, 46, 115, 99, 111, 112, 101, 115]) 487) 430 .none), #[]⟩
noncomputable def k437 (_ : Program) (_ : Params) : Obj := ⟨(.type "code"), none, (.fields #[(.str (S [97, 108, 105, 97, 115, 95, 111, 102]) 769), (.str (S [97, 108, 105, 97, 115, 95, 111, 102]) 770), (.str (S [47, 99, 108, 97, 105, 109, 47, 99, 117, 116, 46, 112, 121]) 771), (.int 177 0), (.int 3 0), (.int 0 0), (.int 0 0), (.int 3 0), (.ref 432), (.bool true), (.int 181 0), (.ref 433), .none, (.ref 434), (.ref 435), (.ref 436), (.int 775 0), (.int 177 0), (.str (S [47, 99, 108, 97, 105, 109, 47, 99, 117, 116, 46, 112, 121]) 776)]), #[]⟩
noncomputable def k438 (pw : Program) (_ : Params) : Obj := ⟨.type "function", none, .func (fnK (stAt pw 28) (S [97, 108, 105, 97, 115, 95, 111, 102]) (.str (S [115, 99, 104, 101, 109, 101, 46, 115, 99, 111, 112, 101, 115]) 487) 437 .none), #[]⟩
noncomputable def k444 (_ : Program) (_ : Params) : Obj := ⟨(.type "code"), none, (.fields #[(.str (S [115, 116, 114, 105, 112, 95, 116, 97, 107, 101]) 778), (.str (S [115, 116, 114, 105, 112, 95, 116, 97, 107, 101]) 779), (.str (S [47, 99, 108, 97, 105, 109, 47, 99, 117, 116, 46, 112, 121]) 780), (.int 179 0), (.int 3 0), (.int 0 0), (.int 0 0), (.int 3 0), (.ref 439), (.bool true), (.int 181 0), (.ref 440), .none, (.ref 441), (.ref 442), (.ref 443), (.int 787 0), (.int 179 0), (.str (S [47, 99, 108, 97, 105, 109, 47, 99, 117, 116, 46, 112, 121]) 788)]), #[]⟩
noncomputable def k445 (pw : Program) (_ : Params) : Obj := ⟨.type "function", none, .func (fnK (stAt pw 29) (S [115, 116, 114, 105, 112, 95, 116, 97, 107, 101]) (.str (S [115, 99, 104, 101, 109, 101, 46, 115, 99, 111, 112, 101, 115]) 487) 444 .none), #[]⟩
noncomputable def k451 (_ : Program) (_ : Params) : Obj := ⟨(.type "code"), none, (.fields #[(.str (S [115, 116, 114, 105, 112]) 790), (.str (S [115, 116, 114, 105, 112]) 791), (.str (S [47, 99, 108, 97, 105, 109, 47, 99, 117, 116, 46, 112, 121]) 792), (.int 197 0), (.int 1 0), (.int 0 0), (.int 0 0), (.int 3 0), (.ref 446), (.bool true), (.int 181 0), (.ref 447), .none, (.ref 448), (.ref 449), (.ref 450), (.int 800 0), (.int 197 0), (.str (S [47, 99, 108, 97, 105, 109, 47, 99, 117, 116, 46, 112, 121]) 801)]), #[]⟩
noncomputable def k452 (pw : Program) (_ : Params) : Obj := ⟨.type "function", none, .func (fnK (stAt pw 30) (S [115, 116, 114, 105, 112]) (.str (S [115, 99, 104, 101, 109, 101, 46, 115, 99, 111, 112, 101, 115]) 487) 451 .none), #[]⟩
noncomputable def k458 (_ : Program) (_ : Params) : Obj := ⟨(.type "code"), none, (.fields #[(.str (S [119, 111, 114, 100, 95, 111, 102]) 805), (.str (S [119, 111, 114, 100, 95, 111, 102]) 806), (.str (S [47, 99, 108, 97, 105, 109, 47, 99, 117, 116, 46, 112, 121]) 807), (.int 216 0), (.int 2 0), (.int 0 0), (.int 0 0), (.int 3 0), (.ref 453), (.bool true), (.int 181 0), (.ref 454), .none, (.ref 455), (.ref 456), (.ref 457), (.int 810 0), (.int 216 0), (.str (S [47, 99, 108, 97, 105, 109, 47, 99, 117, 116, 46, 112, 121]) 811)]), #[]⟩
noncomputable def k459 (pw : Program) (_ : Params) : Obj := ⟨.type "function", none, .func (fnK (stAt pw 32) (S [119, 111, 114, 100, 95, 111, 102]) (.str (S [115, 99, 104, 101, 109, 101, 46, 100, 101, 114, 105, 118, 101, 100]) 803) 458 .none), #[]⟩
noncomputable def k465 (_ : Program) (_ : Params) : Obj := ⟨(.type "code"), none, (.fields #[(.str (S [116, 104, 105, 110, 103, 115, 95, 111, 102]) 813), (.str (S [116, 104, 105, 110, 103, 115, 95, 111, 102]) 814), (.str (S [47, 99, 108, 97, 105, 109, 47, 99, 117, 116, 46, 112, 121]) 815), (.int 218 0), (.int 2 0), (.int 0 0), (.int 0 0), (.int 3 0), (.ref 460), (.bool true), (.int 181 0), (.ref 461), .none, (.ref 462), (.ref 463), (.ref 464), (.int 820 0), (.int 218 0), (.str (S [47, 99, 108, 97, 105, 109, 47, 99, 117, 116, 46, 112, 121]) 821)]), #[]⟩
noncomputable def k466 (pw : Program) (_ : Params) : Obj := ⟨.type "function", none, .func (fnK (stAt pw 33) (S [116, 104, 105, 110, 103, 115, 95, 111, 102]) (.str (S [115, 99, 104, 101, 109, 101, 46, 100, 101, 114, 105, 118, 101, 100]) 803) 465 .none), #[]⟩
noncomputable def k472 (_ : Program) (_ : Params) : Obj := ⟨(.type "code"), none, (.fields #[(.str (S [105, 110, 110, 101, 114, 95, 108, 105, 115, 116]) 823), (.str (S [105, 110, 110, 101, 114, 95, 108, 105, 115, 116]) 824), (.str (S [47, 99, 108, 97, 105, 109, 47, 99, 117, 116, 46, 112, 121]) 825), (.int 223 0), (.int 2 0), (.int 0 0), (.int 0 0), (.int 3 0), (.ref 467), (.bool true), (.int 181 0), (.ref 468), .none, (.ref 469), (.ref 470), (.ref 471), (.int 830 0), (.int 223 0), (.str (S [47, 99, 108, 97, 105, 109, 47, 99, 117, 116, 46, 112, 121]) 831)]), #[]⟩
noncomputable def k473 (pw : Program) (_ : Params) : Obj := ⟨.type "function", none, .func (fnK (stAt pw 34) (S [105, 110, 110, 101, 114, 95, 108, 105, 115, 116]) (.str (S [115, 99, 104, 101, 109, 101, 46, 100, 101, 114, 105, 118, 101, 100]) 803) 472 .none), #[]⟩
noncomputable def k479 (_ : Program) (_ : Params) : Obj := ⟨(.type "code"), none, (.fields #[(.str (S [105, 115, 95, 119, 111, 114, 100]) 833), (.str (S [105, 115, 95, 119, 111, 114, 100]) 834), (.str (S [47, 99, 108, 97, 105, 109, 47, 99, 117, 116, 46, 112, 121]) 835), (.int 228 0), (.int 4 0), (.int 0 0), (.int 0 0), (.int 3 0), (.ref 474), (.bool true), (.int 181 0), (.ref 475), .none, (.ref 476), (.ref 477), (.ref 478), (.int 840 0), (.int 228 0), (.str (S [47, 99, 108, 97, 105, 109, 47, 99, 117, 116, 46, 112, 121]) 841)]), #[]⟩
noncomputable def k480 (pw : Program) (_ : Params) : Obj := ⟨.type "function", none, .func (fnK (stAt pw 35) (S [105, 115, 95, 119, 111, 114, 100]) (.str (S [115, 99, 104, 101, 109, 101, 46, 100, 101, 114, 105, 118, 101, 100]) 803) 479 .none), #[]⟩
noncomputable def k486 (_ : Program) (_ : Params) : Obj := ⟨(.type "code"), none, (.fields #[(.str (S [98, 105, 110, 100, 105, 110, 103, 115, 95, 111, 102]) 843), (.str (S [98, 105, 110, 100, 105, 110, 103, 115, 95, 111, 102]) 844), (.str (S [47, 99, 108, 97, 105, 109, 47, 99, 117, 116, 46, 112, 121]) 845), (.int 230 0), (.int 2 0), (.int 0 0), (.int 0 0), (.int 3 0), (.ref 481), (.bool true), (.int 181 0), (.ref 482), .none, (.ref 483), (.ref 484), (.ref 485), (.int 852 0), (.int 230 0), (.str (S [47, 99, 108, 97, 105, 109, 47, 99, 117, 116, 46, 112, 121]) 853)]), #[]⟩
noncomputable def k487 (pw : Program) (_ : Params) : Obj := ⟨.type "function", none, .func (fnK (stAt pw 36) (S [98, 105, 110, 100, 105, 110, 103, 115, 95, 111, 102]) (.str (S [115, 99, 104, 101, 109, 101, 46, 100, 101, 114, 105, 118, 101, 100]) 803) 486 .none), #[]⟩
noncomputable def k493 (_ : Program) (_ : Params) : Obj := ⟨(.type "code"), none, (.fields #[(.str (S [115, 101, 113, 117, 101, 110, 99, 101]) 855), (.str (S [115, 101, 113, 117, 101, 110, 99, 101]) 856), (.str (S [47, 99, 108, 97, 105, 109, 47, 99, 117, 116, 46, 112, 121]) 857), (.int 240 0), (.int 2 0), (.int 0 0), (.int 0 0), (.int 3 0), (.ref 488), (.bool true), (.int 181 0), (.ref 489), .none, (.ref 490), (.ref 491), (.ref 492), (.int 860 0), (.int 240 0), (.str (S [47, 99, 108, 97, 105, 109, 47, 99, 117, 116, 46, 112, 121]) 861)]), #[]⟩
noncomputable def k494 (pw : Program) (_ : Params) : Obj := ⟨.type "function", none, .func (fnK (stAt pw 37) (S [115, 101, 113, 117, 101, 110, 99, 101]) (.str (S [115, 99, 104, 101, 109, 101, 46, 100, 101, 114, 105, 118, 101, 100]) 803) 493 .none), #[]⟩
noncomputable def k500 (_ : Program) (_ : Params) : Obj := ⟨(.type "code"), none, (.fields #[(.str (S [99, 104, 111, 105, 99, 101]) 863), (.str (S [99, 104, 111, 105, 99, 101]) 864), (.str (S [47, 99, 108, 97, 105, 109, 47, 99, 117, 116, 46, 112, 121]) 865), (.int 242 0), (.int 4 0), (.int 0 0), (.int 0 0), (.int 3 0), (.ref 495), (.bool true), (.int 181 0), (.ref 496), .none, (.ref 497), (.ref 498), (.ref 499), (.int 870 0), (.int 242 0), (.str (S [47, 99, 108, 97, 105, 109, 47, 99, 117, 116, 46, 112, 121]) 871)]), #[]⟩
noncomputable def k501 (pw : Program) (_ : Params) : Obj := ⟨.type "function", none, .func (fnK (stAt pw 38) (S [99, 104, 111, 105, 99, 101]) (.str (S [115, 99, 104, 101, 109, 101, 46, 100, 101, 114, 105, 118, 101, 100]) 803) 500 .none), #[]⟩
noncomputable def k507 (_ : Program) (_ : Params) : Obj := ⟨(.type "code"), none, (.fields #[(.str (S [112, 114, 111, 99, 101, 100, 117, 114, 101]) 873), (.str (S [112, 114, 111, 99, 101, 100, 117, 114, 101]) 874), (.str (S [47, 99, 108, 97, 105, 109, 47, 99, 117, 116, 46, 112, 121]) 875), (.int 244 0), (.int 3 0), (.int 0 0), (.int 0 0), (.int 3 0), (.ref 502), (.bool true), (.int 181 0), (.ref 503), .none, (.ref 504), (.ref 505), (.ref 506), (.int 879 0), (.int 244 0), (.str (S [47, 99, 108, 97, 105, 109, 47, 99, 117, 116, 46, 112, 121]) 880)]), #[]⟩
noncomputable def k508 (pw : Program) (_ : Params) : Obj := ⟨.type "function", none, .func (fnK (stAt pw 39) (S [112, 114, 111, 99, 101, 100, 117, 114, 101]) (.str (S [115, 99, 104, 101, 109, 101, 46, 100, 101, 114, 105, 118, 101, 100]) 803) 507 .none), #[]⟩
noncomputable def k514 (_ : Program) (_ : Params) : Obj := ⟨(.type "code"), none, (.fields #[(.str (S [107, 101, 112, 116]) 882), (.str (S [107, 101, 112, 116]) 883), (.str (S [47, 99, 108, 97, 105, 109, 47, 99, 117, 116, 46, 112, 121]) 884), (.int 246 0), (.int 4 0), (.int 0 0), (.int 0 0), (.int 3 0), (.ref 509), (.bool true), (.int 181 0), (.ref 510), .none, (.ref 511), (.ref 512), (.ref 513), (.int 889 0), (.int 246 0), (.str (S [47, 99, 108, 97, 105, 109, 47, 99, 117, 116, 46, 112, 121]) 890)]), #[]⟩
noncomputable def k515 (pw : Program) (_ : Params) : Obj := ⟨.type "function", none, .func (fnK (stAt pw 40) (S [107, 101, 112, 116]) (.str (S [115, 99, 104, 101, 109, 101, 46, 100, 101, 114, 105, 118, 101, 100]) 803) 514 .none), #[]⟩
noncomputable def k521 (_ : Program) (_ : Params) : Obj := ⟨(.type "code"), none, (.fields #[(.str (S [100, 111, 95, 97, 110, 100]) 892), (.str (S [100, 111, 95, 97, 110, 100]) 893), (.str (S [47, 99, 108, 97, 105, 109, 47, 99, 117, 116, 46, 112, 121]) 894), (.int 248 0), (.int 3 0), (.int 0 0), (.int 0 0), (.int 3 0), (.ref 516), (.bool true), (.int 181 0), (.ref 517), .none, (.ref 518), (.ref 519), (.ref 520), (.int 901 0), (.int 248 0), (.str (S [47, 99, 108, 97, 105, 109, 47, 99, 117, 116, 46, 112, 121]) 902)]), #[]⟩
noncomputable def k522 (pw : Program) (_ : Params) : Obj := ⟨.type "function", none, .func (fnK (stAt pw 41) (S [100, 111, 95, 97, 110, 100]) (.str (S [115, 99, 104, 101, 109, 101, 46, 100, 101, 114, 105, 118, 101, 100]) 803) 521 .none), #[]⟩
noncomputable def k528 (_ : Program) (_ : Params) : Obj := ⟨(.type "code"), none, (.fields #[(.str (S [100, 111, 95, 111, 114]) 904), (.str (S [100, 111, 95, 111, 114]) 905), (.str (S [47, 99, 108, 97, 105, 109, 47, 99, 117, 116, 46, 112, 121]) 906), (.int 256 0), (.int 3 0), (.int 0 0), (.int 0 0), (.int 3 0), (.ref 523), (.bool true), (.int 181 0), (.ref 524), .none, (.ref 525), (.ref 526), (.ref 527), (.int 914 0), (.int 256 0), (.str (S [47, 99, 108, 97, 105, 109, 47, 99, 117, 116, 46, 112, 121]) 915)]), #[]⟩
noncomputable def k529 (pw : Program) (_ : Params) : Obj := ⟨.type "function", none, .func (fnK (stAt pw 42) (S [100, 111, 95, 111, 114]) (.str (S [115, 99, 104, 101, 109, 101, 46, 100, 101, 114, 105, 118, 101, 100]) 803) 528 .none), #[]⟩
noncomputable def k535 (_ : Program) (_ : Params) : Obj := ⟨(.type "code"), none, (.fields #[(.str (S [100, 111, 95, 108, 101, 116]) 917), (.str (S [100, 111, 95, 108, 101, 116]) 918), (.str (S [47, 99, 108, 97, 105, 109, 47, 99, 117, 116, 46, 112, 121]) 919), (.int 265 0), (.int 3 0), (.int 0 0), (.int 0 0), (.int 3 0), (.ref 530), (.bool true), (.int 181 0), (.ref 531), .none, (.ref 532), (.ref 533), (.ref 534), (.int 928 0), (.int 265 0), (.str (S [47, 99, 108, 97, 105, 109, 47, 99, 117, 116, 46, 112, 121]) 929)]), #[]⟩
noncomputable def k536 (pw : Program) (_ : Params) : Obj := ⟨.type "function", none, .func (fnK (stAt pw 43) (S [100, 111, 95, 108, 101, 116]) (.str (S [115, 99, 104, 101, 109, 101, 46, 100, 101, 114, 105, 118, 101, 100]) 803) 535 .none), #[]⟩
noncomputable def k542 (_ : Program) (_ : Params) : Obj := ⟨(.type "code"), none, (.fields #[(.str (S [100, 111, 95, 108, 101, 116, 95, 115, 116, 97, 114]) 931), (.str (S [100, 111, 95, 108, 101, 116, 95, 115, 116, 97, 114]) 932), (.str (S [47, 99, 108, 97, 105, 109, 47, 99, 117, 116, 46, 112, 121]) 933), (.int 276 0), (.int 3 0), (.int 0 0), (.int 0 0), (.int 3 0), (.ref 537), (.bool true), (.int 181 0), (.ref 538), .none, (.ref 539), (.ref 540), (.ref 541), (.int 943 0), (.int 276 0), (.str (S [47, 99, 108, 97, 105, 109, 47, 99, 117, 116, 46, 112, 121]) 944)]), #[]⟩
noncomputable def k543 (pw : Program) (_ : Params) : Obj := ⟨.type "function", none, .func (fnK (stAt pw 44) (S [100, 111, 95, 108, 101, 116, 95, 115, 116, 97, 114]) (.str (S [115, 99, 104, 101, 109, 101, 46, 100, 101, 114, 105, 118, 101, 100]) 803) 542 .none), #[]⟩
noncomputable def k547 (_ : Program) (_ : Params) : Obj := ⟨(.type "code"), none, (.fields #[(.str (S [100, 111, 95, 108, 101, 116, 114, 101, 99]) 946), (.str (S [100, 111, 95, 108, 101, 116, 114, 101, 99]) 947), (.str (S [47, 99, 108, 97, 105, 109, 47, 99, 117, 116, 46, 112, 121]) 948), (.int 286 0), (.int 3 0), (.int 0 0), (.int 0 0), (.int 3 0), (.ref 544), (.bool true), (.int 181 0), (.ref 545), .none, .none, .none, (.ref 546), (.int 949 0), (.int 286 0), (.str (S [47, 99, 108, 97, 105, 109, 47, 99, 117, 116, 46, 112, 121]) 950)]), #[]⟩
noncomputable def k548 (pw : Program) (_ : Params) : Obj := ⟨.type "function", none, .func (fnK (stAt pw 45) (S [100, 111, 95, 108, 101, 116, 114, 101, 99]) (.str (S [115, 99, 104, 101, 109, 101, 46, 100, 101, 114, 105, 118, 101, 100]) 803) 547 .none), #[]⟩
noncomputable def k554 (_ : Program) (_ : Params) : Obj := ⟨(.type "code"), none, (.fields #[(.str (S [99, 111, 110, 100, 95, 99, 108, 97, 117, 115, 101]) 952), (.str (S [99, 111, 110, 100, 95, 99, 108, 97, 117, 115, 101]) 953), (.str (S [47, 99, 108, 97, 105, 109, 47, 99, 117, 116, 46, 112, 121]) 954), (.int 294 0), (.int 5 0), (.int 0 0), (.int 0 0), (.int 3 0), (.ref 549), (.bool true), (.int 181 0), (.ref 550), .none, (.ref 551), (.ref 552), (.ref 553), (.int 963 0), (.int 294 0), (.str (S [47, 99, 108, 97, 105, 109, 47, 99, 117, 116, 46, 112, 121]) 964)]), #[]⟩
noncomputable def k555 (pw : Program) (_ : Params) : Obj := ⟨.type "function", none, .func (fnK (stAt pw 46) (S [99, 111, 110, 100, 95, 99, 108, 97, 117, 115, 101]) (.str (S [115, 99, 104, 101, 109, 101, 46, 100, 101, 114, 105, 118, 101, 100]) 803) 554 .none), #[]⟩
noncomputable def k561 (_ : Program) (_ : Params) : Obj := ⟨(.type "code"), none, (.fields #[(.str (S [100, 111, 95, 99, 111, 110, 100]) 966), (.str (S [100, 111, 95, 99, 111, 110, 100]) 967), (.str (S [47, 99, 108, 97, 105, 109, 47, 99, 117, 116, 46, 112, 121]) 968), (.int 310 0), (.int 3 0), (.int 0 0), (.int 0 0), (.int 3 0), (.ref 556), (.bool true), (.int 181 0), (.ref 557), .none, (.ref 558), (.ref 559), (.ref 560), (.int 976 0), (.int 310 0), (.str (S [47, 99, 108, 97, 105, 109, 47, 99, 117, 116, 46, 112, 121]) 977)]), #[]⟩
noncomputable def k562 (pw : Program) (_ : Params) : Obj := ⟨.type "function", none, .func (fnK (stAt pw 47) (S [100, 111, 95, 99, 111, 110, 100]) (.str (S [115, 99, 104, 101, 109, 101, 46, 100, 101, 114, 105, 118, 101, 100]) 803) 561 .none), #[]⟩
noncomputable def k568 (_ : Program) (_ : Params) : Obj := ⟨(.type "code"), none, (.fields #[(.str (S [99, 97, 115, 101, 95, 116, 101, 115, 116]) 979), (.str (S [99, 97, 115, 101, 95, 116, 101, 115, 116]) 980), (.str (S [47, 99, 108, 97, 105, 109, 47, 99, 117, 116, 46, 112, 121]) 981), (.int 322 0), (.int 3 0), (.int 0 0), (.int 0 0), (.int 3 0), (.ref 563), (.bool true), (.int 181 0), (.ref 564), .none, (.ref 565), (.ref 566), (.ref 567), (.int 986 0), (.int 322 0), (.str (S [47, 99, 108, 97, 105, 109, 47, 99, 117, 116, 46, 112, 121]) 987)]), #[]⟩
noncomputable def k569 (pw : Program) (_ : Params) : Obj := ⟨.type "function", none, .func (fnK (stAt pw 48) (S [99, 97, 115, 101, 95, 116, 101, 115, 116]) (.str (S [115, 99, 104, 101, 109, 101, 46, 100, 101, 114, 105, 118, 101, 100]) 803) 568 .none), #[]⟩
noncomputable def k575 (_ : Program) (_ : Params) : Obj := ⟨(.type "code"), none, (.fields #[(.str (S [100, 111, 95, 99, 97, 115, 101]) 989), (.str (S [100, 111, 95, 99, 97, 115, 101]) 990), (.str (S [47, 99, 108, 97, 105, 109, 47, 99, 117, 116, 46, 112, 121]) 991), (.int 325 0), (.int 3 0), (.int 0 0), (.int 0 0), (.int 3 0), (.ref 570), (.bool true), (.int 181 0), (.ref 571), .none, (.ref 572), (.ref 573), (.ref 574), (.int 1001 0), (.int 325 0), (.str (S [47, 99, 108, 97, 105, 109, 47, 99, 117, 116, 46, 112, 121]) 1002)]), #[]⟩
noncomputable def k576 (pw : Program) (_ : Params) : Obj := ⟨.type "function", none, .func (fnK (stAt pw 49) (S [100, 111, 95, 99, 97, 115, 101]) (.str (S [115, 99, 104, 101, 109, 101, 46, 100, 101, 114, 105, 118, 101, 100]) 803) 575 .none), #[]⟩
noncomputable def k582 (_ : Program) (_ : Params) : Obj := ⟨(.type "code"), none, (.fields #[(.str (S [115, 116, 101, 112, 95, 111, 102]) 1004), (.str (S [115, 116, 101, 112, 95, 111, 102]) 1005), (.str (S [47, 99, 108, 97, 105, 109, 47, 99, 117, 116, 46, 112, 121]) 1006), (.int 342 0), (.int 2 0), (.int 0 0), (.int 0 0), (.int 3 0), (.ref 577), (.bool true), (.int 181 0), (.ref 578), .none, (.ref 579), (.ref 580), (.ref 581), (.int 1009 0), (.int 342 0), (.str (S [47, 99, 108, 97, 105, 109, 47, 99, 117, 116, 46, 112, 121]) 1010)]), #[]⟩
noncomputable def k583 (pw : Program) (_ : Params) : Obj := ⟨.type "function", none, .func (fnK (stAt pw 50) (S [115, 116, 101, 112, 95, 111, 102]) (.str (S [115, 99, 104, 101, 109, 101, 46, 100, 101, 114, 105, 118, 101, 100]) 803) 582 .none), #[]⟩
noncomputable def k589 (_ : Program) (_ : Params) : Obj := ⟨(.type "code"), none, (.fields #[(.str (S [100, 111, 95, 100, 111]) 1012), (.str (S [100, 111, 95, 100, 111]) 1013), (.str (S [47, 99, 108, 97, 105, 109, 47, 99, 117, 116, 46, 112, 121]) 1014), (.int 346 0), (.int 3 0), (.int 0 0), (.int 0 0), (.int 3 0), (.ref 584), (.bool true), (.int 181 0), (.ref 585), .none, (.ref 586), (.ref 587), (.ref 588), (.int 1033 0), (.int 346 0), (.str (S [47, 99, 108, 97, 105, 109, 47, 99, 117, 116, 46, 112, 121]) 1034)]), #[]⟩
noncomputable def k590 (pw : Program) (_ : Params) : Obj := ⟨.type "function", none, .func (fnK (stAt pw 51) (S [100, 111, 95, 100, 111]) (.str (S [115, 99, 104, 101, 109, 101, 46, 100, 101, 114, 105, 118, 101, 100]) 803) 589 .none), #[]⟩
noncomputable def k596 (_ : Program) (_ : Params) : Obj := ⟨(.type "code"), none, (.fields #[(.str (S [100, 111, 95, 100, 101, 108, 97, 121]) 1036), (.str (S [100, 111, 95, 100, 101, 108, 97, 121]) 1037), (.str (S [47, 99, 108, 97, 105, 109, 47, 99, 117, 116, 46, 112, 121]) 1038), (.int 366 0), (.int 3 0), (.int 0 0), (.int 0 0), (.int 3 0), (.ref 591), (.bool true), (.int 181 0), (.ref 592), .none, (.ref 593), (.ref 594), (.ref 595), (.int 1043 0), (.int 366 0), (.str (S [47, 99, 108, 97, 105, 109, 47, 99, 117, 116, 46, 112, 121]) 1044)]), #[]⟩
noncomputable def k597 (pw : Program) (_ : Params) : Obj := ⟨.type "function", none, .func (fnK (stAt pw 52) (S [100, 111, 95, 100, 101, 108, 97, 121]) (.str (S [115, 99, 104, 101, 109, 101, 46, 100, 101, 114, 105, 118, 101, 100]) 803) 596 .none), #[]⟩
noncomputable def k610 (_ : Program) (_ : Params) : Obj := ⟨(.type "code"), none, (.fields #[(.str (S [95, 95, 105, 110, 105, 116, 95, 95]) 1060), (.str (S [78, 97, 109, 101, 115, 46, 95, 95, 105, 110, 105, 116, 95, 95]) 1061), (.str (S [47, 99, 108, 97, 105, 109, 47, 99, 117, 116, 46, 112, 121]) 1062), (.int 374 0), (.int 1 0), (.int 0 0), (.int 0 0), (.int 3 0), (.ref 605), (.bool true), (.int 181 0), (.ref 606), .none, (.ref 607), (.ref 608), (.ref 609), (.int 1064 0), (.int 374 0), (.str (S [47, 99, 108, 97, 105, 109, 47, 99, 117, 116, 46, 112, 121]) 1065)]), #[]⟩
noncomputable def k611 (pw : Program) (_ : Params) : Obj := ⟨.type "function", none, .func (fnK (mtAt pw 54 0) (S [78, 97, 109, 101, 115, 46, 95, 95, 105, 110, 105, 116, 95, 95]) (.str (S [115, 99, 104, 101, 109, 101, 46, 110, 97, 109, 101, 115]) 1046) 610 .none), #[]⟩
noncomputable def k617 (_ : Program) (_ : Params) : Obj := ⟨(.type "code"), none, (.fields #[(.str (S [102, 114, 101, 115, 104]) 1067), (.str (S [78, 97, 109, 101, 115, 46, 102, 114, 101, 115, 104]) 1068), (.str (S [47, 99, 108, 97, 105, 109, 47, 99, 117, 116, 46, 112, 121]) 1069), (.int 381 0), (.int 1 0), (.int 0 0), (.int 0 0), (.int 3 0), (.ref 612), (.bool true), (.int 181 0), (.ref 613), .none, (.ref 614), (.ref 615), (.ref 616), (.int 1071 0), (.int 381 0), (.str (S [47, 99, 108, 97, 105, 109, 47, 99, 117, 116, 46, 112, 121]) 1072)]), #[]⟩
noncomputable def k618 (pw : Program) (_ : Params) : Obj := ⟨.type "function", none, .func (fnK (mtAt pw 54 1) (S [78, 97, 109, 101, 115, 46, 102, 114, 101, 115, 104]) (.str (S [115, 99, 104, 101, 109, 101, 46, 110, 97, 109, 101, 115]) 1046) 617 .none), #[]⟩
noncomputable def k624 (_ : Program) (_ : Params) : Obj := ⟨(.type "code"), none, (.fields #[(.str (S [115, 121, 109, 98, 111, 108]) 1074), (.str (S [78, 97, 109, 101, 115, 46, 115, 121, 109, 98, 111, 108]) 1075), (.str (S [47, 99, 108, 97, 105, 109, 47, 99, 117, 116, 46, 112, 121]) 1076), (.int 385 0), (.int 2 0), (.int 0 0), (.int 0 0), (.int 3 0), (.ref 619), (.bool true), (.int 181 0), (.ref 620), .none, (.ref 621), (.ref 622), (.ref 623), (.int 1079 0), (.int 385 0), (.str (S [47, 99, 108, 97, 105, 109, 47, 99, 117, 116, 46, 112, 121]) 1080)]), #[]⟩
noncomputable def k625 (pw : Program) (_ : Params) : Obj := ⟨.type "function", none, .func (fnK (mtAt pw 54 2) (S [78, 97, 109, 101, 115, 46, 115, 121, 109, 98, 111, 108]) (.str (S [115, 99, 104, 101, 109, 101, 46, 110, 97, 109, 101, 115]) 1046) 624 .none), #[]⟩
noncomputable def k676 (_ : Program) (P : Params) : Obj := ⟨(.type "dict"), none, (.dict #[de P (S [95, 95, 109, 111, 100, 117, 108, 101, 95, 95]) 1055 (.str (S [115, 99, 104, 101, 109, 101, 46, 110, 97, 109, 101, 115]) 1046), de P (S [95, 95, 102, 105, 114, 115, 116, 108, 105, 110, 101, 110, 111, 95, 95]) 1059 (.int 372 1058), de P (S [95, 95, 105, 110, 105, 116, 95, 95]) 1066 (.ref 611), de P (S [102, 114, 101, 115, 104]) 1073 (.ref 618), de P (S [115, 121, 109, 98, 111, 108]) 1081 (.ref 625), de P (S [110, 117, 109, 98, 101, 114, 95, 111, 102, 95, 110, 97, 109, 101]) 1089 (.ref 632), de P (S [116, 101, 120, 116, 95, 111, 102, 95, 115, 121, 109, 98, 111, 108]) 1097 (.ref 639), de P (S [115, 101, 116, 95, 116, 105, 116, 108, 101]) 1106 (.ref 646), de P (S [116, 105, 116, 108, 101, 95, 111, 102]) 1114 (.ref 653), de P (S [103, 105, 118, 101, 95, 111, 112, 115]) 1122 (.ref 660), de P (S [111, 112, 95, 97, 116]) 1130 (.ref 667), de P (S [102, 111, 108, 100]) 1139 (.ref 674), de P (S [95, 95, 115, 116, 97, 116, 105, 99, 95, 97, 116, 116, 114, 105, 98, 117, 116, 101, 115, 95, 95]) 1145 (.ref 675), de P (S [95, 95, 100, 105, 99, 116, 95, 95]) 1147 (.ref 678), de P (S [95, 95, 119, 101, 97, 107, 114, 101, 102, 95, 95]) 1149 (.ref 679), de P (S [95, 95, 100, 111, 99, 95, 95]) 1150 .none] 4), #[]⟩
noncomputable def k677 (_ : Program) (_ : Params) : Obj := ⟨(.type "type"), none, (.cls ⟨(S [78, 97, 109, 101, 115]), [(.type "object")], [(.ref 677), (.type "object")], 676, (S [78, 97, 109, 101, 115]), true, [], [], false, none, false⟩), #[none, none, some (.str (S [78, 97, 109, 101, 115]) 1048), some (.str (S [78, 97, 109, 101, 115]) 1056), some (.builtin "object.__new__"), some (.bool true)]⟩
noncomputable def k682 (_ : Program) (_ : Params) : Obj := ⟨(.type "tuple"), none, (.seq #[(.str (S [108, 101, 116]) 1155), (.str (S [108, 101, 116, 42]) 1156), (.str (S [108, 101, 116, 114, 101, 99]) 1157), (.str (S [99, 111, 110, 100]) 1158), (.str (S [99, 97, 115, 101]) 1159), (.str (S [100, 111]) 1160), (.str (S [100, 101, 108, 97, 121]) 1161), (.str (S [97, 110, 100]) 1162), (.str (S [111, 114]) 1163)] 0), #[]⟩
noncomputable def k688 (_ : Program) (_ : Params) : Obj := ⟨(.type "code"), none, (.fields #[(.str (S [95, 108, 97, 119, 95, 100, 114, 97, 119]) 1165), (.str (S [95, 108, 97, 119, 95, 100, 114, 97, 119]) 1166), (.str (S [47, 99, 108, 97, 105, 109, 47, 99, 117, 116, 46, 112, 121]) 1167), (.int 410 0), (.int 2 0), (.int 0 0), (.int 0 0), (.int 3 0), (.ref 683), (.bool true), (.int 181 0), (.ref 684), .none, (.ref 685), (.ref 686), (.ref 687), (.int 1170 0), (.int 410 0), (.str (S [47, 99, 108, 97, 105, 109, 47, 99, 117, 116, 46, 112, 121]) 1171)]), #[]⟩
noncomputable def k689 (pw : Program) (_ : Params) : Obj := ⟨.type "function", none, .func (fnK (stAt pw 57) (S [95, 108, 97, 119, 95, 100, 114, 97, 119]) (.str (S [108, 97, 119, 95, 110, 116, 48, 50, 48, 48, 95, 48, 49]) 1153) 688 .none), #[]⟩
noncomputable def k695 (_ : Program) (_ : Params) : Obj := ⟨(.type "code"), none, (.fields #[(.str (S [95, 108, 97, 119, 95, 114, 111, 119]) 1173), (.str (S [95, 108, 97, 119, 95, 114, 111, 119]) 1174), (.str (S [47, 99, 108, 97, 105, 109, 47, 99, 117, 116, 46, 112, 121]) 1175), (.int 412 0), (.int 1 0), (.int 0 0), (.int 0 0), (.int 3 0), (.ref 690), (.bool true), (.int 181 0), (.ref 691), .none, (.ref 692), (.ref 693), (.ref 694), (.int 1177 0), (.int 412 0), (.str (S [47, 99, 108, 97, 105, 109, 47, 99, 117, 116, 46, 112, 121]) 1178)]), #[]⟩
noncomputable def k696 (pw : Program) (_ : Params) : Obj := ⟨.type "function", none, .func (fnK (stAt pw 58) (S [95, 108, 97, 119, 95, 114, 111, 119]) (.str (S [108, 97, 119, 95, 110, 116, 48, 50, 48, 48, 95, 48, 49]) 1153) 695 .none), #[]⟩
noncomputable def k700 (_ : Program) (_ : Params) : Obj := ⟨(.type "code"), none, (.fields #[(.str (S [95, 108, 97, 119, 95, 115, 111, 109, 101]) 1180), (.str (S [95, 108, 97, 119, 95, 115, 111, 109, 101]) 1181), (.str (S [47, 99, 108, 97, 105, 109, 47, 99, 117, 116, 46, 112, 121]) 1182), (.int 414 0), (.int 2 0), (.int 0 0), (.int 0 0), (.int 3 0), (.ref 697), (.bool true), (.int 181 0), (.ref 698), .none, .none, .none, (.ref 699), (.int 1183 0), (.int 414 0), (.str (S [47, 99, 108, 97, 105, 109, 47, 99, 117, 116, 46, 112, 121]) 1184)]), #[]⟩
noncomputable def k701 (pw : Program) (_ : Params) : Obj := ⟨.type "function", none, .func (fnK (stAt pw 59) (S [95, 108, 97, 119, 95, 115, 111, 109, 101]) (.str (S [108, 97, 119, 95, 110, 116, 48, 50, 48, 48, 95, 48, 49]) 1153) 700 .none), #[]⟩
noncomputable def k707 (_ : Program) (_ : Params) : Obj := ⟨(.type "code"), none, (.fields #[(.str (S [95, 108, 97, 119, 95, 98, 105, 110, 100, 105, 110, 103, 115]) 1186), (.str (S [95, 108, 97, 119, 95, 98, 105, 110, 100, 105, 110, 103, 115]) 1187), (.str (S [47, 99, 108, 97, 105, 109, 47, 99, 117, 116, 46, 112, 121]) 1188), (.int 416 0), (.int 2 0), (.int 0 0), (.int 0 0), (.int 3 0), (.ref 702), (.bool true), (.int 181 0), (.ref 703), .none, (.ref 704), (.ref 705), (.ref 706), (.int 1193 0), (.int 416 0), (.str (S [47, 99, 108, 97, 105, 109, 47, 99, 117, 116, 46, 112, 121]) 1194)]), #[]⟩
noncomputable def k708 (pw : Program) (_ : Params) : Obj := ⟨.type "function", none, .func (fnK (stAt pw 60) (S [95, 108, 97, 119, 95, 98, 105, 110, 100, 105, 110, 103, 115]) (.str (S [108, 97, 119, 95, 110, 116, 48, 50, 48, 48, 95, 48, 49]) 1153) 707 .none), #[]⟩
noncomputable def k714 (_ : Program) (_ : Params) : Obj := ⟨(.type "code"), none, (.fields #[(.str (S [95, 108, 97, 119, 95, 99, 108, 97, 117, 115, 101, 115]) 1196), (.str (S [95, 108, 97, 119, 95, 99, 108, 97, 117, 115, 101, 115]) 1197), (.str (S [47, 99, 108, 97, 105, 109, 47, 99, 117, 116, 46, 112, 121]) 1198), (.int 421 0), (.int 2 0), (.int 0 0), (.int 0 0), (.int 3 0), (.ref 709), (.bool true), (.int 181 0), (.ref 710), .none, (.ref 711), (.ref 712), (.ref 713), (.int 1203 0), (.int 421 0), (.str (S [47, 99, 108, 97, 105, 109, 47, 99, 117, 116, 46, 112, 121]) 1204)]), #[]⟩
noncomputable def k715 (pw : Program) (_ : Params) : Obj := ⟨.type "function", none, .func (fnK (stAt pw 61) (S [95, 108, 97, 119, 95, 99, 108, 97, 117, 115, 101, 115]) (.str (S [108, 97, 119, 95, 110, 116, 48, 50, 48, 48, 95, 48, 49]) 1153) 714 .none), #[]⟩
noncomputable def k721 (_ : Program) (_ : Params) : Obj := ⟨(.type "code"), none, (.fields #[(.str (S [95, 108, 97, 119, 95, 102, 111, 114, 109]) 1206), (.str (S [95, 108, 97, 119, 95, 102, 111, 114, 109]) 1207), (.str (S [47, 99, 108, 97, 105, 109, 47, 99, 117, 116, 46, 112, 121]) 1208), (.int 433 0), (.int 2 0), (.int 0 0), (.int 0 0), (.int 3 0), (.ref 716), (.bool true), (.int 181 0), (.ref 717), .none, (.ref 718), (.ref 719), (.ref 720), (.int 1213 0), (.int 433 0), (.str (S [47, 99, 108, 97, 105, 109, 47, 99, 117, 116, 46, 112, 121]) 1214)]), #[]⟩
noncomputable def k722 (pw : Program) (_ : Params) : Obj := ⟨.type "function", none, .func (fnK (stAt pw 62) (S [95, 108, 97, 119, 95, 102, 111, 114, 109]) (.str (S [108, 97, 119, 95, 110, 116, 48, 50, 48, 48, 95, 48, 49]) 1153) 721 .none), #[]⟩
noncomputable def k728 (_ : Program) (_ : Params) : Obj := ⟨(.type "code"), none, (.fields #[(.str (S [95, 108, 97, 119, 95, 98, 101, 110, 116]) 1216), (.str (S [95, 108, 97, 119, 95, 98, 101, 110, 116]) 1217), (.str (S [47, 99, 108, 97, 105, 109, 47, 99, 117, 116, 46, 112, 121]) 1218), (.int 445 0), (.int 3 0), (.int 0 0), (.int 0 0), (.int 3 0), (.ref 723), (.bool true), (.int 181 0), (.ref 724), .none, (.ref 725), (.ref 726), (.ref 727), (.int 1227 0), (.int 445 0), (.str (S [47, 99, 108, 97, 105, 109, 47, 99, 117, 116, 46, 112, 121]) 1228)]), #[]⟩
noncomputable def k729 (pw : Program) (_ : Params) : Obj := ⟨.type "function", none, .func (fnK (stAt pw 63) (S [95, 108, 97, 119, 95, 98, 101, 110, 116]) (.str (S [108, 97, 119, 95, 110, 116, 48, 50, 48, 48, 95, 48, 49]) 1153) 728 .none), #[]⟩
noncomputable def k735 (_ : Program) (_ : Params) : Obj := ⟨(.type "code"), none, (.fields #[(.str (S [95, 108, 97, 119, 95, 105, 115, 95, 114, 111, 119]) 1230), (.str (S [95, 108, 97, 119, 95, 105, 115, 95, 114, 111, 119]) 1231), (.str (S [47, 99, 108, 97, 105, 109, 47, 99, 117, 116, 46, 112, 121]) 1232), (.int 465 0), (.int 1 0), (.int 0 0), (.int 0 0), (.int 3 0), (.ref 730), (.bool true), (.int 181 0), (.ref 731), .none, (.ref 732), (.ref 733), (.ref 734), (.int 1234 0), (.int 465 0), (.str (S [47, 99, 108, 97, 105, 109, 47, 99, 117, 116, 46, 112, 121]) 1235)]), #[]⟩
noncomputable def k736 (pw : Program) (_ : Params) : Obj := ⟨.type "function", none, .func (fnK (stAt pw 64) (S [95, 108, 97, 119, 95, 105, 115, 95, 114, 111, 119]) (.str (S [108, 97, 119, 95, 110, 116, 48, 50, 48, 48, 95, 48, 49]) 1153) 735 .none), #[]⟩
noncomputable def k742 (_ : Program) (_ : Params) : Obj := ⟨(.type "code"), none, (.fields #[(.str (S [95, 108, 97, 119, 95, 97, 114, 101, 95, 98, 105, 110, 100, 105, 110, 103, 115]) 1237), (.str (S [95, 108, 97, 119, 95, 97, 114, 101, 95, 98, 105, 110, 100, 105, 110, 103, 115]) 1238), (.str (S [47, 99, 108, 97, 105, 109, 47, 99, 117, 116, 46, 112, 121]) 1239), (.int 467 0), (.int 2 0), (.int 0 0), (.int 0 0), (.int 3 0), (.ref 737), (.bool true), (.int 181 0), (.ref 738), .none, (.ref 739), (.ref 740), (.ref 741), (.int 1243 0), (.int 467 0), (.str (S [47, 99, 108, 97, 105, 109, 47, 99, 117, 116, 46, 112, 121]) 1244)]), #[]⟩
noncomputable def k743 (pw : Program) (_ : Params) : Obj := ⟨.type "function", none, .func (fnK (stAt pw 65) (S [95, 108, 97, 119, 95, 97, 114, 101, 95, 98, 105, 110, 100, 105, 110, 103, 115]) (.str (S [108, 97, 119, 95, 110, 116, 48, 50, 48, 48, 95, 48, 49]) 1153) 742 .none), #[]⟩
noncomputable def k749 (_ : Program) (_ : Params) : Obj := ⟨(.type "code"), none, (.fields #[(.str (S [95, 108, 97, 119, 95, 97, 114, 101, 95, 99, 108, 97, 117, 115, 101, 115]) 1246), (.str (S [95, 108, 97, 119, 95, 97, 114, 101, 95, 99, 108, 97, 117, 115, 101, 115]) 1247), (.str (S [47, 99, 108, 97, 105, 109, 47, 99, 117, 116, 46, 112, 121]) 1248), (.int 474 0), (.int 3 0), (.int 0 0), (.int 0 0), (.int 3 0), (.ref 744), (.bool true), (.int 181 0), (.ref 745), .none, (.ref 746), (.ref 747), (.ref 748), (.int 1255 0), (.int 474 0), (.str (S [47, 99, 108, 97, 105, 109, 47, 99, 117, 116, 46, 112, 121]) 1256)]), #[]⟩
noncomputable def k750 (pw : Program) (_ : Params) : Obj := ⟨.type "function", none, .func (fnK (stAt pw 66) (S [95, 108, 97, 119, 95, 97, 114, 101, 95, 99, 108, 97, 117, 115, 101, 115]) (.str (S [108, 97, 119, 95, 110, 116, 48, 50, 48, 48, 95, 48, 49]) 1153) 749 .none), #[]⟩
noncomputable def k756 (_ : Program) (_ : Params) : Obj := ⟨(.type "code"), none, (.fields #[(.str (S [95, 108, 97, 119, 95, 105, 115, 95, 114, 105, 103, 104, 116]) 1258), (.str (S [95, 108, 97, 119, 95, 105, 115, 95, 114, 105, 103, 104, 116]) 1259), (.str (S [47, 99, 108, 97, 105, 109, 47, 99, 117, 116, 46, 112, 121]) 1260), (.int 488 0), (.int 2 0), (.int 0 0), (.int 0 0), (.int 3 0), (.ref 751), (.bool true), (.int 181 0), (.ref 752), .none, (.ref 753), (.ref 754), (.ref 755), (.int 1265 0), (.int 488 0), (.str (S [47, 99, 108, 97, 105, 109, 47, 99, 117, 116, 46, 112, 121]) 1266)]), #[]⟩
noncomputable def k757 (pw : Program) (_ : Params) : Obj := ⟨.type "function", none, .func (fnK (stAt pw 67) (S [95, 108, 97, 119, 95, 105, 115, 95, 114, 105, 103, 104, 116]) (.str (S [108, 97, 119, 95, 110, 116, 48, 50, 48, 48, 95, 48, 49]) 1153) 756 .none), #[]⟩
noncomputable def k761 (_ : Program) (_ : Params) : Obj := ⟨(.type "code"), none, (.fields #[(.str (S [95, 108, 97, 119, 95, 100, 97, 116, 117, 109]) 1268), (.str (S [95, 108, 97, 119, 95, 100, 97, 116, 117, 109]) 1269), (.str (S [47, 99, 108, 97, 105, 109, 47, 99, 117, 116, 46, 112, 121]) 1270), (.int 507 0), (.int 2 0), (.int 0 0), (.int 0 0), (.int 3 0), (.ref 758), (.bool true), (.int 181 0), (.ref 759), .none, .none, .none, (.ref 760), (.int 1271 0), (.int 507 0), (.str (S [47, 99, 108, 97, 105, 109, 47, 99, 117, 116, 46, 112, 121]) 1272)]), #[]⟩
noncomputable def k762 (pw : Program) (_ : Params) : Obj := ⟨.type "function", none, .func (fnK (stAt pw 68) (S [95, 108, 97, 119, 95, 100, 97, 116, 117, 109]) (.str (S [108, 97, 119, 95, 110, 116, 48, 50, 48, 48, 95, 48, 49]) 1153) 761 .none), #[]⟩
noncomputable def k766 (_ : Program) (_ : Params) : Obj := ⟨(.type "code"), none, (.fields #[(.str (S [95, 108, 97, 119, 95, 116, 111, 108, 100]) 1274), (.str (S [95, 108, 97, 119, 95, 116, 111, 108, 100]) 1275), (.str (S [47, 99, 108, 97, 105, 109, 47, 99, 117, 116, 46, 112, 121]) 1276), (.int 513 0), (.int 1 0), (.int 0 0), (.int 0 0), (.int 3 0), (.ref 763), (.bool true), (.int 181 0), (.ref 764), .none, .none, .none, (.ref 765), (.int 1277 0), (.int 513 0), (.str (S [47, 99, 108, 97, 105, 109, 47, 99, 117, 116, 46, 112, 121]) 1278)]), #[]⟩
noncomputable def k767 (pw : Program) (_ : Params) : Obj := ⟨.type "function", none, .func (fnK (stAt pw 69) (S [95, 108, 97, 119, 95, 116, 111, 108, 100]) (.str (S [108, 97, 119, 95, 110, 116, 48, 50, 48, 48, 95, 48, 49]) 1153) 766 .none), #[]⟩
noncomputable def k773 (_ : Program) (_ : Params) : Obj := ⟨(.type "code"), none, (.fields #[(.str (S [95, 108, 97, 119, 95, 116, 117, 114, 110, 101, 100]) 1280), (.str (S [95, 108, 97, 119, 95, 116, 117, 114, 110, 101, 100]) 1281), (.str (S [47, 99, 108, 97, 105, 109, 47, 99, 117, 116, 46, 112, 121]) 1282), (.int 520 0), (.int 4 0), (.int 0 0), (.int 0 0), (.int 3 0), (.ref 768), (.bool true), (.int 181 0), (.ref 769), .none, (.ref 770), (.ref 771), (.ref 772), (.int 1287 0), (.int 520 0), (.str (S [47, 99, 108, 97, 105, 109, 47, 99, 117, 116, 46, 112, 121]) 1288)]), #[]⟩
noncomputable def k774 (pw : Program) (_ : Params) : Obj := ⟨.type "function", none, .func (fnK (stAt pw 70) (S [95, 108, 97, 119, 95, 116, 117, 114, 110, 101, 100]) (.str (S [108, 97, 119, 95, 110, 116, 48, 50, 48, 48, 95, 48, 49]) 1153) 773 .none), #[]⟩
noncomputable def k780 (_ : Program) (_ : Params) : Obj := ⟨(.type "code"), none, (.fields #[(.str (S [95, 108, 97, 119, 95, 105, 115, 95, 108, 101, 116]) 1290), (.str (S [95, 108, 97, 119, 95, 105, 115, 95, 108, 101, 116]) 1291), (.str (S [47, 99, 108, 97, 105, 109, 47, 99, 117, 116, 46, 112, 121]) 1292), (.int 536 0), (.int 4 0), (.int 0 0), (.int 0 0), (.int 3 0), (.ref 775), (.bool true), (.int 181 0), (.ref 776), .none, (.ref 777), (.ref 778), (.ref 779), (.int 1297 0), (.int 536 0), (.str (S [47, 99, 108, 97, 105, 109, 47, 99, 117, 116, 46, 112, 121]) 1298)]), #[]⟩
noncomputable def k781 (pw : Program) (_ : Params) : Obj := ⟨.type "function", none, .func (fnK (stAt pw 71) (S [95, 108, 97, 119, 95, 105, 115, 95, 108, 101, 116]) (.str (S [108, 97, 119, 95, 110, 116, 48, 50, 48, 48, 95, 48, 49]) 1153) 780 .none), #[]⟩
noncomputable def k785 (_ : Program) (_ : Params) : Obj := ⟨(.type "code"), none, (.fields #[(.str (S [108, 97, 119]) 1300), (.str (S [108, 97, 119]) 1301), (.str (S [47, 99, 108, 97, 105, 109, 47, 99, 117, 116, 46, 112, 121]) 1302), (.int 542 0), (.int 1 0), (.int 0 0), (.int 0 0), (.int 3 0), (.ref 782), (.bool true), (.int 181 0), (.ref 783), .none, .none, .none, (.ref 784), (.int 1303 0), (.int 542 0), (.str (S [47, 99, 108, 97, 105, 109, 47, 99, 117, 116, 46, 112, 121]) 1304)]), #[]⟩
noncomputable def k786 (pw : Program) (_ : Params) : Obj := ⟨.type "function", none, .func (fnK (stAt pw 72) (S [108, 97, 119]) (.str (S [108, 97, 119, 95, 110, 116, 48, 50, 48, 48, 95, 48, 49]) 1153) 785 .none), #[]⟩
noncomputable def KF (pw : Program) (P : Params) : Frag := [(2, k2 pw P), (3, k3 pw P), (34, k34 pw P), (35, k35 pw P), (37, k37 pw P), (38, k38 pw P), (43, k43 pw P), (44, k44 pw P), (46, k46 pw P), (47, k47 pw P), (61, k61 pw P), (62, k62 pw P), (64, k64 pw P), (65, k65 pw P), (82, k82 pw P), (83, k83 pw P), (89, k89 pw P), (90, k90 pw P), (96, k96 pw P), (97, k97 pw P), (110, k110 pw P), (111, k111 pw P), (127, k127 pw P), (128, k128 pw P), (145, k145 pw P), (146, k146 pw P), (148, k148 pw P), (149, k149 pw P), (166, k166 pw P), (167, k167 pw P), (169, k169 pw P), (170, k170 pw P), (175, k175 pw P), (181, k181 pw P), (182, k182 pw P), (188, k188 pw P), (189, k189 pw P), (202, k202 pw P), (203, k203 pw P), (205, k205 pw P), (206, k206 pw P), (222, k222 pw P), (223, k223 pw P), (225, k225 pw P), (226, k226 pw P), (241, k241 pw P), (242, k242 pw P), (244, k244 pw P), (245, k245 pw P), (262, k262 pw P), (263, k263 pw P), (265, k265 pw P), (266, k266 pw P), (283, k283 pw P), (284, k284 pw P), (286, k286 pw P), (287, k287 pw P), (304, k304 pw P), (305, k305 pw P), (307, k307 pw P), (308, k308 pw P), (325, k325 pw P), (326, k326 pw P), (328, k328 pw P), (329, k329 pw P), (339, k339 pw P), (340, k340 pw P), (346, k346 pw P), (347, k347 pw P), (353, k353 pw P), (354, k354 pw P), (367, k367 pw P), (368, k368 pw P), (374, k374 pw P), (375, k375 pw P), (381, k381 pw P), (382, k382 pw P), (388, k388 pw P), (389, k389 pw P), (395, k395 pw P), (396, k396 pw P), (402, k402 pw P), (403, k403 pw P), (412, k412 pw P), (413, k413 pw P), (423, k423 pw P), (424, k424 pw P), (430, k430 pw P), (431, k431 pw P), (437, k437 pw P), (438, k438 pw P), (444, k444 pw P), (445, k445 pw P), (451, k451 pw P), (452, k452 pw P), (458, k458 pw P), (459, k459 pw P), (465, k465 pw P), (466, k466 pw P), (472, k472 pw P), (473, k473 pw P), (479, k479 pw P), (480, k480 pw P), (486, k486 pw P), (487, k487 pw P), (493, k493 pw P), (494, k494 pw P), (500, k500 pw P), (501, k501 pw P), (507, k507 pw P), (508, k508 pw P), (514, k514 pw P), (515, k515 pw P), (521, k521 pw P), (522, k522 pw P), (528, k528 pw P), (529, k529 pw P), (535, k535 pw P), (536, k536 pw P), (542, k542 pw P), (543, k543 pw P), (547, k547 pw P), (548, k548 pw P), (554, k554 pw P), (555, k555 pw P), (561, k561 pw P), (562, k562 pw P), (568, k568 pw P), (569, k569 pw P), (575, k575 pw P), (576, k576 pw P), (582, k582 pw P), (583, k583 pw P), (589, k589 pw P), (590, k590 pw P), (596, k596 pw P), (597, k597 pw P), (610, k610 pw P), (611, k611 pw P), (617, k617 pw P), (618, k618 pw P), (624, k624 pw P), (625, k625 pw P), (676, k676 pw P), (677, k677 pw P), (682, k682 pw P), (688, k688 pw P), (689, k689 pw P), (695, k695 pw P), (696, k696 pw P), (700, k700 pw P), (701, k701 pw P), (707, k707 pw P), (708, k708 pw P), (714, k714 pw P), (715, k715 pw P), (721, k721 pw P), (722, k722 pw P), (728, k728 pw P), (729, k729 pw P), (735, k735 pw P), (736, k736 pw P), (742, k742 pw P), (743, k743 pw P), (749, k749 pw P), (750, k750 pw P), (756, k756 pw P), (757, k757 pw P), (761, k761 pw P), (762, k762 pw P), (766, k766 pw P), (767, k767 pw P), (773, k773 pw P), (774, k774 pw P), (780, k780 pw P), (781, k781 pw P), (785, k785 pw P), (786, k786 pw P)]
noncomputable def asF : List Addr := [2, 3, 34, 35, 37, 38, 43, 44, 46, 47, 61, 62, 64, 65, 82, 83, 89, 90, 96, 97, 110, 111, 127, 128, 145, 146, 148, 149, 166, 167, 169, 170, 175, 181, 182, 188, 189, 202, 203, 205, 206, 222, 223, 225, 226, 241, 242, 244, 245, 262, 263, 265, 266, 283, 284, 286, 287, 304, 305, 307, 308, 325, 326, 328, 329, 339, 340, 346, 347, 353, 354, 367, 368, 374, 375, 381, 382, 388, 389, 395, 396, 402, 403, 412, 413, 423, 424, 430, 431, 437, 438, 444, 445, 451, 452, 458, 459, 465, 466, 472, 473, 479, 480, 486, 487, 493, 494, 500, 501, 507, 508, 514, 515, 521, 522, 528, 529, 535, 536, 542, 543, 547, 548, 554, 555, 561, 562, 568, 569, 575, 576, 582, 583, 589, 590, 596, 597, 610, 611, 617, 618, 624, 625, 676, 677, 682, 688, 689, 695, 696, 700, 701, 707, 708, 714, 715, 721, 722, 728, 729, 735, 736, 742, 743, 749, 750, 756, 757, 761, 762, 766, 767, 773, 774, 780, 781, 785, 786]
theorem asF_eq (pw : Program) (P : Params) : asF = (KF pw P).map (·.1) := rfl
end Mine
end
noncomputable section
namespace Mine
noncomputable def qT (pw : Program) : Program := { pw with main := { pw.main with body := pw.main.body.drop 72 } }
noncomputable def lawS : Str := ⟨#[108, 97, 119]⟩
noncomputable def looseT (pw : Program) : List Str := pw.boundNames.filter fun n => n != lawS
noncomputable def RUN {β : Type} (seg : (String → Option Builtin) → Program → World → Nat → Option Value → Nat → Nat → SharedT → Thread → Option (Flow × SharedT × Code × Pos)) (tb : String → Option Builtin) (pw : Program)
    (ex : List Stmt → Env → Sem Flow) (see : Program → List Str → List Str → (Shared → Bool) → Bool → Shared → β) (good : Program → List Str → β) (im : List Stmt → List Str) (as : List Addr) (K : Program → Params → Frag) : Prop :=
  ∀ (w : World) (os : OsState), (seg tb pw w 11 (some (.ref 6)) 1 5800 (stT w.params os) ⟨(ex (bT pw) (envT pw)).wrap doneF deadEnd id id, cT pw, pos0, [topF]⟩).map
    (fun r => (r.1, r.2.2, (staticsOk (im pw.main.body) (boot_heap w.params) r.2.1.abs.heap && namesBound pw r.2.1.abs.heap && gensDone r.2.1.abs && laidKept (boot_heap w.params) r.2.1.abs.heap),
      see (qT pw) (looseT pw) (im pw.main.body) (fun _ => true) true r.2.1.abs, as.map r.2.1.abs.heap.get?)) =
    some (.next, (cT pw, ⟨542, 0, 555, 35⟩), true, good (qT pw) (looseT pw), (K pw w.params).map fun p => some p.2)
theorem run_q : RUN PySem.W.Fast.tw10110043849684766642 PySem.W.Fast.tw14364793385576792824 PySem.Challenge.pw_nt0200_01 PySem.W.Fast.tw12563942051412417395 PySem.W.Fast.tw4187177175401517315 openGood PySem.W.Fast.tw5923862056798008813 asF KF := by
  intro w os
  kernel_rfl
theorem run_p : RUN segRunT treeTable PySem.Challenge.pw_nt0200_01 execs openSeen openGood importedModules asF KF := by
  rw [PySem.W.Fast.te10110043849684766642, PySem.W.Fast.te14364793385576792824, PySem.W.Fast.te12563942051412417395, PySem.W.Fast.te4187177175401517315, PySem.W.Fast.te5923862056798008813]
  exact run_q
end Mine
end
noncomputable section
namespace Mine
abbrev PW : Program := PySem.Challenge.pw_nt0200_01
theorem fin_run (w : World) (s : Shared) : topRun treeTable PW w 11 (some (.ref 6)) 2 s ⟨doneF .next, cT PW, ⟨542, 0, 555, 35⟩, [topF]⟩ = some s := by
  obtain ⟨h, g, d, t, os⟩ := s
  rfl
theorem block_run (w : World) (s : Shared) : segRun treeTable PW w 11 (some (.ref 6)) 1 1 s (blockOf (bT PW) (envT PW) (cT PW) pos0 [topF]) = some (.next, s, cT PW, pos0) := by
  obtain ⟨h, g, d, t, os⟩ := s
  kernel_rfl
theorem opening_ok (w : World) : (fencedOpening treeTable PW w 12000).map (fun s => (s.heap, s.gens, s.drawn, s.toks)) = some (boot_heap w.params, Array.mk [], boot_drawn, boot_toks) :=
  boot_open (by kernel_rfl) (by decide) (fun s => by obtain ⟨h, g, d, t, os⟩ := s; kernel_rfl) w
theorem size_ok (w : World) : ((boot_heap w.params).isNs mainGlobals && (#[] : Array GenState).size == 0, (boot_heap w.params).objs.size, (boot_heap w.params).nsMap mainGlobals "__annotations__") = (true, 11, some (.ref 6)) := by
  kernel_rfl
theorem run_all {as : List Addr} {K : Program → Params → Frag} (R : RUN segRunT treeTable PW execs openSeen openGood importedModules as K) (w : World) (os : OsState) :
    ∃ s₁, topRun treeTable PW w 11 (some (.ref 6)) (12 + (1 + (5800 + 2))) ⟨boot_heap w.params, #[], boot_drawn, boot_toks, os⟩ (topStub PW) = some s₁ ∧
      (staticsOk (importedModules PW.main.body) (boot_heap w.params) s₁.heap && namesBound PW s₁.heap && gensDone s₁ && laidKept (boot_heap w.params) s₁.heap) = true ∧
      openSeen (qT PW) (looseT PW) (importedModules PW.main.body) (fun _ => true) true s₁ = openGood (qT PW) (looseT PW) ∧ as.map s₁.heap.get? = (K PW w.params).map fun p => some p.2 := by
  obtain ⟨⟨f, sT, c, p⟩, h1, h2⟩ := Option.map_eq_some_iff.mp (R w os)
  simp only [Prod.mk.injEq] at h2
  obtain ⟨rfl, ⟨rfl, rfl⟩, h3, h4, h5⟩ := h2
  refine ⟨sT.abs, ?_, h3, h4, h5⟩
  refine go_top (pre_run w os) ?_
  have hb : denote treeTable (cT PW) = denote treeTable (.body (bT PW) (envT PW)) := rfl
  rw [hb]
  refine piece_block (env := envT PW) (q := pos0) (block_run w _) ?_
  have := piece_app (env := envT PW) (q := pos0) (rest := []) (segRun_of h1) (piece_nil (N := 2) (r := sT.abs) (fin_run w _))
  rwa [List.append_nil] at this
theorem left_ok {as : List Addr} {K : Program → Params → Frag} (R : RUN segRunT treeTable PW execs openSeen openGood importedModules as K) :
    LeftO PW (qT PW) (looseT PW) (fun _ => true) (fun s => as.map s.heap.get?) (fun w => (K PW w.params).map fun p => some p.2) 12000 := fun w => by
  obtain ⟨⟨h, gs, d, k, os⟩, e, e'⟩ := Option.map_eq_some_iff.mp (opening_ok w)
  simp only [Prod.mk.injEq] at e'
  obtain ⟨rfl, rfl, rfl, rfl⟩ := e'
  obtain ⟨s₁, r, l1, l2, l3⟩ := run_all R w os
  have z := size_ok w
  simp only [Prod.mk.injEq] at z
  obtain ⟨z1, z2, z3⟩ := z
  have r := topRun_mono (12000 - (12 + (1 + (5800 + 2)))) _ _ _ _ r
  have e12 : 12 + (1 + (5800 + 2)) + (12000 - (12 + (1 + (5800 + 2)))) = 12000 := by decide
  rw [e12] at r
  have t : topFrom treeTable PW w 12000 ⟨boot_heap w.params, #[], boot_drawn, boot_toks, os⟩ = some s₁ := by
    unfold topFrom
    dsimp only
    rw [z1, z2, z3]
    dsimp only
    rw [r, Option.bind_some, l1]
  unfold openEnds
  rw [e, Option.bind_some, t, Option.map_some]
  exact congrArg some (Prod.ext l2 l3)
noncomputable def lawSt : Stmt := (PW.main.body.drop 72).headD (.Pass pos0)
noncomputable def lawD : DefRec := match lawSt with
  | .FunctionDef n a b _ _ _ s _ _ p => ⟨n, a, b, s, p⟩
  | _ => ⟨lawS, ⟨[], [], none, [], [], none, []⟩, [], PW.main.scope, pos0⟩
theorem lawD_def : defOf (qT PW) lawS = some (lawD, []) := by kernel_rfl
theorem lawD_the : PW.theDef lawS = some (lawD.params, lawD.body, lawD.scope) := by kernel_rfl
theorem lawD_kw : kwWritten? lawD.params.kwonlyargs lawD.params.kw_defaults = some [] := by kernel_rfl
theorem lawD_name : lawD.name = lawS := by kernel_rfl
end Mine
end
noncomputable section
namespace Mine
theorem said_q : PySem.W.Fast.tw9446332074065402090 PySem.Challenge.rw_nt0200_01 = true := by kernel_rfl
theorem said : PySem.W.OpenLaw.wellSaid PySem.Challenge.rw_nt0200_01 = true := by
  rw [PySem.W.Fast.te9446332074065402090]
  exact said_q
set_option maxHeartbeats 8000000 in
theorem head {as : List Addr} {K : Program → Params → Frag} (R : RUN segRunT treeTable PW execs openSeen openGood importedModules as K) (e : ∀ P, as = (K PW P).map (·.1))
    (walk : WalkO (qT PW) (looseT PW) (fun _ _ => True) (fun w h => (K PW w.params).In h) PySem.Challenge.rw_nt0200_01.row.toRowW lawD [] fun f vs => PySem.call f vs) : PySem.Challenge.rw_nt0200_01.Holds := by
  have L : LeftO PySem.Challenge.rw_nt0200_01.row.prog (qT PW) (looseT PW) (fun _ => true) (fun s => as.map s.heap.get?) (fun w => (K PW w.params).map fun p => some p.2) 12000 := left_ok R
  refine holds_law said fun said' => ?_
  refine PySem.W.holds_open (r := PySem.Challenge.rw_nt0200_01.row) (XP := fun _ _ => True) (YP := fun w h => (K PW w.params).In h) L (fun w s h => Frag.in_of (e _) h) (fun w h h' x k => x.keeps k) (fun _ _ => trivial) (fun _ _ _ _ _ => trivial)
    lawD_def lawD_the lawD_kw (fun _ _ => recFacts_nil rfl) rfl said' (by decide +kernel) ⟨rfl, rfl, rfl, rfl, rfl, by decide +kernel⟩ ?hw walk
  w_witness2
end Mine
end
noncomputable section
namespace Mine
inductive V
  | none
  | bool (b : Bool)
  | int (i : Int)
  | str (k : Nat)
  | tup (l : List V)
  | lst (l : List V)
  | obj (C : Addr) (ks : List Nat) (vs : List V)
  | ref (a : Addr)
  | stat (a : Addr)
  deriving Inhabited
noncomputable def strTab : List Str := (["let", "let*", "letrec", "cond", "case", "do", "delay", "and", "or", "x", "f", "a", "b", "loop", "else", "=>", "row",
  "begin", "if", "lambda", "kept", "define", "quote", "%memv", "turn", "%make-promise", "bad form", "bad binding", "bad clause", "SyntaxTrouble", "take", "list", "vector",
  "title", "number", "text", "rows", "by_text", "car", "cdr", "things", "word", "irritants", "reason", "datum", "base", "scope", "parent", "names", "symbol", "table", "last", "titles", "ops", "root",
  "literals", "rules", "empty", "unspecified", "fresh", "bind", "bound", "find"] : List String).map fun s => ⟨(s.toList.map Char.toNat).toArray⟩
noncomputable def strMany : Nat := 63
noncomputable def strAt (k : Nat) : Str := strTab.getD k ⟨#[]⟩
noncomputable def ownCls : List Addr := [65, 128, 149, 245, 287, 308, 413, 677]
abbrev Fz := Addr → Option Obj
noncomputable def Fz.le (Φ Φ' : Fz) : Prop := ∀ a o, Φ a = some o → Φ' a = some o
theorem Fz.le.refl (Φ : Fz) : Φ.le Φ := fun _ _ e => e
theorem Fz.le.trans {Φ Φ' Φ'' : Fz} (x : Φ.le Φ') (y : Φ'.le Φ'') : Φ.le Φ'' := fun a o e => y a o (x a o e)
abbrev tupOf (ws : Array Value) (n : Nat) : Obj := { cls := .type "tuple", data := .seq ws n }
noncomputable def Rks : List Nat → List DictEntry → Prop
  | [], l => l = []
  | k :: r, l => ∃ x xs, l = x :: xs ∧ (k < strMany ∧ ∃ t, x.key = .str (strAt k) t) ∧ Rks r xs
mutual
noncomputable def Rv (K : Frag) (Φ : Fz) : V → Value → Prop
  | .none, v => v = .none
  | .bool b, v => v = .bool b
  | .int i, v => ∃ t, v = .int i t
  | .str k, v => k < strMany ∧ ∃ t, v = .str (strAt k) t
  | .tup vs, v => ∃ a ws n, v = .ref a ∧ Φ a = some (tupOf ws n) ∧ vs.length ≤ 1000000 ∧ Rvs K Φ vs ws.toList
  | .lst vs, v => ∃ a ws n, v = .ref a ∧ Φ a = some (listOf ws n) ∧ vs.length ≤ 1000000 ∧ Rvs K Φ vs ws.toList
  | .obj C ks vs, v => ∃ a d es n, v = .ref a ∧ Φ a = some (instObj C d) ∧ Φ d = some (dictOf es n) ∧ C ∈ ownCls ∧ Rks ks es ∧ Rvs K Φ vs (es.map (·.val))
  | .ref a, v => v = .ref a
  | .stat a, v => v = .ref a ∧ (a = 44 ∨ a = 47)
noncomputable def Rvs (K : Frag) (Φ : Fz) : List V → List Value → Prop
  | [], l => l = []
  | v :: r, l => ∃ x xs, l = x :: xs ∧ Rv K Φ v x ∧ Rvs K Φ r xs
end
mutual
theorem Rv.mono {K : Frag} {Φ Φ' : Fz} (h : Φ.le Φ') : ∀ {v : V} {x : Value}, Rv K Φ v x → Rv K Φ' v x
  | .none, _, e => e
  | .bool _, _, e => e
  | .int _, _, e => e
  | .str _, _, e => e
  | .tup _, _, ⟨a, ws, n, e, q, b, r⟩ => ⟨a, ws, n, e, h _ _ q, b, Rvs.mono h r⟩
  | .lst _, _, ⟨a, ws, n, e, q, b, r⟩ => ⟨a, ws, n, e, h _ _ q, b, Rvs.mono h r⟩
  | .obj _ _ _, _, ⟨a, d, es, n, e, q, q', j, k, r⟩ => ⟨a, d, es, n, e, h _ _ q, h _ _ q', j, k, Rvs.mono h r⟩
  | .ref _, _, e => e
  | .stat _, _, e => e
theorem Rvs.mono {K : Frag} {Φ Φ' : Fz} (h : Φ.le Φ') : ∀ {vs : List V} {xs : List Value}, Rvs K Φ vs xs → Rvs K Φ' vs xs
  | [], _, e => e
  | _ :: _, _, ⟨x, xs, e, a, b⟩ => ⟨x, xs, e, Rv.mono h a, Rvs.mono h b⟩
end
theorem Rvs.length {K : Frag} {Φ : Fz} : ∀ {vs : List V} {xs : List Value}, Rvs K Φ vs xs → xs.length = vs.length
  | [], _, e => by cases e; rfl
  | _ :: _, _, ⟨x, xs, e, _, b⟩ => by subst e; simp [Rvs.length b]
theorem Rks.length : ∀ {ks : List Nat} {es : List DictEntry}, Rks ks es → es.length = ks.length
  | [], _, e => by cases e; rfl
  | _ :: _, _, ⟨x, xs, e, _, b⟩ => by subst e; simp [Rks.length b]
theorem Rvs.get {K : Frag} {Φ : Fz} : ∀ {vs : List V} {xs : List Value}, Rvs K Φ vs xs → ∀ (i : Nat) (v : V), vs[i]? = some v → ∃ x, xs[i]? = some x ∧ Rv K Φ v x
  | [], _, _, _, _, q => by simp at q
  | w :: r, _, ⟨x, xs, e, a, b⟩, 0, v, q => by subst e; simp at q; subst q; exact ⟨x, rfl, a⟩
  | w :: r, _, ⟨x, xs, e, a, b⟩, i + 1, v, q => by
    subst e
    refine xEA (Rvs.get b i v (by simpa using q)) fun y h1 h2 => ?_
    exact ⟨y, by simpa using h1, h2⟩
theorem Rvs.append {K : Frag} {Φ : Fz} : ∀ {vs : List V} {xs : List Value} {us : List V} {ys : List Value}, Rvs K Φ vs xs → Rvs K Φ us ys → Rvs K Φ (vs ++ us) (xs ++ ys)
  | [], _, _, _, e, h => by cases e; exact h
  | _ :: _, _, _, _, ⟨x, xs, e, a, b⟩, h => by subst e; exact ⟨x, _, rfl, a, Rvs.append b h⟩
theorem Rvs.drop {K : Frag} {Φ : Fz} : ∀ {vs : List V} {xs : List Value} (n : Nat), Rvs K Φ vs xs → Rvs K Φ (vs.drop n) (xs.drop n)
  | _, _, 0, h => h
  | [], _, n + 1, e => by cases e; exact rfl
  | _ :: _, _, n + 1, ⟨x, xs, e, a, b⟩ => by subst e; exact Rvs.drop n b
theorem Rvs.take {K : Frag} {Φ : Fz} : ∀ {vs : List V} {xs : List Value} (n : Nat), Rvs K Φ vs xs → Rvs K Φ (vs.take n) (xs.take n)
  | _, _, 0, _ => by simp [Rvs]
  | [], _, n + 1, e => by cases e; exact rfl
  | _ :: _, _, n + 1, ⟨x, xs, e, a, b⟩ => by subst e; exact ⟨x, _, rfl, a, Rvs.take n b⟩
theorem Rvs.one {K : Frag} {Φ : Fz} {v : V} {x : Value} (h : Rv K Φ v x) : Rvs K Φ [v] [x] := ⟨x, [], rfl, h, rfl⟩
theorem Rvs.reverse {K : Frag} {Φ : Fz} : ∀ {vs : List V} {xs : List Value}, Rvs K Φ vs xs → Rvs K Φ vs.reverse xs.reverse
  | [], _, e => by cases e; exact rfl
  | _ :: _, _, ⟨x, xs, e, a, b⟩ => by subst e; simp only [List.reverse_cons]; exact (Rvs.reverse b).append (.one a)
theorem Rvs.set {K : Frag} {Φ : Fz} : ∀ {vs : List V} {xs : List Value} {v : V} {x : Value} (i : Nat), Rvs K Φ vs xs → Rv K Φ v x → Rvs K Φ (vs.set i v) (xs.set i x)
  | [], _, _, _, _, e, _ => by cases e; exact rfl
  | _ :: _, _, _, _, 0, ⟨x, xs, e, a, b⟩, h => by subst e; exact ⟨_, _, rfl, h, b⟩
  | _ :: _, _, _, _, i + 1, ⟨x, xs, e, a, b⟩, h => by subst e; exact ⟨_, _, rfl, a, Rvs.set i b h⟩
inductive O
  | list (vs : List V)
  | inst (C : Addr) (ks : List Nat) (vs : List V)
  | dictS (ks : List Nat) (vs : List V)
  | dictI (ks : List Int) (vs : List V)
abbrev AH := Addr → Option O
noncomputable def AH.set (σ : AH) (a : Addr) (o : Option O) : AH := fun b => if b = a then o else σ b
inductive Cell
  | free
  | fro (o : Obj)
  | hid (o : Obj)
  | frm (m : Str → Option Value)
  | own (o : O)
  | sub (a : Addr)
structure Z where
  prog : Program
  w : World
  K : Frag
  h₀ : Heap
  p : Program
  loose : List Str
  mg : Str → Option Value
  mb : Str → Option Value
  g : Array GenState
  d : Drawn
  os : OsState
  trouble : Addr
structure Z.Ok (z : Z) : Prop where
  X : z.K.In z.h₀
  T : TopRead z.p z.loose z.mg z.mb z.h₀
noncomputable def Mat (z : Z) (Φ : Fz) (G : Addr → Cell) (h : Heap) (a : Addr) : O → Prop
  | .list vs => ∃ ws n, h.get? a = some (listOf ws n) ∧ vs.length ≤ 1000000 ∧ Rvs z.K Φ vs ws.toList
  | .inst C ks vs => ∃ d es n, h.get? a = some (instObj C d) ∧ h.get? d = some (dictOf es n) ∧ G d = .sub a ∧ C ∈ ownCls ∧ Rks ks es ∧ Rvs z.K Φ vs (es.map (·.val))
  | .dictS ks vs => ∃ o kvs, h.get? a = some o ∧ o.IsDictOf (PySem.strKind z.prog z.w) kvs ∧ ((kvs.map (·.1) = ks.map strAt ∧ ∀ k ∈ ks, k < strMany) ∧ z.h₀.objs.size ≤ a) ∧ Rvs z.K Φ vs (kvs.map (·.2))
  | .dictI ks vs => ∃ o kvs, h.get? a = some o ∧ o.IsDictOf (PySem.intKind z.prog z.w) kvs ∧ (kvs.map (·.1) = ks ∧ z.h₀.objs.size ≤ a) ∧ Rvs z.K Φ vs (kvs.map (·.2))
noncomputable def CellOk (z : Z) (Φ : Fz) (G : Addr → Cell) (h : Heap) (a : Addr) : Cell → Prop
  | .free => True
  | .fro o => h.get? a = some o
  | .hid o => h.get? a = some o
  | .frm m => h.Ns a m
  | .own o => Mat z Φ G h a o
  | .sub _ => ∃ o, h.get? a = some o
structure Cx where
  env : Env
  A : Around
  envs : List Env
  outs : List (Addr × (Str → Option Value))
  H : List (Addr × Obj)
@[reducible] noncomputable def Cx.L (c : Cx) : Addr := c.env.locals
structure Led (z : Z) (c : Cx) (m : Str → Option Value) (Φ : Fz) (σ : AH) (G : Addr → Cell) (h : Heap) : Prop where
  ok : ∀ a, CellOk z Φ G h a (G a)
  new : ∀ a, G a ≠ .free → z.h₀.get? a = none
  cur : G c.L = .frm m
  outs : ∀ p ∈ c.outs, G p.1 = .frm p.2
  hid : ∀ p ∈ c.H, G p.1 = .hid p.2
  fro : ∀ a o, Φ a = some o → G a = .fro o
  own : ∀ a o, σ a = some o → G a = .own o
structure Inv (z : Z) (c : Cx) (m : Str → Option Value) (Φ : Fz) (σ : AH) (s : Shared) : Prop where
  gens : s.gens = z.g
  drawn : s.drawn = z.d
  os : s.os = z.os
  base : ∀ b o, z.h₀.get? b = some o → s.heap.get? b = some o
  led : ∃ G, Led z c m Φ σ G s.heap
structure Cx.Ok (z : Z) (n : Nat) (c : Cx) : Prop where
  hA : c.A.frames = some c.envs
  fr : ∀ e ∈ c.envs, e.scope.kind = .function ∧ ∃ a, e.frame = some a ∧ (a = c.L ∨ a ∈ c.outs.map (·.1))
  ne : ∀ p ∈ c.outs, p.1 ≠ c.L
  abv : z.h₀.objs.size ≤ c.L
  hd : c.A.handled = none
  depth : c.A.depth + 3 * n + 20 ≤ 1000
  units : c.A.units + 12 * n + 200 ≤ 9900
  ek : c.env.scope.kind = .function
  eg : c.env.globals = mainGlobals
  eb : c.env.builtins = builtinsNs
  ef : ∃ a, c.env.frame = some a ∧ (a = c.L ∨ a ∈ c.outs.map (·.1))
  top : ∃ e r, c.envs = e :: r ∧ e.frame = c.env.frame
theorem Cx.Ok.less {z : Z} {n k : Nat} {c : Cx} (o : c.Ok z n) (h : k ≤ n) : c.Ok z k :=
  { o with depth := by have := o.depth; omega, units := by have := o.units; omega }
section
variable {z : Z} {c : Cx} {m m' : Str → Option Value} {Φ Φ' : Fz} {σ σ' : AH} {G G' : Addr → Cell} {h h' : Heap} {s : Shared} {n : Nat}
noncomputable def Kp (ds : List Addr) (h h' : Heap) : Prop := ∀ b o, b ∉ ds → h.get? b = some o → h'.get? b = some o
theorem Kp.of_keeps (k : ∀ b o, h.get? b = some o → h'.get? b = some o) : Kp [] h h' := fun b o _ e => k b o e
theorem Kp.nil (k : Kp [] h h') : ∀ b o, h.get? b = some o → h'.get? b = some o := fun b o e => k b o (by simp) e
theorem Led.fresh (L : Led z c m Φ σ G h) {a : Addr} (q : G a ≠ .free) : z.h₀.get? a = none := L.new a q
theorem Led.apart (L : Led z c m Φ σ G h) {a b : Addr} {o : Obj} (q : G a ≠ .free) (e : z.h₀.get? b = some o) : b ≠ a := by
  intro he
  rw [he, L.fresh q] at e
  cases e
theorem CellOk.there {a : Addr} {x : Cell} (h1 : CellOk z Φ G h a x) (h2 : x ≠ .free) : ∃ o, h.get? a = some o := by
  cases x with
  | free => exact absurd rfl h2
  | fro o => exact ⟨_, h1⟩
  | hid o => exact ⟨_, h1⟩
  | frm m => revert h1; refine yEEEA fun o _ _ e _ => ?_; exact ⟨o, e⟩
  | own o => cases o with
    | list vs => revert h1; refine yEEA fun ws n e _ => ?_; exact ⟨_, e⟩
    | inst C ks vs => revert h1; refine yEEEA fun d es n e _ => ?_; exact ⟨_, e⟩
    | dictS ks vs => revert h1; refine yEEA fun o kvs e _ => ?_; exact ⟨_, e⟩
    | dictI ks vs => revert h1; refine yEEA fun o kvs e _ => ?_; exact ⟨_, e⟩
  | sub b => exact h1
theorem Led.lt (L : Led z c m Φ σ G h) {a : Addr} (q : G a ≠ .free) : a < h.objs.size := let ⟨_, e⟩ := (L.ok a).there q; Heap.lt_size e
theorem Led.free_of_none (L : Led z c m Φ σ G h) {a : Addr} (q : h.get? a = none) : G a = .free := by
  apply Classical.byContradiction
  intro e
  obtain ⟨o, e⟩ := (L.ok a).there e
  rw [q] at e; cases e
theorem Mat.keeps {a : Addr} {o : O} (k : ∀ b x, h.get? b = some x → h'.get? b = some x) (q : Mat z Φ G h a o) : Mat z Φ G h' a o := by
  cases o with
  | list vs => revert q; refine yEEA fun ws n e r => ?_; exact ⟨ws, n, k _ _ e, r⟩
  | inst C ks vs => revert q; refine yEEEAA fun d es n e e' r => ?_; exact ⟨d, es, n, k _ _ e, k _ _ e', r⟩
  | dictS ks vs => revert q; refine yEEA fun o kvs e r => ?_; exact ⟨o, kvs, k _ _ e, r⟩
  | dictI ks vs => revert q; refine yEEA fun o kvs e r => ?_; exact ⟨o, kvs, k _ _ e, r⟩
theorem CellOk.keeps {a : Addr} {x : Cell} (k : ∀ b x, h.get? b = some x → h'.get? b = some x) (q : CellOk z Φ G h a x) : CellOk z Φ G h' a x := by
  cases x with
  | free => trivial
  | fro o => exact k _ _ q
  | hid o => exact k _ _ q
  | frm m => exact Heap.Ns.keeps q k
  | own o => exact Mat.keeps k q
  | sub b => obtain ⟨o, e⟩ := q; exact ⟨o, k _ _ e⟩
theorem Led.keeps (L : Led z c m Φ σ G h) (k : ∀ b x, h.get? b = some x → h'.get? b = some x) : Led z c m Φ σ G h' := { L with ok := fun a => (L.ok a).keeps k }
theorem Inv.keeps {s' : Shared} (I : Inv z c m Φ σ s) (k : ∀ b x, s.heap.get? b = some x → s'.heap.get? b = some x) (hg : s'.gens = s.gens) (hd : s'.drawn = s.drawn) (ho : s'.os = s.os) : Inv z c m Φ σ s' :=
  let ⟨G, L⟩ := I.led
  ⟨hg.trans I.gens, hd.trans I.drawn, ho.trans I.os, fun b o e => k _ _ (I.base b o e), G, L.keeps k⟩
theorem Inv.toks {h : Heap} {g d t t' os} (I : Inv z c m Φ σ ⟨h, g, d, t, os⟩) : Inv z c m Φ σ ⟨h, g, d, t', os⟩ := ⟨I.gens, I.drawn, I.os, I.base, I.led⟩
theorem Inv.fr (o : c.Ok z n) (I : Inv z c m Φ σ s) : Fr z.h₀ c.L s.heap m :=
  let ⟨G, L⟩ := I.led
  ⟨by have := L.ok c.L; rw [L.cur] at this; exact this, I.base, o.abv⟩
noncomputable def gset (G : Addr → Cell) (a : Addr) (x : Cell) : Addr → Cell := fun b => if b = a then x else G b
@[simp] theorem gset_self (G : Addr → Cell) (a : Addr) (x : Cell) : gset G a x a = x := by simp [gset]
theorem gset_ne {G : Addr → Cell} {a b : Addr} {x : Cell} (e : b ≠ a) : gset G a x b = G b := by simp [gset, e]
@[simp] theorem AH.set_self (σ : AH) (a : Addr) (o : Option O) : σ.set a o a = o := by simp [AH.set]
theorem AH.set_ne {σ : AH} {a b : Addr} {o : Option O} (e : b ≠ a) : σ.set a o b = σ b := by simp [AH.set, e]
end
end Mine
end
noncomputable section
namespace Mine
section
variable {z : Z} {c : Cx} {m m' : Str → Option Value} {Φ Φ' : Fz} {σ σ' : AH} {G G' : Addr → Cell} {h h' : Heap} {s s' : Shared} {n : Nat}
noncomputable def Cell.plain : Cell → Bool
  | .free => true
  | .own (.list _) => true
  | .own (.dictS _ _) => true
  | .own (.dictI _ _) => true
  | _ => false
theorem CellOk.other {a0 a : Addr} {x : Cell} (L : Led z c m Φ σ G h) (k : Kp [c.L, a0] h h') (hs : (G a0).plain = true) (ha : a ≠ a0) (hl : a ≠ c.L) :
    CellOk z Φ (gset (gset G c.L (.frm m')) a0 x) h' a (G a) := by
  have q := L.ok a
  have nd : ∀ d b, G d = .sub b → d ∉ [c.L, a0] := fun d b e q => by
    rcases List.mem_cons.mp q with q | q
    · rw [q, L.cur] at e; cases e
    · rw [List.mem_singleton.mp q] at e; rw [e] at hs; cases hs
  have na : a ∉ [c.L, a0] := by simp [ha, hl]
  cases e : G a with
  | free => trivial
  | fro o => rw [e] at q; exact k _ _ na q
  | hid o => rw [e] at q; exact k _ _ na q
  | frm m => rw [e] at q; revert q; refine yEEEA fun o es ep ho r => ?_; exact ⟨o, es, ep, k _ _ na ho, r⟩
  | own o =>
    rw [e] at q
    cases o with
    | list vs => revert q; refine yEEA fun ws n e r => ?_; exact ⟨ws, n, k _ _ na e, r⟩
    | inst C ks vs =>
      revert q; refine yEEEAAA fun d es n e1 e2 e3 r => ?_
      have hd := nd d _ e3
      refine ⟨d, es, n, k _ _ na e1, k _ _ hd e2, ?_, r⟩
      simp only [List.mem_cons, List.not_mem_nil, or_false, not_or] at hd
      rw [gset_ne hd.2, gset_ne hd.1]; exact e3
    | dictS ks vs => revert q; refine yEEA fun o kvs e r => ?_; exact ⟨o, kvs, k _ _ na e, r⟩
    | dictI ks vs => revert q; refine yEEA fun o kvs e r => ?_; exact ⟨o, kvs, k _ _ na e, r⟩
  | sub b =>
    rw [e] at q
    obtain ⟨o, e1⟩ := q
    exact ⟨o, k _ _ na e1⟩
theorem Led.change {a0 : Addr} {x : Cell} (L : Led z c m Φ σ G h) (ne : ∀ p ∈ c.outs, p.1 ≠ c.L) (k : Kp [c.L, a0] h h') (hn : h'.Ns c.L m') (hs : (G a0).plain = true) (hx : CellOk z Φ (gset (gset G c.L (.frm m')) a0 x) h' a0 x)
    (hnew : z.h₀.get? a0 = none) (hσ : ∀ a o, σ' a = some o → (a = a0 ∧ x = .own o) ∨ (a ≠ a0 ∧ σ a = some o)) : Led z c m' Φ σ' (gset (gset G c.L (.frm m')) a0 x) h' := by
  have n0 : c.L ≠ a0 := by rintro q; rw [← q, L.cur] at hs; cases hs
  have keep : ∀ {a : Addr} {y : Cell}, G a = y → y.plain = false → a ≠ c.L → gset (gset G c.L (.frm m')) a0 x a = y := fun {a y} e p q => by
    rw [gset_ne, gset_ne q]
    · exact e
    · rintro rfl; rw [e, p] at hs; cases hs
  refine ⟨fun a => ?_, fun a q => ?_, ?_, fun p hp => ?_, fun p hp => ?_, fun a o e => ?_, fun a o e => ?_⟩
  · by_cases e : a = a0
    · subst e; rw [gset_self]; exact hx
    · by_cases e' : a = c.L
      · subst e'; rw [gset_ne e, gset_self]; exact hn
      · rw [gset_ne e, gset_ne e']; exact CellOk.other L k hs e e'
  · by_cases e : a = a0
    · rw [e]; exact hnew
    · by_cases e' : a = c.L
      · rw [e']; exact L.new _ (by rw [L.cur]; exact Cell.noConfusion)
      · rw [gset_ne e, gset_ne e'] at q; exact L.new _ q
  · rw [gset_ne n0, gset_self]
  · exact keep (L.outs p hp) rfl (ne p hp)
  · exact keep (L.hid p hp) rfl (by intro q; have := L.hid p hp; rw [q, L.cur] at this; cases this)
  · exact keep (L.fro a o e) rfl (by intro q; have := L.fro a o e; rw [q, L.cur] at this; cases this)
  · rcases hσ a o e with ⟨rfl, rfl⟩ | ⟨e1, e2⟩
    · rw [gset_self]
    · rw [gset_ne e1, gset_ne]
      · exact L.own a o e2
      · intro q; have := L.own a o e2; rw [q, L.cur] at this; cases this
theorem Led.store (L : Led z c m Φ σ G h) (ne : ∀ p ∈ c.outs, p.1 ≠ c.L) (k : Kp [c.L] h h') (hn : h'.Ns c.L m') : Led z c m' Φ σ (gset G c.L (.frm m')) h' := by
  have nd : ∀ d b, G d = .sub b → d ≠ c.L := fun d b e q => by rw [q, L.cur] at e; cases e
  refine ⟨fun a => ?_, fun a q => ?_, gset_self .., fun p hp => ?_, fun p hp => ?_, fun a o e => ?_, fun a o e => ?_⟩
  · by_cases e' : a = c.L
    · subst e'; rw [gset_self]; exact hn
    · rw [gset_ne e']
      have q := L.ok a
      have na : a ∉ [c.L] := by simp [e']
      cases e : G a with
      | free => trivial
      | fro o => rw [e] at q; exact k _ _ na q
      | hid o => rw [e] at q; exact k _ _ na q
      | frm m => rw [e] at q; revert q; refine yEEEA fun o es ep ho r => ?_; exact ⟨o, es, ep, k _ _ na ho, r⟩
      | own o =>
        rw [e] at q
        cases o with
        | list vs => revert q; refine yEEA fun ws n e r => ?_; exact ⟨ws, n, k _ _ na e, r⟩
        | inst C ks vs =>
          revert q; refine yEEEAAA fun d es n e1 e2 e3 r => ?_
          have hd := nd d _ e3
          exact ⟨d, es, n, k _ _ na e1, k _ _ (by simp [hd]) e2, by rw [gset_ne hd]; exact e3, r⟩
        | dictS ks vs => revert q; refine yEEA fun o kvs e r => ?_; exact ⟨o, kvs, k _ _ na e, r⟩
        | dictI ks vs => revert q; refine yEEA fun o kvs e r => ?_; exact ⟨o, kvs, k _ _ na e, r⟩
      | sub b =>
        rw [e] at q
        obtain ⟨o, e1⟩ := q
        exact ⟨o, k _ _ na e1⟩
  · by_cases e' : a = c.L
    · rw [e']; exact L.new _ (by rw [L.cur]; exact Cell.noConfusion)
    · rw [gset_ne e'] at q; exact L.new _ q
  · rw [gset_ne (ne p hp)]; exact L.outs p hp
  · rw [gset_ne]; exact L.hid p hp; intro q; have := L.hid p hp; rw [q, L.cur] at this; cases this
  · rw [gset_ne]; exact L.fro a o e; intro q; have := L.fro a o e; rw [q, L.cur] at this; cases this
  · rw [gset_ne]; exact L.own a o e; intro q; have := L.own a o e; rw [q, L.cur] at this; cases this
theorem Led.setInst {a d : Addr} {C : Addr} {ks ks' : List Nat} {vs vs' : List V} {es : List DictEntry} {n' : Nat} (L : Led z c m Φ σ G h) (ne : ∀ p ∈ c.outs, p.1 ≠ c.L) (e : G a = .own (.inst C ks vs)) (ed : G d = .sub a) (hi : h.get? a = some (instObj C d))
    (k : Kp [c.L, d] h h') (hn : h'.Ns c.L m) (hx : h'.get? d = some (dictOf es n')) (hC : C ∈ ownCls) (hk : Rks ks' es) (hv : Rvs z.K Φ vs' (es.map (·.val))) :
    Led z c m Φ (σ.set a (some (.inst C ks' vs'))) (gset G a (.own (.inst C ks' vs'))) h' := by
  have nd : d ≠ a := by rintro rfl; rw [e] at ed; cases ed
  have nL : a ≠ c.L := by rintro rfl; rw [L.cur] at e; cases e
  have nL' : d ≠ c.L := by rintro rfl; rw [L.cur] at ed; cases ed
  have na : ∀ b, b ≠ c.L → b ≠ d → b ∉ [c.L, d] := fun b h1 h2 => by simp [h1, h2]
  have keep : ∀ {b : Addr} {y : Cell}, G b = y → (∀ o, y ≠ .own o) → gset G a (.own (.inst C ks' vs')) b = y := fun {b y} e1 p => by
    rw [gset_ne]; exact e1; rintro rfl; rw [e] at e1; exact p _ e1.symm
  refine ⟨fun b => ?_, fun b q => ?_, keep L.cur (fun _ => Cell.noConfusion), fun p hp => keep (L.outs p hp) fun _ => Cell.noConfusion, fun p hp => keep (L.hid p hp) fun _ => Cell.noConfusion, fun b o q => keep (L.fro b o q) fun _ => Cell.noConfusion, fun b o q => ?_⟩
  · by_cases e1 : b = a
    · subst e1; rw [gset_self]
      exact ⟨d, es, n', k _ _ (na _ nL (Ne.symm nd)) hi, hx, by rw [gset_ne nd]; exact ed, hC, hk, hv⟩
    · rw [gset_ne e1]
      by_cases e2 : b = d
      · subst e2; rw [ed]; exact ⟨_, hx⟩
      · by_cases e3 : b = c.L
        · subst e3; rw [L.cur]; exact hn
        · have q := L.ok b
          have nb := na b e3 e2
          cases e4 : G b with
          | free => trivial
          | fro o => rw [e4] at q; exact k _ _ nb q
          | hid o => rw [e4] at q; exact k _ _ nb q
          | frm m => rw [e4] at q; revert q; refine yEEEA fun o es ep ho r => ?_; exact ⟨o, es, ep, k _ _ nb ho, r⟩
          | own o =>
            rw [e4] at q
            cases o with
            | list vs => revert q; refine yEEA fun ws n e r => ?_; exact ⟨ws, n, k _ _ nb e, r⟩
            | inst C2 ks2 vs2 =>
              revert q; refine yEEEAAA fun d2 es2 n2 f1 f2 f3 r => ?_
              have q1 : d2 ≠ d := by rintro rfl; rw [ed] at f3; cases f3; exact e1 rfl
              have q2 : d2 ≠ c.L := by rintro rfl; rw [L.cur] at f3; cases f3
              exact ⟨d2, es2, n2, k _ _ nb f1, k _ _ (na _ q2 q1) f2, keep f3 (fun _ => Cell.noConfusion), r⟩
            | dictS ks vs => revert q; refine yEEA fun o kvs e r => ?_; exact ⟨o, kvs, k _ _ nb e, r⟩
            | dictI ks vs => revert q; refine yEEA fun o kvs e r => ?_; exact ⟨o, kvs, k _ _ nb e, r⟩
          | sub b2 =>
            rw [e4] at q
            obtain ⟨o, f1⟩ := q
            exact ⟨o, k _ _ nb f1⟩
  · by_cases e1 : b = a
    · rw [e1]; exact L.new _ (by rw [e]; exact Cell.noConfusion)
    · rw [gset_ne e1] at q; exact L.new _ q
  · by_cases e1 : b = a
    · subst e1; rw [AH.set_self] at q; cases q; exact gset_self ..
    · rw [AH.set_ne e1] at q; rw [gset_ne e1]; exact L.own b o q
theorem Led.newInst {a d : Addr} {C : Addr} (L : Led z c m Φ σ G h) (k : ∀ b o, h.get? b = some o → h'.get? b = some o) (na : h.get? a = none) (nd : h.get? d = none) (hne : a ≠ d) (ha : h'.get? a = some (instObj C d))
    (hd : h'.get? d = some emptyDict) (hC : C ∈ ownCls) (s1 : z.h₀.get? a = none) (s2 : z.h₀.get? d = none) :
    Led z c m Φ (σ.set a (some (.inst C [] []))) (gset (gset G d (.sub a)) a (.own (.inst C [] []))) h' := by
  have fa := L.free_of_none na
  have fd := L.free_of_none nd
  have keep : ∀ {b : Addr} {y : Cell}, G b = y → y ≠ .free → gset (gset G d (.sub a)) a (.own (.inst C [] [])) b = y := fun {b y} e1 p => by
    rw [gset_ne, gset_ne]
    · exact e1
    · rintro rfl; rw [fd] at e1; exact p e1.symm
    · rintro rfl; rw [fa] at e1; exact p e1.symm
  refine ⟨fun b => ?_, fun b q => ?_, keep L.cur Cell.noConfusion, fun p hp => keep (L.outs p hp) Cell.noConfusion, fun p hp => keep (L.hid p hp) Cell.noConfusion, fun b o q => keep (L.fro b o q) Cell.noConfusion, fun b o q => ?_⟩
  · by_cases e1 : b = a
    · subst e1; rw [gset_self]
      exact ⟨d, [], 0, ha, hd, by rw [gset_ne (Ne.symm hne), gset_self], hC, rfl, rfl⟩
    · by_cases e2 : b = d
      · subst e2; rw [gset_ne e1, gset_self]; exact ⟨_, hd⟩
      · rw [gset_ne e1, gset_ne e2]
        have q := L.ok b
        cases e4 : G b with
        | free => trivial
        | fro o => rw [e4] at q; exact k _ _ q
        | hid o => rw [e4] at q; exact k _ _ q
        | frm m => rw [e4] at q; exact Heap.Ns.keeps q k
        | own o =>
          rw [e4] at q
          cases o with
          | list vs => revert q; refine yEEA fun ws n e r => ?_; exact ⟨ws, n, k _ _ e, r⟩
          | inst C2 ks2 vs2 => revert q; refine yEEEAAA fun d2 es2 n2 f1 f2 f3 r => ?_; exact ⟨d2, es2, n2, k _ _ f1, k _ _ f2, keep f3 Cell.noConfusion, r⟩
          | dictS ks vs => revert q; refine yEEA fun o kvs e r => ?_; exact ⟨o, kvs, k _ _ e, r⟩
          | dictI ks vs => revert q; refine yEEA fun o kvs e r => ?_; exact ⟨o, kvs, k _ _ e, r⟩
        | sub b2 => rw [e4] at q; obtain ⟨o, f1⟩ := q; exact ⟨o, k _ _ f1⟩
  · by_cases e1 : b = a
    · rw [e1]; exact s1
    · by_cases e2 : b = d
      · rw [e2]; exact s2
      · rw [gset_ne e1, gset_ne e2] at q; exact L.new _ q
  · by_cases e1 : b = a
    · subst e1; rw [AH.set_self] at q; cases q; exact gset_self ..
    · rw [AH.set_ne e1] at q; exact keep (L.own b o q) Cell.noConfusion
noncomputable def Fz.set (Φ : Fz) (a : Addr) (o : Obj) : Fz := fun b => if b = a then some o else Φ b
theorem Led.freezeList {a : Addr} {vs : List V} (L : Led z c m Φ σ G h) (e : σ a = some (.list vs)) :
    ∃ Φ' G', Φ.le Φ' ∧ Rv z.K Φ' (.lst vs) (.ref a) ∧ Led z c m Φ' (σ.set a none) G' h := by
  have q := L.ok a
  have eG := L.own a _ e
  rw [eG] at q
  revert q; refine yEEAA fun ws n e1 hb r => ?_
  have le : Φ.le (Fz.set Φ a (listOf ws n)) := fun b o q => by
    unfold Fz.set
    rw [if_neg]; exact q
    rintro rfl; have := L.fro b o q; rw [eG] at this; cases this
  refine ⟨_, gset G a (.fro (listOf ws n)), le, ⟨a, ws, n, rfl, by simp [Fz.set], hb, Rvs.mono le r⟩, fun b => ?_, fun b q => ?_, ?_, fun p hp => ?_, fun p hp => ?_, fun b o q => ?_, fun b o q => ?_⟩
  · by_cases e2 : b = a
    · subst e2; rw [gset_self]; exact e1
    · rw [gset_ne e2]
      have q := L.ok b
      cases e4 : G b with
      | free => trivial
      | fro o => rw [e4] at q; exact q
      | hid o => rw [e4] at q; exact q
      | frm m => rw [e4] at q; exact q
      | own o =>
        rw [e4] at q
        cases o with
        | list vs => revert q; refine yEEAA fun ws n e b r => ?_; exact ⟨ws, n, e, b, Rvs.mono le r⟩
        | inst C2 ks2 vs2 =>
          revert q; refine yEEEAAAAA fun d2 es2 n2 f1 f2 f3 hC2 r1 r2 => ?_
          refine ⟨d2, es2, n2, f1, f2, ?_, hC2, r1, Rvs.mono le r2⟩
          rw [gset_ne]; exact f3; rintro rfl; rw [eG] at f3; cases f3
        | dictS ks vs => revert q; refine yEEAAA fun o kvs e r1 r2 r3 => ?_; exact ⟨o, kvs, e, r1, r2, Rvs.mono le r3⟩
        | dictI ks vs => revert q; refine yEEAAA fun o kvs e r1 r2 r3 => ?_; exact ⟨o, kvs, e, r1, r2, Rvs.mono le r3⟩
      | sub b2 => rw [e4] at q; exact q
  · by_cases e2 : b = a
    · rw [e2]; exact L.new _ (by rw [eG]; exact Cell.noConfusion)
    · rw [gset_ne e2] at q; exact L.new _ q
  · rw [gset_ne]; exact L.cur; intro q; rw [← q, L.cur] at eG; cases eG
  · rw [gset_ne]; exact L.outs p hp; intro q; have := L.outs p hp; rw [q, eG] at this; cases this
  · rw [gset_ne]; exact L.hid p hp; intro q; have := L.hid p hp; rw [q, eG] at this; cases this
  · unfold Fz.set at q
    by_cases e2 : b = a
    · subst e2; rw [if_pos rfl] at q; cases q; exact gset_self ..
    · rw [if_neg e2] at q; rw [gset_ne e2]; exact L.fro b o q
  · by_cases e2 : b = a
    · subst e2; rw [AH.set_self] at q; cases q
    · rw [AH.set_ne e2] at q; rw [gset_ne e2]; exact L.own b o q
theorem Led.freezeInst {a : Addr} {C : Addr} {ks : List Nat} {vs : List V} (L : Led z c m Φ σ G h) (e : σ a = some (.inst C ks vs)) :
    ∃ Φ' G', Φ.le Φ' ∧ Rv z.K Φ' (.obj C ks vs) (.ref a) ∧ Led z c m Φ' (σ.set a none) G' h := by
  have q := L.ok a
  have eG := L.own a _ e
  rw [eG] at q
  revert q; refine yEEEAAAAA fun d es n e1 e2 e3 hC r r' => ?_
  have hne : d ≠ a := by rintro rfl; rw [eG] at e3; cases e3
  have le : Φ.le (Fz.set (Fz.set Φ a (instObj C d)) d (dictOf es n)) := fun b o q => by
    unfold Fz.set
    rw [if_neg, if_neg]; exact q
    · rintro rfl; have := L.fro b o q; rw [eG] at this; cases this
    · rintro rfl; have := L.fro b o q; rw [e3] at this; cases this
  have keep : ∀ {b : Addr} {y : Cell}, G b = y → (∀ b, y ≠ .sub b) → (∀ o, y ≠ .own o) → gset (gset G a (.fro (instObj C d))) d (.fro (dictOf es n)) b = y := fun {b y} f1 p p' => by
    rw [gset_ne, gset_ne]
    · exact f1
    · rintro rfl; rw [eG] at f1; exact p' _ f1.symm
    · rintro rfl; rw [e3] at f1; exact p _ f1.symm
  refine ⟨_, gset (gset G a (.fro (instObj C d))) d (.fro (dictOf es n)), le, ⟨a, d, es, n, rfl, by simp [Fz.set, Ne.symm hne], by simp [Fz.set], hC, r, Rvs.mono le r'⟩, fun b => ?_, fun b q => ?_, keep L.cur (fun _ => Cell.noConfusion) (fun _ => Cell.noConfusion),
    fun p hp => keep (L.outs p hp) (fun _ => Cell.noConfusion) (fun _ => Cell.noConfusion), fun p hp => keep (L.hid p hp) (fun _ => Cell.noConfusion) (fun _ => Cell.noConfusion), fun b o q => ?_, fun b o q => ?_⟩
  · by_cases q1 : b = d
    · subst q1; rw [gset_self]; exact e2
    · by_cases q2 : b = a
      · subst q2; rw [gset_ne q1, gset_self]; exact e1
      · rw [gset_ne q1, gset_ne q2]
        have q := L.ok b
        cases e4 : G b with
        | free => trivial
        | fro o => rw [e4] at q; exact q
        | hid o => rw [e4] at q; exact q
        | frm m => rw [e4] at q; exact q
        | own o =>
          rw [e4] at q
          cases o with
          | list vs => revert q; refine yEEAA fun ws n e b r => ?_; exact ⟨ws, n, e, b, Rvs.mono le r⟩
          | inst C2 ks2 vs2 =>
            revert q; refine yEEEAAAAA fun d2 es2 n2 f1 f2 f3 hC2 r1 r2 => ?_
            refine ⟨d2, es2, n2, f1, f2, ?_, hC2, r1, Rvs.mono le r2⟩
            rw [gset_ne, gset_ne]
            · exact f3
            · rintro rfl; rw [eG] at f3; cases f3
            · rintro rfl; rw [e3] at f3; cases f3; exact q2 rfl
          | dictS ks vs => revert q; refine yEEAAA fun o kvs e r1 r2 r3 => ?_; exact ⟨o, kvs, e, r1, r2, Rvs.mono le r3⟩
          | dictI ks vs => revert q; refine yEEAAA fun o kvs e r1 r2 r3 => ?_; exact ⟨o, kvs, e, r1, r2, Rvs.mono le r3⟩
        | sub b2 => rw [e4] at q; exact q
  · by_cases q1 : b = d
    · rw [q1]; exact L.new _ (by rw [e3]; exact Cell.noConfusion)
    · by_cases q2 : b = a
      · rw [q2]; exact L.new _ (by rw [eG]; exact Cell.noConfusion)
      · rw [gset_ne q1, gset_ne q2] at q; exact L.new _ q
  · unfold Fz.set at q
    by_cases q1 : b = d
    · subst q1; rw [if_pos rfl] at q; cases q; exact gset_self ..
    · rw [if_neg q1] at q
      by_cases q2 : b = a
      · subst q2; rw [if_pos rfl] at q; cases q; rw [gset_ne q1, gset_self]
      · rw [if_neg q2] at q; rw [gset_ne q1, gset_ne q2]; exact L.fro b o q
  · by_cases q2 : b = a
    · subst q2; rw [AH.set_self] at q; cases q
    · rw [AH.set_ne q2] at q
      rw [gset_ne, gset_ne q2]; exact L.own b o q
      rintro rfl; have := L.own b o q; rw [e3] at this; cases this
end
end Mine
end
noncomputable section
namespace Mine
section
variable {z : Z} {c : Cx} {m m' : Str → Option Value} {Φ Φ' : Fz} {σ σ' : AH} {G G' : Addr → Cell} {h h' : Heap} {s s' : Shared} {n : Nat} {t : Nat}
theorem Inv.size (o : c.Ok z n) (I : Inv z c m Φ σ s) : z.h₀.objs.size ≤ s.heap.objs.size := Nat.le_trans o.abv (Nat.le_of_lt (I.fr o).ns.lt)
theorem none_of_size {h : Heap} {a : Addr} (e : h.objs.size ≤ a) : h.get? a = none := by
  cases q : h.get? a with
  | none => rfl
  | some o => exact absurd (Heap.lt_size q) (Nat.not_lt.mpr e)
theorem Inv.store (o : c.Ok z n) (I : Inv z c m Φ σ s) (k : Kp [c.L] s.heap h') (hn : h'.Ns c.L m') : Inv z c m' Φ σ { s with heap := h', toks := t } := by
  obtain ⟨G, L⟩ := I.led
  have := L.store o.ne k hn
  exact ⟨I.gens, I.drawn, I.os, fun b x e => k _ _ (by simp only [List.mem_singleton]; exact fun q => L.apart (by rw [L.cur]; exact Cell.noConfusion) e q) (I.base _ _ e), _, this⟩
theorem Inv.base2 (I : Inv z c m Φ σ s) (L : Led z c m Φ σ G s.heap) {a : Addr} (k : Kp [c.L, a] s.heap h') (ha : z.h₀.get? a = none) : ∀ b x, z.h₀.get? b = some x → h'.get? b = some x := fun b x e =>
  k _ _ (by
    simp only [List.mem_cons, List.not_mem_nil, or_false, not_or]
    exact ⟨fun q => L.apart (by rw [L.cur]; exact Cell.noConfusion) e q, fun q => by subst q; rw [ha] at e; cases e⟩) (I.base _ _ e)
theorem Inv.setList {a : Addr} {vs vs' : List V} {ws : Array Value} {n' : Nat} (o : c.Ok z n) (I : Inv z c m Φ σ s) (e : σ a = some (.list vs)) (k : Kp [c.L, a] s.heap h') (hn : h'.Ns c.L m) (hx : h'.get? a = some (listOf ws n')) (hb : vs'.length ≤ 1000000) (r : Rvs z.K Φ vs' ws.toList) :
    Inv z c m Φ (σ.set a (some (.list vs'))) { s with heap := h', toks := t } := by
  obtain ⟨G, L⟩ := I.led
  have eG := L.own _ _ e
  have ha : z.h₀.get? a = none := L.new _ (by rw [eG]; exact Cell.noConfusion)
  refine ⟨I.gens, I.drawn, I.os, I.base2 L k ha, _, L.change (x := .own (.list vs')) o.ne k hn (by rw [eG]; rfl) ⟨ws, n', hx, hb, r⟩ ha fun b o q => ?_⟩
  by_cases w : b = a
  · subst w; rw [AH.set_self] at q; cases q; exact .inl ⟨rfl, rfl⟩
  · rw [AH.set_ne w] at q; exact .inr ⟨w, q⟩
theorem Inv.setDictS {a : Addr} {ks ks' : List Nat} {vs vs' : List V} {ob : Obj} {kvs : List (Str × Value)} (o : c.Ok z n) (I : Inv z c m Φ σ s) (e : σ a = some (.dictS ks vs)) (k : Kp [c.L, a] s.heap h') (hn : h'.Ns c.L m) (hx : h'.get? a = some ob)
    (hd : ob.IsDictOf (PySem.strKind z.prog z.w) kvs) (r : kvs.map (·.1) = ks'.map strAt ∧ ∀ k ∈ ks', k < strMany) (r' : Rvs z.K Φ vs' (kvs.map (·.2))) : Inv z c m Φ (σ.set a (some (.dictS ks' vs'))) { s with heap := h', toks := t } := by
  obtain ⟨G, L⟩ := I.led
  have eG := L.own _ _ e
  have ha : z.h₀.get? a = none := L.new _ (by rw [eG]; exact Cell.noConfusion)
  have hz : z.h₀.objs.size ≤ a := by have := L.ok a; rw [eG] at this; revert this; refine yEEAAA fun _ _ _ _ u1 _ => ?_; obtain ⟨_, q⟩ := u1; exact q
  refine ⟨I.gens, I.drawn, I.os, I.base2 L k ha, _, L.change (x := .own (.dictS ks' vs')) o.ne k hn (by rw [eG]; rfl) ⟨ob, kvs, hx, hd, ⟨r, hz⟩, r'⟩ ha fun b o q => ?_⟩
  by_cases w : b = a
  · subst w; rw [AH.set_self] at q; cases q; exact .inl ⟨rfl, rfl⟩
  · rw [AH.set_ne w] at q; exact .inr ⟨w, q⟩
theorem Inv.setDictI {a : Addr} {ks ks' : List Int} {vs vs' : List V} {ob : Obj} {kvs : List (Int × Value)} (o : c.Ok z n) (I : Inv z c m Φ σ s) (e : σ a = some (.dictI ks vs)) (k : Kp [c.L, a] s.heap h') (hn : h'.Ns c.L m) (hx : h'.get? a = some ob)
    (hd : ob.IsDictOf (PySem.intKind z.prog z.w) kvs) (r : kvs.map (·.1) = ks') (r' : Rvs z.K Φ vs' (kvs.map (·.2))) : Inv z c m Φ (σ.set a (some (.dictI ks' vs'))) { s with heap := h', toks := t } := by
  obtain ⟨G, L⟩ := I.led
  have eG := L.own _ _ e
  have ha : z.h₀.get? a = none := L.new _ (by rw [eG]; exact Cell.noConfusion)
  have hz : z.h₀.objs.size ≤ a := by have := L.ok a; rw [eG] at this; revert this; refine yEEAAA fun _ _ _ _ u2 _ => ?_; obtain ⟨_, q⟩ := u2; exact q
  refine ⟨I.gens, I.drawn, I.os, I.base2 L k ha, _, L.change (x := .own (.dictI ks' vs')) o.ne k hn (by rw [eG]; rfl) ⟨ob, kvs, hx, hd, ⟨r, hz⟩, r'⟩ ha fun b o q => ?_⟩
  by_cases w : b = a
  · subst w; rw [AH.set_self] at q; cases q; exact .inl ⟨rfl, rfl⟩
  · rw [AH.set_ne w] at q; exact .inr ⟨w, q⟩
theorem Inv.fresh_none (I : Inv z c m Φ σ s) {a : Addr} (e : s.heap.get? a = none) : σ a = none := by
  obtain ⟨G, L⟩ := I.led
  cases q : σ a with
  | none => rfl
  | some o => have := L.own _ _ q; rw [L.free_of_none e] at this; cases this
theorem Kp.mono {ds ds' : List Addr} (k : Kp ds h h') (x : ∀ a ∈ ds, a ∈ ds') : Kp ds' h h' := fun b o q e => k b o (fun w => q (x _ w)) e
theorem Inv.newList {a : Addr} {vs : List V} {ws : Array Value} {n' : Nat} (o : c.Ok z n) (I : Inv z c m Φ σ s) (ha : s.heap.objs.size ≤ a) (k : Kp [] s.heap h') (hx : h'.get? a = some (listOf ws n')) (hb : vs.length ≤ 1000000) (r : Rvs z.K Φ vs ws.toList) :
    Inv z c m Φ (σ.set a (some (.list vs))) { s with heap := h', toks := t } := by
  obtain ⟨G, L⟩ := I.led
  have ha' := none_of_size (Nat.le_trans (I.size o) ha)
  have hn := none_of_size ha
  refine ⟨I.gens, I.drawn, I.os, fun b x e => k.nil _ _ (I.base _ _ e), _, L.change (x := .own (.list vs)) o.ne (k.mono fun _ q => nomatch q) (Heap.Ns.keeps (I.fr o).ns k.nil) (by rw [L.free_of_none hn]; rfl) ⟨ws, n', hx, hb, r⟩ ha' fun b o q => ?_⟩
  by_cases w : b = a
  · subst w; rw [AH.set_self] at q; cases q; exact .inl ⟨rfl, rfl⟩
  · rw [AH.set_ne w] at q; exact .inr ⟨w, q⟩
theorem Inv.newDictS {a : Addr} {ob : Obj} (o : c.Ok z n) (I : Inv z c m Φ σ s) (ha : s.heap.objs.size ≤ a) (k : Kp [] s.heap h') (hx : h'.get? a = some ob) (hd : ob.IsDictOf (PySem.strKind z.prog z.w) []) :
    Inv z c m Φ (σ.set a (some (.dictS [] []))) { s with heap := h', toks := t } := by
  obtain ⟨G, L⟩ := I.led
  have ha' := none_of_size (Nat.le_trans (I.size o) ha)
  have hn := none_of_size ha
  refine ⟨I.gens, I.drawn, I.os, fun b x e => k.nil _ _ (I.base _ _ e), _, L.change (x := .own (.dictS [] [])) o.ne (k.mono fun _ q => nomatch q) (Heap.Ns.keeps (I.fr o).ns k.nil) (by rw [L.free_of_none hn]; rfl) ⟨ob, [], hx, hd, ⟨⟨rfl, fun _ q => nomatch q⟩, Nat.le_trans (I.size o) ha⟩, rfl⟩ ha' fun b o q => ?_⟩
  by_cases w : b = a
  · subst w; rw [AH.set_self] at q; cases q; exact .inl ⟨rfl, rfl⟩
  · rw [AH.set_ne w] at q; exact .inr ⟨w, q⟩
theorem Inv.newDictI {a : Addr} {ob : Obj} (o : c.Ok z n) (I : Inv z c m Φ σ s) (ha : s.heap.objs.size ≤ a) (k : Kp [] s.heap h') (hx : h'.get? a = some ob) (hd : ob.IsDictOf (PySem.intKind z.prog z.w) []) :
    Inv z c m Φ (σ.set a (some (.dictI [] []))) { s with heap := h', toks := t } := by
  obtain ⟨G, L⟩ := I.led
  have ha' := none_of_size (Nat.le_trans (I.size o) ha)
  have hn := none_of_size ha
  refine ⟨I.gens, I.drawn, I.os, fun b x e => k.nil _ _ (I.base _ _ e), _, L.change (x := .own (.dictI [] [])) o.ne (k.mono fun _ q => nomatch q) (Heap.Ns.keeps (I.fr o).ns k.nil) (by rw [L.free_of_none hn]; rfl) ⟨ob, [], hx, hd, ⟨rfl, Nat.le_trans (I.size o) ha⟩, rfl⟩ ha' fun b o q => ?_⟩
  by_cases w : b = a
  · subst w; rw [AH.set_self] at q; cases q; exact .inl ⟨rfl, rfl⟩
  · rw [AH.set_ne w] at q; exact .inr ⟨w, q⟩
theorem Inv.newFro {a : Addr} {ob : Obj} (o : c.Ok z n) (I : Inv z c m Φ σ s) (ha : s.heap.objs.size ≤ a) (k : Kp [] s.heap h') (hx : h'.get? a = some ob) :
    ∃ Φ', Φ.le Φ' ∧ Φ' a = some ob ∧ Inv z c m Φ' σ { s with heap := h', toks := t } := by
  obtain ⟨G, L⟩ := I.led
  have ha' := none_of_size (Nat.le_trans (I.size o) ha)
  have hn := none_of_size ha
  have fG := L.free_of_none hn
  have keep : ∀ {b : Addr} {y : Cell}, G b = y → y ≠ .free → gset G a (.fro ob) b = y := fun {b y} e p => by
    rw [gset_ne]; exact e; rintro rfl; rw [fG] at e; exact p e.symm
  have le : Φ.le (Fz.set Φ a ob) := fun b x q => by
    unfold Fz.set; rw [if_neg]; exact q; rintro rfl; have := L.fro _ _ q; rw [fG] at this; cases this
  refine ⟨Fz.set Φ a ob, le, by simp [Fz.set], I.gens, I.drawn, I.os, fun b x e => k.nil _ _ (I.base _ _ e), gset G a (.fro ob), fun b => ?_, fun b q => ?_, keep L.cur Cell.noConfusion, fun p hp => keep (L.outs p hp) Cell.noConfusion,
    fun p hp => keep (L.hid p hp) Cell.noConfusion, fun b x q => ?_, fun b x q => keep (L.own b x q) Cell.noConfusion⟩
  · by_cases w : b = a
    · subst w; rw [gset_self]; exact hx
    · rw [gset_ne w]
      have q := (L.ok b).keeps k.nil
      cases e4 : G b with
      | free => trivial
      | fro o => rw [e4] at q; exact q
      | hid o => rw [e4] at q; exact q
      | frm m => rw [e4] at q; exact q
      | own o =>
        rw [e4] at q
        cases o with
        | list vs => revert q; refine yEEAA fun ws n e b r => ?_; exact ⟨ws, n, e, b, Rvs.mono le r⟩
        | inst C2 ks2 vs2 => revert q; refine yEEEAAAAA fun d2 es2 n2 f1 f2 f3 hC2 r1 r2 => ?_; exact ⟨d2, es2, n2, f1, f2, keep f3 Cell.noConfusion, hC2, r1, Rvs.mono le r2⟩
        | dictS ks vs => revert q; refine yEEAAA fun o kvs e r1 r2 r3 => ?_; exact ⟨o, kvs, e, r1, r2, Rvs.mono le r3⟩
        | dictI ks vs => revert q; refine yEEAAA fun o kvs e r1 r2 r3 => ?_; exact ⟨o, kvs, e, r1, r2, Rvs.mono le r3⟩
      | sub b2 => rw [e4] at q; exact q
  · by_cases w : b = a
    · rw [w]; exact ha'
    · rw [gset_ne w] at q; exact L.new _ q
  · unfold Fz.set at q
    by_cases w : b = a
    · subst w; rw [if_pos rfl] at q; cases q; exact gset_self ..
    · rw [if_neg w] at q; exact keep (L.fro b x q) Cell.noConfusion
theorem Inv.freezeList {a : Addr} {vs : List V} (I : Inv z c m Φ σ s) (e : σ a = some (.list vs)) : ∃ Φ', Φ.le Φ' ∧ Rv z.K Φ' (.lst vs) (.ref a) ∧ Inv z c m Φ' (σ.set a none) s := by
  obtain ⟨G, L⟩ := I.led
  refine xEEAA (L.freezeList e) fun Φ' G' a b d => ?_
  exact ⟨Φ', a, b, I.gens, I.drawn, I.os, I.base, G', d⟩
theorem Inv.freezeInst {a : Addr} {C : Addr} {ks : List Nat} {vs : List V} (I : Inv z c m Φ σ s) (e : σ a = some (.inst C ks vs)) : ∃ Φ', Φ.le Φ' ∧ Rv z.K Φ' (.obj C ks vs) (.ref a) ∧ Inv z c m Φ' (σ.set a none) s := by
  obtain ⟨G, L⟩ := I.led
  refine xEEAA (L.freezeInst e) fun Φ' G' a b d => ?_
  exact ⟨Φ', a, b, I.gens, I.drawn, I.os, I.base, G', d⟩
theorem Inv.newInst {a d : Addr} {C : Addr} (o : c.Ok z n) (I : Inv z c m Φ σ s) (ha : s.heap.objs.size ≤ a) (hd : s.heap.objs.size ≤ d) (hne : a ≠ d) (k : Kp [] s.heap h') (hx : h'.get? a = some (instObj C d)) (hy : h'.get? d = some emptyDict) (hC : C ∈ ownCls) :
    Inv z c m Φ (σ.set a (some (.inst C [] []))) { s with heap := h', toks := t } := by
  obtain ⟨G, L⟩ := I.led
  exact ⟨I.gens, I.drawn, I.os, fun b x e => k.nil _ _ (I.base _ _ e), _, L.newInst k.nil (none_of_size ha) (none_of_size hd) hne hx hy hC (none_of_size (Nat.le_trans (I.size o) ha)) (none_of_size (Nat.le_trans (I.size o) hd))⟩
noncomputable def full (h₀ h : Heap) (L : Addr) : List (Addr × Obj) := ((List.range h.objs.size).filter fun a => a != L && (h₀.get? a).isNone && (h.get? a).isSome).map fun a => (a, (h.get? a).getD default)
theorem full_mem {h₀ h : Heap} {L a : Addr} {o : Obj} : (a, o) ∈ full h₀ h L ↔ h.get? a = some o ∧ a ≠ L ∧ h₀.get? a = none := by
  unfold full
  simp only [List.mem_map, List.mem_filter, List.mem_range, Bool.and_eq_true, bne_iff_ne, ne_eq, Option.isNone_iff_eq_none, Prod.mk.injEq]
  constructor
  · rintro ⟨b, ⟨_, ⟨h1, h2⟩, h3⟩, rfl, rfl⟩
    obtain ⟨o, e⟩ := Option.isSome_iff_exists.mp h3
    rw [e]; exact ⟨rfl, h1, h2⟩
  · rintro ⟨e, h1, h2⟩
    exact ⟨a, ⟨Heap.lt_size e, ⟨h1, h2⟩, by rw [e]; rfl⟩, rfl, by rw [e]; rfl⟩
theorem full_news {h₀ h : Heap} {L : Addr} : News h₀ L h (full h₀ h L) := fun p hp => by
  obtain ⟨a, o⟩ := p
  exact full_mem.mp hp
theorem full_nodup {h₀ h : Heap} {L : Addr} : ((full h₀ h L).map (·.1)).Nodup := by
  unfold full
  rw [List.map_map]
  have : ((fun x : Addr × Obj => x.1) ∘ fun a => (a, (h.get? a).getD default)) = id := rfl
  rw [this, List.map_id]
  exact List.Pairwise.filter _ List.nodup_range
theorem upd_of {d : Addr} {o o' : Obj} : ∀ {l : List (Addr × Obj)}, (l.map (·.1)).Nodup → (d, o) ∈ l → ∃ l', Upd d o o' l l' ∧ (∀ p ∈ l, p.1 ≠ d → p ∈ l') ∧ (d, o') ∈ l'
  | p :: r, nd, hm => by
    rw [List.map_cons, List.nodup_cons] at nd
    rcases List.mem_cons.mp hm with q | q
    · subst q
      refine ⟨_, .head fun p hp e => nd.1 (List.mem_map.mpr ⟨p, hp, e⟩), fun p hp e => ?_, .head _⟩
      rcases List.mem_cons.mp hp with rfl | hp
      · exact absurd rfl e
      · exact .tail _ hp
    · obtain ⟨l', u, a, b⟩ := upd_of nd.2 q
      refine ⟨p :: l', .tail (fun e => nd.1 (List.mem_map.mpr ⟨_, q, e.symm⟩)) u, fun p' hp e => ?_, .tail _ b⟩
      rcases List.mem_cons.mp hp with rfl | hp
      · exact .head _
      · exact .tail _ (a _ hp e)
theorem full_upd {h₀ h : Heap} {L d : Addr} {o o' : Obj} (e : h.get? d = some o) (n1 : d ≠ L) (n2 : h₀.get? d = none) :
    ∃ news', Upd d o o' (full h₀ h L) news' ∧ (d, o') ∈ news' ∧ ∀ {h' : Heap} {m : Str → Option Value}, (∀ b x, h₀.get? b = some x → h.get? b = some x) → Fr h₀ L h' m → News h₀ L h' news' → Kp [L, d] h h' ∧ h'.get? d = some o' := by
  refine xEAA (upd_of (o' := o') (full_nodup (h₀ := h₀) (h := h) (L := L)) (full_mem.mpr ⟨e, n1, n2⟩)) fun l' u a b => ?_
  refine ⟨l', u, b, fun {h' m} kb F N => ⟨fun x ob hx ex => ?_, N.get b⟩⟩
  simp only [List.mem_cons, List.not_mem_nil, or_false, not_or] at hx
  cases q : h₀.get? x with
  | some o2 => have := kb _ _ q; rw [ex] at this; cases this; exact F.keep _ _ q
  | none => exact N.get (a _ (full_mem.mpr ⟨ex, hx.1, q⟩) hx.2)
end
end Mine
end
noncomputable section
namespace Mine
section
variable {z : Z} {c c' : Cx} {m m' : Str → Option Value} {Φ Φ' : Fz} {σ σ' : AH} {G G' : Addr → Cell} {h h' : Heap} {s s' : Shared} {n : Nat} {t : Nat}
theorem Led.call {L' : Addr} (L : Led z c m Φ σ G h) (k : Kp [] h h') (hn : h'.Ns L' m') (hl : h.objs.size ≤ L') (hz : z.h₀.get? L' = none) (e1 : c'.L = L') (e2 : c'.outs = (c.L, m) :: c.outs) (e3 : c'.H = c.H) :
    Led z c' m' Φ σ (gset G L' (.frm m')) h' := by
  have fG : G L' = .free := L.free_of_none (none_of_size hl)
  have keep : ∀ {b : Addr} {y : Cell}, G b = y → y ≠ .free → gset G L' (.frm m') b = y := fun {b y} e p => by
    rw [gset_ne]; exact e; rintro rfl; rw [fG] at e; exact p e.symm
  refine ⟨fun b => ?_, fun b q => ?_, by rw [e1]; exact gset_self .., fun p hp => ?_, fun p hp => keep (L.hid p (e3 ▸ hp)) Cell.noConfusion, fun b o q => keep (L.fro b o q) Cell.noConfusion, fun b o q => keep (L.own b o q) Cell.noConfusion⟩
  · by_cases w : b = L'
    · rw [w, gset_self]; exact hn
    · rw [gset_ne w]
      have q := (L.ok b).keeps k.nil
      cases e4 : G b with
      | own o =>
        rw [e4] at q
        cases o with
        | list vs => exact q
        | inst C2 ks2 vs2 => revert q; refine yEEEAAAAA fun d2 es2 n2 f1 f2 f3 hC2 r1 r2 => ?_; exact ⟨d2, es2, n2, f1, f2, keep f3 Cell.noConfusion, hC2, r1, r2⟩
        | dictS ks vs => exact q
        | dictI ks vs => exact q
      | _ => rw [e4] at q; exact q
  · by_cases w : b = L'
    · rw [w]; exact hz
    · rw [gset_ne w] at q; exact L.new _ q
  · rw [e2] at hp
    rcases List.mem_cons.mp hp with rfl | hp
    · exact keep L.cur Cell.noConfusion
    · exact keep (L.outs p hp) Cell.noConfusion
theorem Led.back (L : Led z c' m' Φ σ G h) (e2 : c'.outs = (c.L, m) :: c.outs) (e3 : ∀ p ∈ c.H, p ∈ c'.H) : Led z c m Φ σ G h :=
  { L with cur := L.outs (c.L, m) (by rw [e2]; exact .head _), outs := fun p hp => L.outs p (by rw [e2]; exact .tail _ hp), hid := fun p hp => L.hid p (e3 _ hp) }
theorem Inv.back (I : Inv z c' m' Φ σ s) (e2 : c'.outs = (c.L, m) :: c.outs) (e3 : ∀ p ∈ c.H, p ∈ c'.H) : Inv z c m Φ σ s :=
  let ⟨G, L⟩ := I.led; ⟨I.gens, I.drawn, I.os, I.base, G, L.back e2 e3⟩
inductive Md | made | fly | held
noncomputable def Cov (G : Addr → Cell) (B h : Heap) : Prop := ∀ a o, G a ≠ .free → (∀ m, G a ≠ .frm m) → h.get? a = some o → B.get? a = some o
noncomputable def MdOk (md : Md) (B : Heap) (envs : List Env) (f ea : Addr) (cls a0 : Value) (h : Heap) : Prop := match md with
  | .made => B.StaysIn h ∧ B.get? ea = none ∧ h.FunFrames B envs ∧ ∃ oe vs, h.get? ea = some oe ∧ oe.cls = cls ∧ oe.data = .fields vs ∧ vs[0]? = some a0 ∧ vs[1]? = some .none
  | .fly => Heap.FlyingW B envs ea cls a0 h
  | .held => Heap.HeldW B envs ea cls a0 f h
structure ExcSt (z : Z) (c : Cx) (m : Str → Option Value) (Φ : Fz) (σ : AH) (ea : Addr) (md : Md) (s : Shared) : Prop where
  gens : s.gens = z.g
  drawn : s.drawn = z.d
  os : s.os = z.os
  ex : ∃ G B a0 f, c.env.frame = some f ∧ Led z c m Φ σ G s.heap ∧ z.h₀.StaysIn B ∧ Cov G B s.heap ∧ MdOk md B c.envs f ea (.ref z.trouble) a0 s.heap
theorem Led.slots {B : Heap} (L : Led z c m Φ σ G h) (cov : Cov G B h) (st : B.StaysIn h') (u : h.UpToSlots h') : Led z c m Φ σ G h' ∧ Cov G B h' := by
  have cp : ∀ {a o}, G a ≠ .free → (∀ m, G a ≠ .frm m) → h.get? a = some o → h'.get? a = some o := fun {a o} h1 h2 e => st _ _ (cov a o h1 h2 e)
  refine ⟨{ L with ok := fun a => ?_ }, fun a o h1 h2 e => ?_⟩
  · have q := L.ok a
    cases e4 : G a with
    | free => trivial
    | fro o => rw [e4] at q; exact cp (by rw [e4]; exact Cell.noConfusion) (by rw [e4]; exact fun _ => Cell.noConfusion) q
    | hid o => rw [e4] at q; exact cp (by rw [e4]; exact Cell.noConfusion) (by rw [e4]; exact fun _ => Cell.noConfusion) q
    | frm m => rw [e4] at q; exact u.ns q
    | own o =>
      have n1 : G a ≠ .free := by rw [e4]; exact Cell.noConfusion
      have n2 : ∀ m, G a ≠ .frm m := by rw [e4]; exact fun _ => Cell.noConfusion
      rw [e4] at q
      cases o with
      | list vs => revert q; refine yEEA fun ws n e r => ?_; exact ⟨ws, n, cp n1 n2 e, r⟩
      | inst C2 ks2 vs2 => revert q; refine yEEEAAA fun d2 es2 n2' f1 f2 f3 r => ?_; exact ⟨d2, es2, n2', cp n1 n2 f1, cp (by rw [f3]; exact Cell.noConfusion) (by rw [f3]; exact fun _ => Cell.noConfusion) f2, f3, r⟩
      | dictS ks vs => revert q; refine yEEA fun o kvs e r => ?_; exact ⟨o, kvs, cp n1 n2 e, r⟩
      | dictI ks vs => revert q; refine yEEA fun o kvs e r => ?_; exact ⟨o, kvs, cp n1 n2 e, r⟩
    | sub b =>
      have n1 : G a ≠ .free := by rw [e4]; exact Cell.noConfusion
      have n2 : ∀ m, G a ≠ .frm m := by rw [e4]; exact fun _ => Cell.noConfusion
      rw [e4] at q; obtain ⟨o, e⟩ := q; exact ⟨o, cp n1 n2 e⟩
  · obtain ⟨o1, e1⟩ := (L.ok a).there h1
    have e2 := cov a o1 h1 h2 e1
    have := st _ _ e2
    rw [e] at this; cases this
    exact e2
theorem exc_note {M : Model} {E : Value → Shared → Prop} {ea : Addr} {md : Md} (hA : c.A.frames = some c.envs) (ht : ∃ r, c.envs = c.env :: r) (x : ExcSt z c m Φ σ ea md s) {Q : Unit → Shared → Prop}
    (hQ : ∀ h', ExcSt z c m Φ σ ea .held { s with heap := h' } → Q () { s with heap := h' }) : wpAny M c.A (noteFrame (.ref ea) c.env) Q E s := by
  obtain ⟨outer, ht⟩ := ht
  refine xEEEEAAAA (x.ex) fun G B a0 f hf L hB cov ok => ?_
  rw [ht] at hA ok
  have fin : ∀ h', Heap.HeldW B (c.env :: outer) ea (.ref z.trouble) a0 f h' → s.heap.UpToSlots h' → Q () { s with heap := h' } := fun h' k1 k2 => by
    obtain ⟨L', cov'⟩ := L.slots cov k1.1 k2
    exact hQ h' ⟨x.gens, x.drawn, x.os, G, B, a0, f, hf, L', hB, cov', by rw [ht]; exact k1⟩
  cases md with
  | made =>
    revert ok; refine yAAAEEAAAA fun k1 k2 k3 oe vs he hc hd h0 h1 => ?_
    unfold noteFrame
    simp only [hf]
    refine wpAny_bind (wpAny_field he hd h1 ?_)
    rw [if_neg (by decide)]
    refine wpAny_entryW hA k3 hf he k1 k2 hd (Array.getElem?_eq_some_iff.mp h1).1 h0 fun h' hN => ?_
    revert hN; refine yAAA fun j1 j2 j3 j4 => ?_
    rw [← hc] at fin
    exact fin h' ⟨j1, k2, j2, j3⟩ j4
  | fly => exact wpAny_looks_onW hA hf ok fin
  | held => exact wpAny_noteFrame_againW hf ok.2.2.2 (fin s.heap ok (Heap.UpToSlots.refl _))
theorem exc_leave {M : Model} {E : Value → Shared → Prop} {ea : Addr} {md : Md} (hA : c'.A.frames = some c'.envs) (ht : c'.envs = c'.env :: c.envs) (x : ExcSt z c' m' Φ σ ea md s) (e2 : c'.outs = (c.L, m) :: c.outs) (e3 : ∀ p ∈ c.H, p ∈ c'.H)
    (ef : ∃ f, c.env.frame = some f) {Q : Unit → Shared → Prop}
    (hQ : ∀ h', ExcSt z c m Φ σ ea .fly { s with heap := h' } → Q () { s with heap := h' }) : wpAny M c'.A (leaving c'.env (.ref ea)) Q E s := by
  unfold leaving
  refine wpAny_bind (exc_note hA ⟨_, ht⟩ x fun h₁ x₁ => ?_)
  refine xEEEEAAAA (x₁.ex) fun G B a0 f hf L hB cov ok => ?_
  refine wpAny_landsW ok fun h₂ k1 k2 => ?_
  obtain ⟨L', cov'⟩ := L.slots cov k1.1 k2
  obtain ⟨f', hf'⟩ := ef
  refine hQ h₂ ⟨x.gens, x.drawn, x.os, G, B, a0, f', hf', L'.back e2 e3, hB, cov', ?_⟩
  rw [ht] at k1
  revert k1; refine yAAA fun j1 j2 u1 j4 => ?_; obtain ⟨_, _, j3⟩ := u1
  exact ⟨j1, j2, j3, j4⟩
theorem exc_camebackBy {M : Model} {E : Value → Shared → Prop} {ea : Addr} (x : ExcSt z c m Φ σ ea .held s) (hQ : ∀ h', ExcSt z c m Φ σ ea .held { s with heap := h' } → E (.ref ea) { s with heap := h' }) : cameBackBy M c.A c.env E (.ref ea) s := by
  refine xEEEEAAAA (x.ex) fun G B a0 f hf L hB cov ok => ?_
  revert ok; refine yAAAEEEEEAAAAAAAA fun k1 k2 k3 oe vs T oT ts he hc hd h1 hnT hTe hT hdT h3 => ?_
  unfold cameBackBy
  refine wpAny_bind (wpAny_field he hd h1 ?_)
  rw [if_neg (by simp)]
  show wpAny _ _ (setFlight _ _) _ _ _
  unfold setFlight
  refine wpAny_bind (wpAny_field he hd h1 ?_)
  rw [if_pos (show (Value.ref T != Value.none) = true from by simp)]
  refine wpAny_setField hT hdT (Array.getElem?_eq_some_iff.mp h3).1 ?_
  have other : ∀ b, b ≠ T → (s.heap.update T (Obj.mapFields (·.setIfInBounds 3 (c.env.frame.elim Value.none fun f => rawInt f)))).get? b = s.heap.get? b := fun b hb => Heap.get?_update_other _ _ (Ne.symm hb)
  have noRecord : ∀ b o, s.heap.get? b = some o → (∀ vs, o.data ≠ .fields vs) → b ≠ T := fun b o hb hnf q => by
    rw [q, hT] at hb; injection hb with hb; subst hb; exact hnf ts hdT
  have st : B.StaysIn (s.heap.update T (Obj.mapFields (·.setIfInBounds 3 (c.env.frame.elim Value.none fun f => rawInt f)))) := fun b o hbo => (other b fun q => by rw [q, hnT] at hbo; cases hbo).trans (k1 b o hbo)
  have u : s.heap.UpToSlots (s.heap.update T (Obj.mapFields (·.setIfInBounds 3 (c.env.frame.elim Value.none fun f => rawInt f)))) := fun b o hb hn => ⟨o.slots, (other b (noRecord b o hb hn)).trans hb⟩
  obtain ⟨L', cov'⟩ := L.slots cov st u
  refine hQ _ ⟨x.gens, x.drawn, x.os, G, B, a0, f, hf, L', hB, cov', st, k2, k3.of_keeps fun b o hb hnf => ⟨o, (other b (noRecord b o hb hnf)).trans hb, rfl⟩, ?_⟩
  exact ⟨oe, vs, T, _, _, (other ea (Ne.symm hTe)).trans he, hc, hd, h1, hnT, hTe, Heap.get?_update_self _ hT (Obj.isFreed_of_fields (Obj.data_mapFields hdT _)), Obj.data_mapFields hdT _, by
    have := (Array.getElem?_eq_some_iff.mp h3).1
    simp [this, hf]⟩
end
noncomputable def OKE (z : Z) (c : Cx) (m : Str → Option Value) (Φ : Fz) (Q : V → AH → Prop) (v : Value) (s : Shared) : Prop := ∃ Φ' v' σ', Φ.le Φ' ∧ Rv z.K Φ' v' v ∧ Inv z c m Φ' σ' s ∧ Q v' σ'
noncomputable def ERR (z : Z) (c : Cx) (Φ : Fz) (X : AH → Prop) (e : Value) (s : Shared) : Prop := ∃ Φ' σ' m' ea md, e = .ref ea ∧ Φ.le Φ' ∧ ExcSt z c m' Φ' σ' ea md s ∧ X σ'
noncomputable def RETV (z : Z) (c : Cx) (Φ : Fz) (Q : V → AH → Prop) (v : Value) (s : Shared) : Prop := ∃ Φ' v' σ' m', Φ.le Φ' ∧ Rv z.K Φ' v' v ∧ Inv z c m' Φ' σ' s ∧ Q v' σ'
noncomputable def RES (z : Z) (c : Cx) (m : Str → Option Value) (Φ : Fz) (Q : V → AH → Prop) (X : AH → Prop) (r : Result) (s : Shared) : Prop := match r with
  | .ok (.ret v) => OKE z c m Φ Q v s
  | .ok _ => False
  | .error e => ∃ Φ' σ' ea, e = .ref ea ∧ Φ.le Φ' ∧ ExcSt z c m Φ' σ' ea .fly s ∧ X σ'
noncomputable def Cx.Fun (c : Cx) : Prop := (∃ r, c.envs = c.env :: r)
noncomputable def SemCall (z : Z) (n : Nat) (f : Addr) (args : List V) (σ : AH) (Q : V → AH → Prop) (X : AH → Prop) : Prop :=
  ∀ (c : Cx), c.Ok z n → ∀ (s : Shared) (m : Str → Option Value) (Φ : Fz) (vals : List Value), Rvs z.K Φ args vals → Inv z c m Φ σ s →
    codeAny (model z.prog z.w) c.A (.call (.ref f) ⟨vals, []⟩) (RES z c m Φ Q X) s
theorem OKE.mono {z : Z} {c : Cx} {m : Str → Option Value} {Φ Φ₀ : Fz} {Q Q' : V → AH → Prop} {v : Value} {s : Shared} (x : OKE z c m Φ Q v s) (l : Φ₀.le Φ) (q : ∀ v σ, Q v σ → Q' v σ) : OKE z c m Φ₀ Q' v s :=
  let ⟨Φ', v', σ', a, b, d, e⟩ := x; ⟨Φ', v', σ', l.trans a, b, d, q _ _ e⟩
theorem ERR.mono {z : Z} {c : Cx} {Φ Φ₀ : Fz} {X X' : AH → Prop} {e : Value} {s : Shared} (x : ERR z c Φ X e s) (l : Φ₀.le Φ) (q : ∀ σ, X σ → X' σ) : ERR z c Φ₀ X' e s :=
  let ⟨Φ', σ', m', ea, md, a, b, d, y⟩ := x; ⟨Φ', σ', m', ea, md, a, l.trans b, d, q _ y⟩
theorem SemCall.mono {z : Z} {n : Nat} {f : Addr} {args : List V} {σ : AH} {Q Q' : V → AH → Prop} {X X' : AH → Prop} (x : SemCall z n f args σ Q X) (hq : ∀ v σ, Q v σ → Q' v σ) (hx : ∀ σ, X σ → X' σ) :
    SemCall z n f args σ Q' X' := fun c o s m Φ vals ha hi => codeAny_mono (x c o s m Φ vals ha hi) fun r s' h => by
  cases r with
  | ok f => cases f with
    | ret v => exact OKE.mono h (Fz.le.refl _) hq
    | _ => exact h
  | error e => revert h; refine yEEEAAA fun Φ' σ' ea a b d y => ?_; exact ⟨Φ', σ', ea, a, b, d, hx _ y⟩
noncomputable def Cx.call (c : Cx) (m : Str → Option Value) (env : Env) (H : List (Addr × Obj)) : Cx := ⟨env, c.A.deeper env, env :: c.envs, (c.L, m) :: c.outs, H ++ c.H⟩
theorem Cx.Ok.call {z : Z} {n : Nat} {c : Cx} {m : Str → Option Value} {env : Env} {H : List (Addr × Obj)} (o : c.Ok z (n + 1)) (h1 : env.scope.kind = .function) (h2 : env.frame = some env.locals) (h3 : env.globals = mainGlobals) (h4 : env.builtins = builtinsNs)
    (hne : ∀ a ∈ c.L :: c.outs.map (·.1), a ≠ env.locals) (habv : z.h₀.objs.size ≤ env.locals) : (c.call m env H).Ok z n where
  hA := Around.frames_deeper o.hA
  fr := fun e he => by
    rcases List.mem_cons.mp he with rfl | he
    · exact ⟨h1, _, h2, .inl rfl⟩
    · refine xAEA (o.fr e he) fun a1 a a2 a3 => ?_
      refine ⟨a1, a, a2, .inr ?_⟩
      show a ∈ c.L :: c.outs.map (·.1)
      rcases a3 with rfl | a3
      · exact .head _
      · exact .tail _ a3
  ne := fun p hp => hne p.1 (List.mem_map_of_mem (f := (·.1)) hp)
  abv := habv
  hd := o.hd
  depth := by have := o.depth; show c.A.depth + 1 + 3 * n + 20 ≤ 1000; omega
  units := by have := o.units; show c.A.units + 3 + 12 * n + 200 ≤ 9900; omega
  ek := h1
  eg := h3
  eb := h4
  ef := ⟨_, h2, .inl rfl⟩
  top := ⟨env, c.envs, rfl, rfl⟩
end Mine
end
noncomputable section
set_option genCtorIdx false
set_option genSizeOf false
set_option genInjectivity false
namespace Mine
set_option genCtorIdx true in
inductive Kind | own (C : Addr) | int | str | tup
set_option genCtorIdx true in
inductive Cmp | eq | ne | lt | le | gt | is | isNot | isin | notIn
mutual
inductive IE
  | loc (i : Nat)
  | val (v : V)
  | attr (e : IE) (k : Nat)
  | call (f : Addr) (as : IL)
  | new (C fi : Addr) (as : IL)
  | meth (e : IE) (k : Nat) (as : IL)
  | append (e a : IE)
  | pop (e : IE)
  | popAt (e a : IE)
  | insert (e a b : IE)
  | dget (e a : IE)
  | isinst (e : IE) (c : Kind)
  | len (e : IE)
  | abs (e : IE)
  | toInt (e : IE)
  | copy (e : IE)
  | cmp (op : Cmp) (a b : IE)
  | cmp2 (a : IE) (op : Cmp) (b : IE) (op' : Cmp) (c : IE)
  | and (a b : IE)
  | or (a b : IE)
  | not (a : IE)
  | add (a b : IE)
  | sub (a b : IE)
  | mul (a b : IE)
  | mod (a b : IE)
  | ite (c a b : IE)
  | idx (e i : IE)
  | words (a : Addr) (i : IE)
  | from (e lo : IE)
  | upto (e hi : IE)
  | part (e lo hi : IE)
  | back (e : IE)
  | tup (as : IL)
  | lst (as : IL)
  | dict0 (s : Bool)
  | comp (elt : IE) (tgt : Nat) (it : IT)
  | comp2 (elt : IE) (t1 t2 : Nat) (a b : IE)
  | frz (e : IE)
  | stop
inductive IL
  | nil
  | cons (e : IE) (r : IL)
inductive IT
  | seq (e : IE)
  | range1 (hi : IE)
  | down (lo : IE)
end
mutual
inductive IS
  | expr (e : IE)
  | set (i : Nat) (e : IE)
  | setAttr (o : IE) (k : Nat) (e : IE)
  | setSub (o i e : IE)
  | unpack (rev : Bool) (is : List Nat) (e : IE)
  | ifs (c : IE) (t e : IB)
  | whiles (c : IE) (b : IB)
  | fors (tgt : Nat) (it : IT) (b : IB)
  | forEnum (t1 t2 : Nat) (e : IE) (b : IB)
  | ret (e : IE)
  | ret0
  | raise (as : IL)
  | tryT (e : IE) (v : Bool)
  | stop
inductive IB
  | nil
  | cons (s : IS) (r : IB)
end
abbrev Ls := List (Option V)
noncomputable def findK : List Nat → List V → Nat → Option V
  | k :: ks, v :: vs, i => if k = i then some v else findK ks vs i
  | _, _, _ => none
noncomputable def findI : List Int → List V → Int → Option V
  | k :: ks, v :: vs, i => if k = i then some v else findI ks vs i
  | _, _, _ => none
noncomputable def putK (ks : List Nat) (i : Nat) : List Nat := if i ∈ ks then ks else ks ++ [i]
noncomputable def putV : List Nat → List V → Nat → V → List V
  | k :: ks, u :: vs, i, v => if k = i then v :: vs else u :: putV ks vs i v
  | _, vs, _, v => vs ++ [v]
noncomputable def methTab : List (Addr × Nat × Addr) := [(128, 49, 90), (128, 59, 97), (128, 62, 111), (413, 60, 375), (413, 61, 389), (413, 62, 396), (677, 59, 618), (677, 49, 625)]
noncomputable def methOf (C : Addr) (k : Nat) : Option Addr := (methTab.find? fun p => p.1 == C && p.2.1 == k).map fun p => p.2.2
noncomputable def attrOf (σ : AH) : V → Nat → Option V
  | .obj C ks vs, k => if (methOf C k).isSome then none else findK ks vs k
  | .ref a, k => match σ a with
    | some (.inst C ks vs) => if (methOf C k).isSome then none else findK ks vs k
    | _ => none
  | _, _ => none
noncomputable def methAt (σ : AH) : V → Nat → Option Addr
  | .obj C ks _, k => if k ∈ ks then none else methOf C k
  | .ref a, k => match σ a with
    | some (.inst C ks _) => if k ∈ ks then none else methOf C k
    | _ => none
  | _, _ => none
noncomputable def listAt (σ : AH) : V → Option (List V)
  | .lst vs => some vs
  | .ref a => match σ a with
    | some (.list vs) => some vs
    | _ => none
  | _ => none
noncomputable def isL (σ : AH) : V → Bool
  | .ref a => match σ a with
    | some (.list _) => true
    | _ => false
  | _ => false
noncomputable def isD (σ : AH) : V → Bool
  | .ref a => match σ a with
    | some (.dictS _ _) => true
    | some (.dictI _ _) => true
    | _ => false
  | _ => false
noncomputable def seqAt (σ : AH) : V → Option (List V)
  | .tup vs => some vs
  | v => listAt σ v
set_option genCtorIdx true
inductive Knd | none | bool | int | str | tup | lst
  deriving DecidableEq
set_option genCtorIdx false
noncomputable def V.knd : V → Option Knd
  | .none => some .none
  | .bool _ => some .bool
  | .int _ => some .int
  | .str _ => some .str
  | .tup _ => some .tup
  | .lst _ => some .lst
  | _ => Option.none
noncomputable def eqL (e : V → V → Option Bool) : List V → List V → Option Bool
  | [], [] => some true
  | [], _ :: _ => some false
  | _ :: _, [] => some false
  | a :: l, b :: r => match e a b, eqL e l r with
    | some x, some y => some (x && y)
    | _, _ => none
noncomputable def eqA : V → V → Option Bool
  | .none, .none => some true
  | .int i, .int j => some (i == j)
  | .str i, .str j => some (i == j)
  | .bool i, .bool j => some (i == j)
  | a, b => match a.knd, b.knd with
    | some .bool, _ => none
    | _, some .bool => none
    | some k, some k' => if k = k' then none else some false
    | _, _ => none
noncomputable def eqD : Nat → V → V → Option Bool
  | f + 1, .tup l, .tup r => eqL (eqD f) l r
  | f + 1, .lst l, .lst r => eqL (eqD f) l r
  | _, a, b => eqA a b
noncomputable def shut (σ : AH) : V → V
  | .ref a => match σ a with
    | some (.list vs) => .lst vs
    | _ => .ref a
  | v => v
noncomputable def chain (C : Addr) : V → Option Nat
  | .obj D _ vs => if D = C then (match vs with
    | [_, d] => (chain C d).map (· + 1)
    | _ => none) else none
  | .int _ => some 0
  | .none => some 0
  | .str _ => some 0
  | .stat _ => some 0
  | _ => none
noncomputable def isV (pairC : Addr) : V → V → Option Bool
  | .none, .none => some true
  | .stat a, .stat b => some (a == b)
  | .obj _ _ _, .stat _ => some false
  | .int _, .stat _ => some false
  | .stat _, .obj _ _ _ => some false
  | .int _, .obj _ _ _ => some false
  | .obj C ks vs, .obj D ks' vs' => match chain pairC (.obj C ks vs), chain pairC (.obj D ks' vs') with
    | some n, some k => if n = k then none else some false
    | _, _ => none
  | .none, _ => none
  | _, .none => some false
  | _, _ => none
noncomputable def V.plainV : V → Bool
  | .int _ => true
  | .str _ => true
  | _ => false
noncomputable def anyEq (v : V) : List V → Option Bool
  | [] => some false
  | u :: r => match eqA u v, anyEq v r with
    | some x, some y => some (x || y)
    | _, _ => none
noncomputable def isinstV (σ : AH) (K : Kind) : V → Option Bool
  | .int _ => some (match K with | .int => true | _ => false)
  | .str _ => some (match K with | .str => true | _ => false)
  | .tup _ => some (match K with | .tup => true | _ => false)
  | .none => some false
  | .obj C _ _ => some (match K with | .own D => C == D | _ => false)
  | .ref a => match σ a with
    | some (.inst C _ _) => some (match K with | .own D => C == D | _ => false)
    | _ => none
  | .stat _ => some false
  | _ => none
noncomputable def intF (f : Int → Int → Bool) : V → V → Option Bool
  | .int i, .int j => some (f i j)
  | _, _ => none
noncomputable def inF (a : V) : V → Option Bool
  | .tup l => if a.plainV then anyEq a l else none
  | .lst l => if a.plainV then anyEq a l else none
  | _ => none
noncomputable def cmpV (pairC : Addr) (σ : AH) (op : Cmp) (a b : V) : Option Bool := match op with
  | .eq => eqD 50 (shut σ a) (shut σ b)
  | .ne => (eqD 50 (shut σ a) (shut σ b)).map (!·)
  | .lt => intF (fun i j => decide (i < j)) a b
  | .le => intF (fun i j => decide (i ≤ j)) a b
  | .gt => intF (fun i j => decide (i > j)) a b
  | .is => isV pairC a b
  | .isNot => (isV pairC a b).map (!·)
  | .isin => inF a b
  | .notIn => (inF a b).map (!·)
theorem intF_some {f : Int → Int → Bool} {a b : V} {k : Bool} (e : intF f a b = some k) : ∃ i j, a = .int i ∧ b = .int j ∧ f i j = k := by
  cases a with
  | int i => cases b with
    | int j => exact ⟨i, j, rfl, rfl, Option.some.inj e⟩
    | _ => cases e
  | _ => cases e
theorem inF_some {a b : V} {k : Bool} (e : inF a b = some k) : ∃ l, (b = .tup l ∨ b = .lst l) ∧ a.plainV = true ∧ anyEq a l = some k := by
  have key : ∀ l, (if a.plainV = true then anyEq a l else none) = some k → a.plainV = true ∧ anyEq a l = some k := fun l h => by
    cases hp : a.plainV with
    | true => rw [if_pos hp] at h; exact ⟨rfl, h⟩
    | false => rw [if_neg (fun q => by rw [hp] at q; cases q)] at h; cases h
  cases b with
  | tup l => exact ⟨l, .inl rfl, key l e⟩
  | lst l => exact ⟨l, .inr rfl, key l e⟩
  | _ => cases e
noncomputable def itemAt (vs : List V) (i : Int) : Option V := if 0 ≤ i then vs[i.toNat]? else if 0 ≤ i + vs.length then vs[(i + vs.length).toNat]? else none
noncomputable def newL (Q : V → AH → Prop) (vs : List V) (σ : AH) : Prop := vs.length ≤ 1000000 ∧ ∀ a, σ a = none → Q (.ref a) (σ.set a (some (.list vs)))
@[irreducible] noncomputable def frzQ (Q : V → AH → Prop) : V → AH → Prop
  | .ref a, σ => match σ a with
    | some (.list vs) => Q (.lst vs) (σ.set a none)
    | some (.inst C ks vs) => Q (.obj C ks vs) (σ.set a none)
    | _ => Q (.ref a) σ
  | v, σ => Q v σ
noncomputable def compN (f : V → (V → AH → Prop) → AH → Prop) (Q : List V → AH → Prop) : List V → List V → AH → Prop
  | [], acc, σ => Q acc σ
  | v :: r, acc, σ => f v (fun u σ => compN f Q r (acc ++ [u]) σ) σ
noncomputable def zipV : List V → List V → List V
  | a :: l, b :: r => .tup [a, b] :: zipV l r
  | _, _ => []
noncomputable def forN (f : (Ls → AH → Prop) → V → Ls → AH → Prop) (N : Ls → AH → Prop) : List V → Ls → AH → Prop
  | [], ls, σ => N ls σ
  | v :: r, ls, σ => f (forN f N r) v ls σ
noncomputable def whileN (c : (Bool → AH → Prop) → Ls → AH → Prop) (b : (Ls → AH → Prop) → Ls → AH → Prop) (N : Ls → AH → Prop) : Nat → Ls → AH → Prop
  | 0, _, _ => False
  | k + 1, ls, σ => c (fun t σ => if t then b (whileN c b N k) ls σ else N ls σ) ls σ
noncomputable def upV (i : Nat) (n : Nat) : List V := (List.range n).map fun (k : Nat) => V.int ((i + k : Nat) : Int)
noncomputable def downV : Nat → List V
  | 0 => []
  | n + 1 => .int n :: downV n
noncomputable def enumV : Nat → List V → List V
  | _, [] => []
  | i, v :: r => .tup [.int i, v] :: enumV (i + 1) r
noncomputable def setMany (ls : Ls) (l : List (Nat × V)) : Ls := l.foldl (fun ls p => ls.set p.1 (some p.2)) ls
noncomputable def tupU (is : List Nat) : V → Option (List (Nat × V))
  | .tup vs => if vs.length = is.length then some (is.zip vs) else none
  | _ => none
noncomputable def tupR (is : List Nat) : V → Option (List (Nat × V))
  | .tup vs => if vs.length = is.length then some (is.reverse.zip vs.reverse) else none
  | _ => none
structure Pg where
  pairC : Addr
  words : Addr → List V
mutual
noncomputable def WE (z : Z) (g : Pg) (n : Nat) : IE → (AH → Prop) → Ls → (V → AH → Prop) → AH → Prop
  | .loc i, _, ls, Q, σ => match ls[i]? with
    | some (some v) => Q v σ
    | _ => False
  | .val v, _, _, Q, σ => Q v σ
  | .attr e k, X, ls, Q, σ => WE z g n e X ls (fun v σ => match attrOf σ v k with
    | some u => Q u σ
    | none => False) σ
  | .call f as, X, ls, Q, σ => WL z g n as X ls (fun vs σ => SemCall z n f vs σ Q X) σ
  | .new C fi as, X, ls, Q, σ => WL z g n as X ls (fun vs σ => 1 ≤ n ∧ ∀ a, σ a = none → SemCall z (n - 1) fi (.ref a :: vs) (σ.set a (some (.inst C [] []))) (fun v σ => v = .none ∧ Q (.ref a) σ) X) σ
  | .meth e k as, X, ls, Q, σ => WE z g n e X ls (fun v σ => match methAt σ v k with
    | some f => WL z g n as X ls (fun vs σ => SemCall z n f (v :: vs) σ Q X) σ
    | none => False) σ
  | .append e a, X, ls, Q, σ => WE z g n e X ls (fun v σ => isL σ v = true ∧ WE z g n a X ls (fun u σ => match v with
    | .ref b => match σ b with
      | some (.list vs) => vs.length < 1000000 ∧ Q .none (σ.set b (some (.list (vs ++ [u]))))
      | _ => False
    | _ => False) σ) σ
  | .pop e, X, ls, Q, σ => WE z g n e X ls (fun v σ => match v with
    | .ref b => match σ b with
      | some (.list vs) => match vs.getLast? with
        | some u => Q u (σ.set b (some (.list vs.dropLast)))
        | none => False
      | _ => False
    | _ => False) σ
  | .popAt e a, X, ls, Q, σ => WE z g n e X ls (fun v σ => isL σ v = true ∧ WE z g n a X ls (fun u σ => match v, u with
    | .ref b, .int i => match σ b with
      | some (.list vs) => match vs[i.toNat]? with
        | some u => 0 ≤ i ∧ Q u (σ.set b (some (.list (vs.eraseIdx i.toNat))))
        | none => False
      | _ => False
    | _, _ => False) σ) σ
  | .insert e a b, X, ls, Q, σ => WE z g n e X ls (fun v σ => isL σ v = true ∧ WE z g n a X ls (fun u σ => WE z g n b X ls (fun w σ => match v, u with
    | .ref b, .int i => match σ b with
      | some (.list vs) => 0 ≤ i ∧ i ≤ vs.length ∧ vs.length < 1000000 ∧ Q .none (σ.set b (some (.list (vs.take i.toNat ++ w :: vs.drop i.toNat))))
      | _ => False
    | _, _ => False) σ) σ) σ
  | .dget e a, X, ls, Q, σ => WE z g n e X ls (fun v σ => isD σ v = true ∧ WE z g n a X ls (fun u σ => match v with
    | .ref b => match σ b, u with
      | some (.dictS ks vs), .str k => Q ((findK ks vs k).getD .none) σ
      | some (.dictI ks vs), .int k => Q ((findI ks vs k).getD .none) σ
      | _, _ => False
    | _ => False) σ) σ
  | .isinst e c, X, ls, Q, σ => WE z g n e X ls (fun v σ => match isinstV σ c v with
    | some b => Q (.bool b) σ
    | none => False) σ
  | .len e, X, ls, Q, σ => WE z g n e X ls (fun v σ => match listAt σ v with
    | some vs => Q (.int vs.length) σ
    | none => False) σ
  | .abs e, X, ls, Q, σ => WE z g n e X ls (fun v σ => match v with
    | .int i => Q (.int i.natAbs) σ
    | _ => False) σ
  | .toInt e, X, ls, Q, σ => WE z g n e X ls (fun v σ => match v with
    | .bool b => Q (.int (if b then 1 else 0)) σ
    | _ => False) σ
  | .copy e, X, ls, Q, σ => WE z g n e X ls (fun v σ => match listAt σ v with
    | some vs => newL Q vs σ
    | none => False) σ
  | .cmp op a b, X, ls, Q, σ => WE z g n a X ls (fun u σ => WE z g n b X ls (fun v σ => match cmpV g.pairC σ op u v with
    | some t => Q (.bool t) σ
    | none => False) σ) σ
  | .cmp2 a op b op' c, X, ls, Q, σ => WE z g n a X ls (fun u σ => WE z g n b X ls (fun v σ => match cmpV g.pairC σ op u v with
    | some true => WE z g n c X ls (fun w σ => match cmpV g.pairC σ op' v w with
      | some t => Q (.bool t) σ
      | none => False) σ
    | some false => Q (.bool false) σ
    | none => False) σ) σ
  | .and a b, X, ls, Q, σ => WE z g n a X ls (fun v σ => match v with
    | .bool true => WE z g n b X ls (fun u σ => match u with
      | .bool t => Q (.bool t) σ
      | _ => False) σ
    | .bool false => Q (.bool false) σ
    | _ => False) σ
  | .or a b, X, ls, Q, σ => WE z g n a X ls (fun v σ => match v with
    | .bool true => Q (.bool true) σ
    | .bool false => WE z g n b X ls (fun u σ => match u with
      | .bool t => Q (.bool t) σ
      | _ => False) σ
    | _ => False) σ
  | .not a, X, ls, Q, σ => WE z g n a X ls (fun v σ => match v with
    | .bool t => Q (.bool (!t)) σ
    | _ => False) σ
  | .add a b, X, ls, Q, σ => WE z g n a X ls (fun u σ => WE z g n b X ls (fun v σ => match u, v with
    | .int i, .int j => Q (.int (i + j)) σ
    | u, v => match listAt σ u, listAt σ v with
      | some us, some vs => newL Q (us ++ vs) σ
      | _, _ => False) σ) σ
  | .sub a b, X, ls, Q, σ => WE z g n a X ls (fun u σ => WE z g n b X ls (fun v σ => match u, v with
    | .int i, .int j => Q (.int (i - j)) σ
    | _, _ => False) σ) σ
  | .mul a b, X, ls, Q, σ => WE z g n a X ls (fun u σ => WE z g n b X ls (fun v σ => match u, v with
    | .int i, .int j => i.natAbs ≤ 1000000 ∧ j.natAbs ≤ 1000000 ∧ Q (.int (i * j)) σ
    | u, .int j => match listAt σ u with
      | some [w] => 0 ≤ j ∧ j ≤ 1000 ∧ newL Q (List.replicate j.toNat w) σ
      | _ => False
    | _, _ => False) σ) σ
  | .mod a b, X, ls, Q, σ => WE z g n a X ls (fun u σ => WE z g n b X ls (fun v σ => match u, v with
    | .int i, .int j => 0 < j ∧ Q (.int (i.fmod j)) σ
    | _, _ => False) σ) σ
  | .ite c a b, X, ls, Q, σ => WE z g n c X ls (fun v σ => match v with
    | .bool true => WE z g n a X ls Q σ
    | .bool false => WE z g n b X ls Q σ
    | _ => False) σ
  | .idx e i, X, ls, Q, σ => WE z g n e X ls (fun v σ => WE z g n i X ls (fun u σ => match seqAt σ v, u with
    | some vs, .int k => match itemAt vs k with
      | some w => Q w σ
      | none => False
    | _, _ => False) σ) σ
  | .words a i, X, ls, Q, σ => WE z g n i X ls (fun u σ => match u with
    | .int k => match (g.words a)[k.toNat]? with
      | some w => 0 ≤ k ∧ Q w σ
      | none => False
    | _ => False) σ
  | .from e lo, X, ls, Q, σ => WE z g n e X ls (fun v σ => WE z g n lo X ls (fun u σ => match listAt σ v, u with
    | some vs, .int k => 0 ≤ k ∧ k ≤ 1000000 ∧ newL Q (vs.drop k.toNat) σ
    | _, _ => False) σ) σ
  | .upto e hi, X, ls, Q, σ => WE z g n e X ls (fun v σ => WE z g n hi X ls (fun u σ => match listAt σ v, u with
    | some vs, .int k => 0 ≤ k ∧ k ≤ 1000000 ∧ newL Q (vs.take k.toNat) σ
    | _, _ => False) σ) σ
  | .part e lo hi, X, ls, Q, σ => WE z g n e X ls (fun v σ => WE z g n lo X ls (fun u σ => WE z g n hi X ls (fun w σ => match listAt σ v, u, w with
    | some vs, .int k, .int l => 0 ≤ k ∧ k ≤ l ∧ l ≤ 1000000 ∧ newL Q ((vs.take l.toNat).drop k.toNat) σ
    | _, _, _ => False) σ) σ) σ
  | .back e, X, ls, Q, σ => WE z g n e X ls (fun v σ => match listAt σ v with
    | some vs => newL Q vs.dropLast.reverse σ
    | _ => False) σ
  | .tup as, X, ls, Q, σ => WL z g n as X ls (fun vs σ => Q (.tup vs) σ) σ
  | .lst as, X, ls, Q, σ => WL z g n as X ls (fun vs σ => ∀ a, σ a = none → Q (.ref a) (σ.set a (some (.list vs)))) σ
  | .dict0 t, _, _, Q, σ => ∀ a, σ a = none → Q (.ref a) (σ.set a (some (if t then .dictS [] [] else .dictI [] [])))
  | .comp elt tgt it, X, ls, Q, σ => WI z g n it X ls (fun items σ => compN (fun v Q σ => WE z g n elt (fun _ => False) (setMany ls [(tgt, v)]) Q σ) (newL Q) items [] σ) σ
  | .comp2 elt t1 t2 a b, X, ls, Q, σ => WE z g n a X ls (fun u σ => WE z g n b X ls (fun v σ => match u, v with
    | .lst us, .lst vs => compN (fun v Q σ => match tupU [t1, t2] v with
      | some l => WE z g n elt (fun _ => False) (setMany ls l) Q σ
      | none => False) (newL Q) (zipV us vs) [] σ
    | _, _ => False) σ) σ
  | .frz e, X, ls, Q, σ => WE z g n e X ls (frzQ Q) σ
  | .stop, _, _, _, _ => False
noncomputable def WL (z : Z) (g : Pg) (n : Nat) : IL → (AH → Prop) → Ls → (List V → AH → Prop) → AH → Prop
  | .nil, _, _, Q, σ => Q [] σ
  | .cons e r, X, ls, Q, σ => WE z g n e X ls (fun v σ => WL z g n r X ls (fun vs σ => Q (v :: vs) σ) σ) σ
noncomputable def WI (z : Z) (g : Pg) (n : Nat) : IT → (AH → Prop) → Ls → (List V → AH → Prop) → AH → Prop
  | .seq e, X, ls, Q, σ => WE z g n e X ls (fun v σ => match v with
    | .lst vs => Q vs σ
    | _ => False) σ
  | .range1 a, X, ls, Q, σ => WE z g n a X ls (fun u σ => match u with
    | .int i => 0 ≤ i ∧ i ≤ 1000000 ∧ Q (upV 0 i.toNat) σ
    | _ => False) σ
  | .down a, X, ls, Q, σ => WE z g n a X ls (fun u σ => match u with
    | .int i => -1 ≤ i ∧ i ≤ 1000000 ∧ Q (downV (i + 1).toNat) σ
    | _ => False) σ
end
mutual
noncomputable def WS (z : Z) (g : Pg) (n : Nat) : IS → (AH → Prop) → (V → AH → Prop) → (Ls → AH → Prop) → Ls → AH → Prop
  | .expr e, X, _, N, ls, σ => WE z g n e X ls (fun _ σ => N ls σ) σ
  | .set i e, X, _, N, ls, σ => WE z g n e X ls (fun v σ => N (ls.set i (some v)) σ) σ
  | .setAttr o k e, X, _, N, ls, σ => WE z g n e X ls (fun v σ => WE z g n o X ls (fun u σ => match u with
    | .ref a => match σ a with
      | some (.inst C ks vs) => ks.length ≤ 20 ∧ methOf C k = none ∧ N ls (σ.set a (some (.inst C (putK ks k) (putV ks vs k v))))
      | _ => False
    | _ => False) σ) σ
  | .setSub o i e, X, _, N, ls, σ => WE z g n e X ls (fun v σ => WE z g n o X ls (fun u σ => WE z g n i X ls (fun w σ => match u with
    | .ref a => match σ a, w with
      | some (.list vs), .int k => 0 ≤ k ∧ k < vs.length ∧ N ls (σ.set a (some (.list (vs.set k.toNat v))))
      | some (.dictS ks vs), .str k => vs.length ≤ 1000 ∧ k ∉ ks ∧ N ls (σ.set a (some (.dictS (ks ++ [k]) (vs ++ [v]))))
      | some (.dictI ks vs), .int k => vs.length ≤ 1000 ∧ k ∉ ks ∧ N ls (σ.set a (some (.dictI (ks ++ [k]) (vs ++ [v]))))
      | _, _ => False
    | _ => False) σ) σ) σ
  | .unpack rev is e, X, _, N, ls, σ => WE z g n e X ls (fun v σ => match (if rev then tupR is v else tupU is v) with
    | some l => N (setMany ls l) σ
    | none => False) σ
  | .ifs c t e, X, R, N, ls, σ => WE z g n c X ls (fun v σ => match v with
    | .bool true => WB z g n t X R N ls σ
    | .bool false => WB z g n e X R N ls σ
    | _ => False) σ
  | .whiles c b, X, R, N, ls, σ => ∃ k, whileN (fun T ls σ => WE z g n c X ls (fun v σ => match v with
    | .bool t => T t σ
    | _ => False) σ) (fun N ls σ => WB z g n b X R N ls σ) N k ls σ
  | .fors tgt it b, X, R, N, ls, σ => WI z g n it X ls (fun items σ => forN (fun k v ls σ => WB z g n b X R k (setMany ls [(tgt, v)]) σ) N items ls σ) σ
  | .forEnum t1 t2 e b, X, R, N, ls, σ => WE z g n e X ls (fun v σ => match v with
    | .lst vs => forN (fun k v ls σ => match tupU [t1, t2] v with
      | some l => WB z g n b X R k (setMany ls l) σ
      | none => False) N (enumV 0 vs) ls σ
    | _ => False) σ
  | .ret e, X, R, _, ls, σ => WE z g n e X ls R σ
  | .ret0, _, R, _, _, σ => R .none σ
  | .raise as, X, _, _, ls, σ => WL z g n as X ls (fun vs σ => vs.length = 2 ∧ 3 ≤ n ∧ X σ) σ
  | .tryT e b, _, R, N, ls, σ => WE z g n e (fun σ => R (.bool b) σ) ls (fun _ σ => N ls σ) σ
  | .stop, _, _, _, _, _ => False
noncomputable def WB (z : Z) (g : Pg) (n : Nat) : IB → (AH → Prop) → (V → AH → Prop) → (Ls → AH → Prop) → Ls → AH → Prop
  | .nil, _, _, N, ls, σ => N ls σ
  | .cons s r, X, R, N, ls, σ => WS z g n s X R (fun ls σ => WB z g n r X R N ls σ) ls σ
end
end Mine
end
noncomputable section
namespace Mine
theorem a2 {a b : Bool} {C : Prop} (h : (a && b) = true) (k : a = true → b = true → C) : C := k (Bool.and_eq_true_iff.mp h).1 (Bool.and_eq_true_iff.mp h).2
theorem a3 {a b c : Bool} {C : Prop} (h : (a && b && c) = true) (k : a = true → b = true → c = true → C) : C := a2 h fun h' hl => a2 h' fun h1 h2 => k h1 h2 hl
theorem a4 {a b c d : Bool} {C : Prop} (h : (a && b && c && d) = true) (k : a = true → b = true → c = true → d = true → C) : C := a2 h fun h' hl => a3 h' fun h1 h2 h3 => k h1 h2 h3 hl
theorem a5 {a b c d e : Bool} {C : Prop} (h : (a && b && c && d && e) = true) (k : a = true → b = true → c = true → d = true → e = true → C) : C := a2 h fun h' hl => a4 h' fun h1 h2 h3 h4 => k h1 h2 h3 h4 hl
theorem a6 {a b c d e f : Bool} {C : Prop} (h : (a && b && c && d && e && f) = true) (k : a = true → b = true → c = true → d = true → e = true → f = true → C) : C := a2 h fun h' hl => a5 h' fun h1 h2 h3 h4 h5 => k h1 h2 h3 h4 h5 hl
theorem a7 {a b c d e f g : Bool} {C : Prop} (h : (a && b && c && d && e && f && g) = true) (k : a = true → b = true → c = true → d = true → e = true → f = true → g = true → C) : C := a2 h fun h' hl => a6 h' fun h1 h2 h3 h4 h5 h6 => k h1 h2 h3 h4 h5 h6 hl
theorem xA {p q C : Prop} (h : p ∧ q) (k : p → q → C) : C := k h.1 h.2
section
variable {C : Prop}
theorem eB {v : V} {F : Bool → Prop} (q : match v with
    | .bool t => F t
    | _ => False) (k : ∀ t, v = .bool t → F t → C) : C := by
  cases v with
  | bool t => exact k t rfl q
  | _ => exact q.elim
theorem eBB {v : V} {A B : Prop} (q : match v with
    | .bool true => A
    | .bool false => B
    | _ => False) (k : ∀ t : Bool, v = .bool t → (if t = true then A else B) → C) : C := by
  cases v with
  | bool t => cases t with
    | true => exact k true rfl (by rw [if_pos rfl]; exact q)
    | false => exact k false rfl (by rw [if_neg Bool.false_ne_true]; exact q)
  | _ => exact q.elim
theorem eI {v : V} {F : Int → Prop} (q : match v with
    | .int i => F i
    | _ => False) (k : ∀ i, v = .int i → F i → C) : C := by
  cases v with
  | int i => exact k i rfl q
  | _ => exact q.elim
theorem eR {v : V} {F : Addr → Prop} (q : match v with
    | .ref b => F b
    | _ => False) (k : ∀ b, v = .ref b → F b → C) : C := by
  cases v with
  | ref b => exact k b rfl q
  | _ => exact q.elim
theorem eL {v : V} {F : List V → Prop} (q : match v with
    | .lst vs => F vs
    | _ => False) (k : ∀ vs, v = .lst vs → F vs → C) : C := by
  cases v with
  | lst vs => exact k vs rfl q
  | _ => exact q.elim
theorem eO {o : Option O} {F : List V → Prop} (q : match o with
    | some (.list vs) => F vs
    | _ => False) (k : ∀ vs, o = some (.list vs) → F vs → C) : C := by
  cases o with
  | none => exact q.elim
  | some o => cases o with
    | list vs => exact k vs rfl q
    | _ => exact q.elim
theorem eS {o : Option V} {F : V → Prop} (q : match o with
    | some u => F u
    | none => False) (k : ∀ u, o = some u → F u → C) : C := by
  cases o with
  | none => exact q.elim
  | some u => exact k u rfl q
theorem eSb {o : Option Bool} {F : Bool → Prop} (q : match o with
    | some u => F u
    | none => False) (k : ∀ u, o = some u → F u → C) : C := by
  cases o with
  | none => exact q.elim
  | some u => exact k u rfl q
theorem eSa {o : Option Addr} {F : Addr → Prop} (q : match o with
    | some u => F u
    | none => False) (k : ∀ u, o = some u → F u → C) : C := by
  cases o with
  | none => exact q.elim
  | some u => exact k u rfl q
theorem eSl {o : Option (List V)} {F : List V → Prop} (q : match o with
    | some u => F u
    | none => False) (k : ∀ u, o = some u → F u → C) : C := by
  cases o with
  | none => exact q.elim
  | some u => exact k u rfl q
theorem eII {u v : V} {F : Int → Int → Prop} (q : match u, v with
    | .int i, .int j => F i j
    | _, _ => False) (k : ∀ i j, u = .int i → v = .int j → F i j → C) : C := by
  cases u with
  | int i => cases v with
    | int j => exact k i j rfl rfl q
    | _ => exact q.elim
  | _ => exact q.elim
theorem eLL {u v : V} {F : List V → List V → Prop} (q : match u, v with
    | .lst i, .lst j => F i j
    | _, _ => False) (k : ∀ i j, u = .lst i → v = .lst j → F i j → C) : C := by
  cases u with
  | lst i => cases v with
    | lst j => exact k i j rfl rfl q
    | _ => exact q.elim
  | _ => exact q.elim
theorem eP {o : Option (List V)} {u v : V} {F : List V → Int → Int → Prop} (q : match o, u, v with
    | some vs, .int i, .int j => F vs i j
    | _, _, _ => False) (k : ∀ vs i j, o = some vs → u = .int i → v = .int j → F vs i j → C) : C := by
  cases o with
  | none => exact q.elim
  | some vs => cases u with
    | int i => cases v with
      | int j => exact k vs i j rfl rfl rfl q
      | _ => exact q.elim
    | _ => exact q.elim
theorem eSub {o : Option O} {w : V} {F : List V → Int → Prop} {G : List Nat → List V → Nat → Prop} {H : List Int → List V → Int → Prop} (q : match o, w with
    | some (.list vs), .int k => F vs k
    | some (.dictS ks vs), .str k => G ks vs k
    | some (.dictI ks vs), .int k => H ks vs k
    | _, _ => False) (kF : ∀ vs k, o = some (.list vs) → w = .int k → F vs k → C) (kG : ∀ ks vs k, o = some (.dictS ks vs) → w = .str k → G ks vs k → C) (kH : ∀ ks vs k, o = some (.dictI ks vs) → w = .int k → H ks vs k → C) : C := by
  cases o with
  | none => exact q.elim
  | some o => cases o with
    | list vs => cases w with
      | int k => exact kF vs k rfl rfl q
      | _ => exact q.elim
    | dictS ks vs => cases w with
      | str k => exact kG ks vs k rfl rfl q
      | _ => exact q.elim
    | dictI ks vs => cases w with
      | int k => exact kH ks vs k rfl rfl q
      | _ => exact q.elim
    | _ => exact q.elim
theorem eIn {o : Option O} {F : Addr → List Nat → List V → Prop} (q : match o with
    | some (.inst C ks vs) => F C ks vs
    | _ => False) (k : ∀ D ks vs, o = some (.inst D ks vs) → F D ks vs → C) : C := by
  cases o with
  | none => exact q.elim
  | some o => cases o with
    | inst D ks vs => exact k D ks vs rfl q
    | _ => exact q.elim
theorem eDg {o : Option O} {u : V} {F : List Nat → List V → Nat → Prop} {G : List Int → List V → Int → Prop} (q : match o, u with
    | some (.dictS ks vs), .str k => F ks vs k
    | some (.dictI ks vs), .int k => G ks vs k
    | _, _ => False) (kF : ∀ ks vs k, o = some (.dictS ks vs) → u = .str k → F ks vs k → C) (kG : ∀ ks vs k, o = some (.dictI ks vs) → u = .int k → G ks vs k → C) : C := by
  cases o with
  | none => exact q.elim
  | some o => cases o with
    | dictS ks vs => cases u with
      | str k => exact kF ks vs k rfl rfl q
      | _ => exact q.elim
    | dictI ks vs => cases u with
      | int k => exact kG ks vs k rfl rfl q
      | _ => exact q.elim
    | _ => exact q.elim
theorem eDd {o : Option O} (q : (match o with
    | some (.dictS _ _) => true
    | some (.dictI _ _) => true
    | _ => false) = true) (kF : ∀ ks vs, o = some (.dictS ks vs) → C) (kG : ∀ ks vs, o = some (.dictI ks vs) → C) : C := by
  cases o with
  | none => exact absurd q Bool.false_ne_true
  | some o => cases o with
    | dictS ks vs => exact kF ks vs rfl
    | dictI ks vs => exact kG ks vs rfl
    | _ => exact absurd q Bool.false_ne_true
theorem eSi {o : Option (List V)} {v : V} {F : List V → Int → Prop} (q : match o, v with
    | some vs, .int k => F vs k
    | _, _ => False) (k : ∀ vs i, o = some vs → v = .int i → F vs i → C) : C := by
  cases o with
  | none => exact q.elim
  | some vs => cases v with
    | int i => exact k vs i rfl rfl q
    | _ => exact q.elim
end
end Mine
end
noncomputable section
namespace Mine
structure Fx where
  names : List Str
  kinds : List (Str × NameKind)
noncomputable def Fx.isVar (fx : Fx) (x : Str) : Bool := fx.kinds.lookup x == some .local || fx.kinds.lookup x == some .cell
noncomputable def Fx.isGlob (fx : Fx) (x : Str) : Bool := fx.kinds.lookup x == some .globalImplicit && x != ("__debug__" : Str)
noncomputable def Rd (c : Cx) (m : Str → Option Value) (x : Str) (v : Value) : Prop :=
  (c.env.kindOf x = some .local ∧ m x = some v) ∨ (c.env.kindOf x = some .cell ∧ ∃ a o, c.env.cells.lookup x = some a ∧ (a, o) ∈ c.H ∧ o.data = .cell (some v))
noncomputable def Lm (fx : Fx) (z : Z) (c : Cx) (m : Str → Option Value) (Φ : Fz) (ls : Ls) : Prop :=
  ∀ (i : Nat) (v : V) (x : Str), ls[i]? = some (some v) → fx.names[i]? = some x → fx.isVar x = true → ∃ val, Rd c m x val ∧ Rv z.K Φ v val
theorem Lm.mono {fx : Fx} {z : Z} {c : Cx} {m : Str → Option Value} {Φ Φ' : Fz} {ls : Ls} (l : Lm fx z c m Φ ls) (h : Φ.le Φ') : Lm fx z c m Φ' ls := fun i v x a b d => let ⟨val, p, q⟩ := l i v x a b d; ⟨val, p, q.mono h⟩
structure At (z : Z) (n : Nat) (c : Cx) (fx : Fx) : Prop where
  zo : z.Ok
  o : c.Ok z n
  hs : c.env.scope.names = fx.kinds
  hc : ∀ x, fx.kinds.lookup x = some .cell → ∃ a, c.env.cells.lookup x = some a
noncomputable def SE (z : Z) (c : Cx) (m : Str → Option Value) (fx : Fx) (ls : Ls) (X : AH → Prop) (x : Expr) (W : (V → AH → Prop) → AH → Prop) : Prop :=
  ∀ (Q : V → AH → Prop) (Φ : Fz) (σ : AH) (s : Shared), Lm fx z c m Φ ls → Inv z c m Φ σ s → W Q σ → wpAny (model z.prog z.w) c.A (eval x c.env) (OKE z c m Φ Q) (ERR z c Φ X) s
noncomputable def OKB (z : Z) (c : Cx) (m : Str → Option Value) (Φ : Fz) (Q : Bool → AH → Prop) (b : Bool) (s : Shared) : Prop := ∃ Φ' σ', Φ.le Φ' ∧ Inv z c m Φ' σ' s ∧ Q b σ'
noncomputable def ST (z : Z) (c : Cx) (m : Str → Option Value) (fx : Fx) (ls : Ls) (X : AH → Prop) (x : Expr) (W : (V → AH → Prop) → AH → Prop) : Prop :=
  ∀ (P : V → AH → Prop) (Q : Bool → AH → Prop) (Φ : Fz) (σ : AH) (s : Shared), (∀ v σ, P v σ → ∃ b, v = .bool b ∧ Q b σ) → Lm fx z c m Φ ls → Inv z c m Φ σ s → W P σ →
    wpAny (model z.prog z.w) c.A (isTrue x c.env (eval x c.env)) (OKB z c m Φ Q) (ERR z c Φ X) s
noncomputable def OKL (z : Z) (c : Cx) (m : Str → Option Value) (Φ : Fz) (Q : List V → AH → Prop) (vs : List Value) (s : Shared) : Prop := ∃ Φ' us σ', Φ.le Φ' ∧ Rvs z.K Φ' us vs ∧ Inv z c m Φ' σ' s ∧ Q us σ'
noncomputable def SL (z : Z) (c : Cx) (m : Str → Option Value) (fx : Fx) (ls : Ls) (X : AH → Prop) (xs : List Expr) (W : (List V → AH → Prop) → AH → Prop) : Prop :=
  (∀ env pos, backTo pos (starEach xs env) = starEach xs env ∧ (starEach xs env).any (·.1) = false) ∧
  ∀ (Q : List V → AH → Prop) (Φ : Fz) (σ : AH) (s : Shared), Lm fx z c m Φ ls → Inv z c m Φ σ s → W Q σ → wpAny (model z.prog z.w) c.A (spliced (starEach xs c.env)) (OKL z c m Φ (fun us σ => us.length = xs.length ∧ Q us σ)) (ERR z c Φ X) s
section
variable {z : Z} {n : Nat} {c : Cx} {m : Str → Option Value} {fx : Fx} {ls : Ls} {X : AH → Prop} {Φ : Fz} {σ : AH} {s : Shared}
theorem At.kind (a : At z n c fx) (x : Str) : c.env.kindOf x = fx.kinds.lookup x := by unfold Env.kindOf; rw [a.hs]
theorem OKE.now {Q : V → AH → Prop} {v : V} {x : Value} (hv : Rv z.K Φ v x) (I : Inv z c m Φ σ s) (q : Q v σ) : OKE z c m Φ Q x s := ⟨Φ, v, σ, Fz.le.refl _, hv, I, q⟩
theorem OKB.now {Q : Bool → AH → Prop} {b : Bool} (I : Inv z c m Φ σ s) (q : Q b σ) : OKB z c m Φ Q b s := ⟨Φ, σ, Fz.le.refl _, I, q⟩
theorem Inv.tok {t : Nat} (I : Inv z c m Φ σ s) : Inv z c m Φ σ { s with toks := t } := ⟨I.gens, I.drawn, I.os, I.base, I.led⟩
theorem SE.bind {x : Expr} {W : (V → AH → Prop) → AH → Prop} {Q : V → AH → Prop} (h : SE z c m fx ls X x W) (l : Lm fx z c m Φ ls) (I : Inv z c m Φ σ s) (w : W Q σ) {P : Value → Shared → Prop}
    (k : ∀ (Φ' : Fz) (v' : Value) (v : V) (σ' : AH) (s' : Shared), Φ.le Φ' → Lm fx z c m Φ' ls → Rv z.K Φ' v v' → Inv z c m Φ' σ' s' → Q v σ' → P v' s') :
    wpAny (model z.prog z.w) c.A (eval x c.env) P (ERR z c Φ X) s :=
  wpAny_mono (h Q Φ σ s l I w) (fun v' s' ⟨Φ', v, σ', a, b, d, e⟩ => k Φ' v' v σ' s' a (l.mono a) b d e) fun _ _ e => e
theorem ERR.up {Φ' : Fz} {e : Value} (le : Φ.le Φ') (x : ERR z c Φ' X e s) : ERR z c Φ X e s := x.mono le fun _ q => q
theorem err_up {α : Type} {Φ' : Fz} {t : Sem α} {P : α → Shared → Prop} (le : Φ.le Φ') (h : wpAny (model z.prog z.w) c.A t P (ERR z c Φ' X) s) : wpAny (model z.prog z.w) c.A t P (ERR z c Φ X) s :=
  wpAny_mono h (fun _ _ x => x) fun _ _ x => x.up le
theorem ok_up {Φ' : Fz} {Q : V → AH → Prop} {t : Sem Value} (le : Φ.le Φ') (h : wpAny (model z.prog z.w) c.A t (OKE z c m Φ' Q) (ERR z c Φ' X) s) : wpAny (model z.prog z.w) c.A t (OKE z c m Φ Q) (ERR z c Φ X) s :=
  wpAny_mono h (fun _ _ x => x.mono le fun _ _ q => q) fun _ _ x => x.up le
theorem okb_up {Φ' : Fz} {Q : Bool → AH → Prop} {t : Sem Bool} (le : Φ.le Φ') (h : wpAny (model z.prog z.w) c.A t (OKB z c m Φ' Q) (ERR z c Φ' X) s) : wpAny (model z.prog z.w) c.A t (OKB z c m Φ Q) (ERR z c Φ X) s :=
  wpAny_mono h (fun _ _ ⟨Φ₂, σ', a, b, d⟩ => ⟨Φ₂, σ', le.trans a, b, d⟩) fun _ _ x => x.up le
theorem SE.mono {x : Expr} {W W' : (V → AH → Prop) → AH → Prop} (h : SE z c m fx ls X x W) (k : ∀ Q σ, W' Q σ → W Q σ) : SE z c m fx ls X x W' := fun Q Φ σ s l I w => h Q Φ σ s l I (k _ _ w)
theorem s_loc (a : At z n c fx) {i : Nat} {x : Str} {pos : Pos} (h1 : fx.names[i]? = some x) (h2 : fx.isVar x = true) (h3 : (x == ("__debug__" : Str)) = false) :
    SE z c m fx ls X (.Name x pos) (fun Q σ => match ls[i]? with | some (some v) => Q v σ | _ => False) := fun Q Φ σ s l I w => by
  split at w
  · rename_i v e
    refine xEA (l i v x e h1 h2) fun val hr hv => ?_
    rcases hr with ⟨k1, k2⟩ | ⟨k1, ad, o, k2, k3, k4⟩
    · exact wpAny_Name (wpAny_loadName_local a.o.ek k1 (I.fr a.o).ns k2 (OKE.now hv I w)) h3
    · obtain ⟨G, L⟩ := I.led
      have := L.ok ad
      rw [L.hid _ k3] at this
      exact wpAny_Name (wpAny_loadName_cell a.o.ek k1 k2 ⟨o, this, k4⟩ (OKE.now hv I w)) h3
  · exact w.elim
theorem glob_any (a : At z n c fx) {x : Str} {pos : Pos} {v : Value} {P : Value → Shared → Prop} {E : Value → Shared → Prop} (I : Inv z c m Φ σ s) (h1 : fx.isGlob x = true) (h2 : nsIn z.K mainGlobals x = some (some v)) (h : P v s) :
    wpAny (model z.prog z.w) c.A (eval (.Name x pos) c.env) P E s := by
  unfold Fx.isGlob at h1
  simp only [Bool.and_eq_true, beq_iff_eq, bne_iff_ne, ne_eq] at h1
  have hg : s.heap.Ns c.env.globals z.mg := by rw [a.o.eg]; exact a.zo.T.g.keeps I.base
  exact Calls.Name_function_global a.o.ek (by rw [a.kind]; exact h1.1) (loadGlobal_global hg (mg_of a.zo.X a.zo.T.g h2) h) (by simpa using h1.2)
theorem builtin_any (a : At z n c fx) {x : Str} {pos : Pos} {v : Value} {P : Value → Shared → Prop} {E : Value → Shared → Prop} (I : Inv z c m Φ σ s) (h1 : fx.isGlob x = true) (h2 : nsIn z.K mainGlobals x = some none) (h3 : bootBuiltins x = some v) (h4 : x ≠ "__name__") (h : P v s) :
    wpAny (model z.prog z.w) c.A (eval (.Name x pos) c.env) P E s := by
  unfold Fx.isGlob at h1
  simp only [Bool.and_eq_true, beq_iff_eq, bne_iff_ne, ne_eq] at h1
  have hg : s.heap.Ns c.env.globals z.mg := by rw [a.o.eg]; exact a.zo.T.g.keeps I.base
  have hb : s.heap.Ns c.env.builtins z.mb := by rw [a.o.eb]; exact a.zo.T.b.keeps I.base
  exact Calls.Name_function_global a.o.ek (by rw [a.kind]; exact h1.1) (loadGlobal_builtin hg (mg_none_of a.zo.X a.zo.T.g h2) hb ((a.zo.T.builtins x h4).trans h3) h) (by simpa using h1.2)
theorem s_none {k : Nat} {pos : Pos} : SE z c m fx ls X (.Constant .none k pos) (fun Q σ => Q .none σ) := fun _ _ _ _ _ I w => Constant_none (OKE.now (v := .none) rfl I w)
theorem s_bool {k : Nat} {pos : Pos} {b : Bool} : SE z c m fx ls X (.Constant (.bool b) k pos) (fun Q σ => Q (.bool b) σ) := fun _ _ _ _ _ I w => Constant_bool (OKE.now (v := .bool b) rfl I w)
theorem s_int {k : Nat} {pos : Pos} {i : Int} : SE z c m fx ls X (.Constant (.int i) k pos) (fun Q σ => Q (.int i) σ) := fun _ _ _ _ _ I w => wpAny_Constant_int (OKE.now (v := .int i) ⟨_, rfl⟩ I.tok w)
theorem s_str {k : Nat} {pos : Pos} {i : Nat} (h : i < strMany) : SE z c m fx ls X (.Constant (.str (strAt i)) k pos) (fun Q σ => Q (.str i) σ) := fun _ _ _ _ _ I w => Calls.Constant_str (OKE.now (v := .str i) ⟨h, _, rfl⟩ I.tok w)
theorem s_stat (a : At z n c fx) {x : Str} {pos : Pos} {ad : Addr} (h1 : fx.isGlob x = true) (h2 : nsIn z.K mainGlobals x = some (some (.ref ad))) (h3 : ad = 44 ∨ ad = 47) :
    SE z c m fx ls X (.Name x pos) (fun Q σ => Q (.stat ad) σ) := fun _ _ _ _ _ I w => glob_any a I h1 h2 (OKE.now (v := .stat ad) ⟨rfl, h3⟩ I w)
theorem sl_nil : SL z c m fx ls X [] (fun Q σ => Q [] σ) := ⟨fun _ _ => ⟨rfl, rfl⟩, fun _ Φ σ _ _ I w => Calls.spliced_nil ⟨Φ, [], σ, Fz.le.refl _, rfl, I, rfl, w⟩⟩
theorem SL.run {xs : List Expr} {W : (List V → AH → Prop) → AH → Prop} (h : SL z c m fx ls X xs W) {Q : List V → AH → Prop} (l : Lm fx z c m Φ ls) (I : Inv z c m Φ σ s) (w : W Q σ) : wpAny (model z.prog z.w) c.A (spliced (starEach xs c.env)) (OKL z c m Φ Q) (ERR z c Φ X) s :=
  wpAny_mono (h.2 Q Φ σ s l I w) (fun _ _ x => xEEEAAAA x fun Φ' us σ' a b d _ q => ⟨Φ', us, σ', a, b, d, q⟩) fun _ _ e => e
theorem starEach_cons {x : Expr} {r : List Expr} {env : Env} (hx : ∀ e p, x ≠ .Starred e p) : starEach (x :: r) env = (false, eval x env) :: starEach r env := by
  cases x with
  | Starred e p => exact absurd rfl (hx e p)
  | _ => rfl
theorem sl_cons {x : Expr} {xs : List Expr} {W : (V → AH → Prop) → AH → Prop} {Ws : (List V → AH → Prop) → AH → Prop} (h : SE z c m fx ls X x W) (hs : SL z c m fx ls X xs Ws) (hx : ∀ e p, x ≠ .Starred e p) :
    SL z c m fx ls X (x :: xs) (fun Q σ => W (fun v σ => Ws (fun vs σ => Q (v :: vs) σ) σ) σ) := by
  have he : ∀ env, starEach (x :: xs) env = (false, eval x env) :: starEach xs env := fun env => starEach_cons hx
  refine ⟨fun env pos => ?_, fun Q Φ σ s l I w => ?_⟩
  · rw [he]
    obtain ⟨a, b⟩ := hs.1 env pos
    refine ⟨?_, ?_⟩
    · show (false, eval x env) :: backTo pos (starEach xs env) = _
      rw [a]
    · rw [List.any_cons, b]; rfl
  · rw [he]
    refine Calls.spliced_cons (h.bind l I w fun Φ' v' v σ' s' le l' hv I' w' => err_up le (wpAny_mono (hs.2 _ Φ' σ' s' l' I' w') (fun vs' s₂ h₂ => ?_) fun _ _ e => e))
    revert h₂; refine yEEEAAAA fun Φ₂ us σ₂ le₂ hu I₂ hl q => ?_
    exact ⟨Φ₂, v :: us, σ₂, le.trans le₂, ⟨v', vs', rfl, hv.mono le₂, hu⟩, I₂, congrArg Nat.succ hl, q⟩
theorem SL.back {xs : List Expr} {Ws : (List V → AH → Prop) → AH → Prop} (h : SL z c m fx ls X xs Ws) (pos : Pos) (env : Env) : backTo pos (starEach xs env) = starEach xs env := (h.1 env pos).1
theorem s_tup (a : At z n c fx) {xs : List Expr} {k : Nat} {pos : Pos} {Ws : (List V → AH → Prop) → AH → Prop} (h : SL z c m fx ls X xs Ws) (hl : xs.length ≤ 1000) :
    SE z c m fx ls X (.Tuple xs k pos) (fun Q σ => Ws (fun vs σ => Q (.tup vs) σ) σ) := fun Q Φ σ s l I w => by
  refine Tuple_ ?_
  rw [h.back]
  refine wpAny_mono (h.2 _ Φ σ s l I w) (fun vs' s₁ h₁ => ?_) fun _ _ e => e
  revert h₁; refine yEEEAAAA fun Φ₁ us σ₁ le hu I₁ hlen q => ?_
  refine wpAny_newTuple ?_ (by rw [hu.length, hlen, sizeLine_eq]; omega)
  refine xEAA (I₁.newFro (t := s₁.toks) a.o (a := s₁.heap.objs.size) (h' := s₁.heap.push (tupOf vs'.toArray 0)) (Nat.le_refl _) (Kp.of_keeps fun b o e => Heap.get?_push_of_some _ e) (Heap.get?_push_size _ rfl)) fun Φ₂ le₂ e₂ I₂ => ?_
  exact ⟨Φ₂, .tup us, σ₁, le.trans le₂, ⟨_, vs'.toArray, 0, rfl, e₂, by rw [hlen]; omega, by simpa using hu.mono le₂⟩, I₂, q⟩
theorem s_lst (a : At z n c fx) {xs : List Expr} {pos : Pos} {Ws : (List V → AH → Prop) → AH → Prop} (h : SL z c m fx ls X xs Ws) (hl : xs.length ≤ 1000) :
    SE z c m fx ls X (.List xs pos) (fun Q σ => Ws (fun vs σ => ∀ a, σ a = none → Q (.ref a) (σ.set a (some (.list vs)))) σ) := fun Q Φ σ s l I w => by
  refine List_ ?_
  rw [h.back]
  refine wpAny_mono (h.2 _ Φ σ s l I w) (fun vs' s₁ h₁ => ?_) fun _ _ e => e
  revert h₁; refine yEEEAAAA fun Φ₁ us σ₁ le hu I₁ hlen q => ?_
  refine wpAny_newList ?_ (by rw [hu.length, hlen, sizeLine_eq]; omega)
  have I₂ := I₁.newList (t := s₁.toks) a.o (a := s₁.heap.objs.size) (h' := s₁.heap.push (listOf vs'.toArray 0)) (Nat.le_refl _) (Kp.of_keeps fun b o e => Heap.get?_push_of_some _ e) (Heap.get?_push_size _ rfl) (vs := us) (by rw [hlen]; omega) (by simpa using hu)
  exact ⟨Φ₁, .ref _, _, le, rfl, I₂, q _ (I₁.fresh_none (none_of_size (Nat.le_refl _)))⟩
theorem s_frz {x : Expr} {W : (V → AH → Prop) → AH → Prop} (h : SE z c m fx ls X x W) : SE z c m fx ls X x (fun Q σ => W (frzQ Q) σ) := fun Q Φ σ s l I w => by
  refine h.bind l I w fun Φ₁ v' v σ₁ s₁ le _ hv I₁ q => ?_
  unfold frzQ at q
  split at q
  · rename_i ad
    have hv : v' = .ref ad := hv
    subst hv
    split at q
    · rename_i vs e
      refine xEAA (I₁.freezeList e) fun Φ₂ le₂ r I₂ => ?_
      exact ⟨Φ₂, _, _, le.trans le₂, r, I₂, q⟩
    · rename_i C ks vs e
      refine xEAA (I₁.freezeInst e) fun Φ₂ le₂ r I₂ => ?_
      exact ⟨Φ₂, _, _, le.trans le₂, r, I₂, q⟩
    · exact ⟨Φ₁, .ref ad, _, le, rfl, I₁, q⟩
  · exact ⟨Φ₁, _, _, le, hv, I₁, q⟩
theorem truthy_of {Q : Bool → AH → Prop} {v : V} {v' : Value} {b : Bool} (hv : Rv z.K Φ v v') (e : v = .bool b) (I : Inv z c m Φ σ s) (q : Q b σ) {E : Value → Shared → Prop} : wpAny (model z.prog z.w) c.A (truthy v') (OKB z c m Φ Q) E s := by
  subst e
  have hv : v' = .bool b := hv
  subst hv
  exact wpAny_truthy_bool (OKB.now I q)
theorem st_plain {x : Expr} {W : (V → AH → Prop) → AH → Prop} (h : SE z c m fx ls X x W) (he : ∀ env whole, isTrue x env whole = (do let v ← whole; standAt x.pos; holding [v] (truthy v))) : ST z c m fx ls X x W := fun P Q Φ σ s hq l I w =>
  isTrue_plain (h.bind l I w fun Φ₁ v' v σ₁ s₁ le _ hv I₁ q => xEA (hq _ _ q) fun _ e q => okb_up le (truthy_of hv e I₁ q)) (he _ _)
theorem s_not {x : Expr} {pos : Pos} {W : (V → AH → Prop) → AH → Prop} (h : SE z c m fx ls X x W) :
    SE z c m fx ls X (.UnaryOp .Not x pos) (fun Q σ => W (fun v σ => match v with | .bool t => Q (.bool (!t)) σ | _ => False) σ) := fun Q Φ σ s l I w => by
  refine UnaryOp_ (h.bind l I w fun Φ₁ v' v σ₁ s₁ le _ hv I₁ q => eB q fun t e q => ?_)
  subst e
  have hv : v' = .bool t := hv
  subst hv
  exact not_of (wpAny_truthy_bool ((OKE.now (v := .bool !t) rfl I₁ q).mono le fun _ _ q => q))
theorem st_not {x : Expr} {pos : Pos} {W : (V → AH → Prop) → AH → Prop} (h : ST z c m fx ls X x W) :
    ST z c m fx ls X (.UnaryOp .Not x pos) (fun Q σ => W (fun v σ => match v with | .bool t => Q (.bool (!t)) σ | _ => False) σ) := fun P Q Φ σ s hq l I w => by
  refine isTrue_not (wpAny_mono (h _ (fun b σ => Q (!b) σ) Φ σ s (fun v σ q => eB q fun t e q => xEA (hq _ _ q) fun b e' q => ?_) l I w) (fun b s' hb => hb) fun _ _ e => e)
  cases e'; exact ⟨t, e, q⟩
abbrev andW (W1 W2 : (V → AH → Prop) → AH → Prop) (Q : V → AH → Prop) (σ : AH) : Prop := W1 (fun v σ => match v with
    | .bool true => W2 (fun u σ => match u with
      | .bool t => Q (.bool t) σ
      | _ => False) σ
    | .bool false => Q (.bool false) σ
    | _ => False) σ
abbrev orW (W1 W2 : (V → AH → Prop) → AH → Prop) (Q : V → AH → Prop) (σ : AH) : Prop := W1 (fun v σ => match v with
    | .bool true => Q (.bool true) σ
    | .bool false => W2 (fun u σ => match u with
      | .bool t => Q (.bool t) σ
      | _ => False) σ
    | _ => False) σ
theorem s_and {x y : Expr} {rest : List Expr} {pos : Pos} {W1 W2 : (V → AH → Prop) → AH → Prop} (h1 : SE z c m fx ls X x W1) (h2 : SE z c m fx ls X (.BoolOp .And (y :: rest) pos) W2) : SE z c m fx ls X (.BoolOp .And (x :: y :: rest) pos) (andW W1 W2) := fun Q Φ σ s l I w => by
  refine BoolOp_and (h1.bind l I w fun Φ₁ v' v σ₁ s₁ le l₁ hv I₁ q => eBB q fun t e q => ?_)
  subst e
  have hv : v' = .bool t := hv
  subst hv
  refine wpAny_truthy_bool ?_
  cases t with
  | true => exact h2.bind l₁ I₁ q (fun Φ₂ u' u σ₂ s₂ le₂ _ hu I₂ q₂ => eB q₂ fun t e q => ⟨Φ₂, _, _, le.trans le₂, e ▸ hu, I₂, q⟩) |> err_up le
  | false => exact ⟨Φ₁, .bool false, _, le, rfl, I₁, q⟩
theorem s_or {x y : Expr} {rest : List Expr} {pos : Pos} {W1 W2 : (V → AH → Prop) → AH → Prop} (h1 : SE z c m fx ls X x W1) (h2 : SE z c m fx ls X (.BoolOp .Or (y :: rest) pos) W2) : SE z c m fx ls X (.BoolOp .Or (x :: y :: rest) pos) (orW W1 W2) := fun Q Φ σ s l I w => by
  refine BoolOp_or (h1.bind l I w fun Φ₁ v' v σ₁ s₁ le l₁ hv I₁ q => eBB q fun t e q => ?_)
  subst e
  have hv : v' = .bool t := hv
  subst hv
  refine wpAny_truthy_bool ?_
  cases t with
  | true => exact ⟨Φ₁, .bool true, _, le, rfl, I₁, q⟩
  | false => exact h2.bind l₁ I₁ q (fun Φ₂ u' u σ₂ s₂ le₂ _ hu I₂ q₂ => eB q₂ fun t e q => ⟨Φ₂, _, _, le.trans le₂, e ▸ hu, I₂, q⟩) |> err_up le
theorem s_one {op : BoolOp} {x : Expr} {pos : Pos} {W : (V → AH → Prop) → AH → Prop} (h : SE z c m fx ls X x W) : SE z c m fx ls X (.BoolOp op [x] pos) W := fun Q Φ σ s l I w => BoolOp_one (h Q Φ σ s l I w)
theorem st_and {x : Expr} {rest : List Expr} {pos : Pos} {W1 W2 : (V → AH → Prop) → AH → Prop} (h1 : ST z c m fx ls X x W1) (h2 : ST z c m fx ls X (.BoolOp .And rest pos) W2) :
    ST z c m fx ls X (.BoolOp .And (x :: rest) pos) (andW W1 W2) := fun P Q Φ σ s hq l I w => by
  refine isTrue_and (wpAny_mono (h1 _ (fun b σ => if b = true then W2 _ σ else P (.bool false) σ) Φ σ s (fun v σ q => eBB q fun t e q => ⟨t, e, q⟩) l I w) (fun b s' hb => ?_) fun _ _ e => e)
  revert hb; refine yEEAA fun Φ₁ σ₁ le I₁ q => ?_
  cases b with
  | true => exact okb_up le (h2 _ Q Φ₁ σ₁ s' (fun v σ q => eB q fun t e q => xEA (hq _ _ q) fun b e' q => by cases e'; exact ⟨t, e, q⟩) (l.mono le) I₁ q)
  | false => exact xEA (hq _ _ q) fun b e' q => by cases e'; exact ⟨Φ₁, σ₁, le, I₁, q⟩
theorem st_or {x : Expr} {rest : List Expr} {pos : Pos} {W1 W2 : (V → AH → Prop) → AH → Prop} (h1 : ST z c m fx ls X x W1) (h2 : ST z c m fx ls X (.BoolOp .Or rest pos) W2) :
    ST z c m fx ls X (.BoolOp .Or (x :: rest) pos) (orW W1 W2) := fun P Q Φ σ s hq l I w => by
  refine isTrue_or (wpAny_mono (h1 _ (fun b σ => if b = true then P (.bool true) σ else W2 _ σ) Φ σ s (fun v σ q => eBB q fun t e q => ⟨t, e, q⟩) l I w) (fun b s' hb => ?_) fun _ _ e => e)
  revert hb; refine yEEAA fun Φ₁ σ₁ le I₁ q => ?_
  cases b with
  | true => exact xEA (hq _ _ q) fun b e' q => by cases e'; exact ⟨Φ₁, σ₁, le, I₁, q⟩
  | false => exact okb_up le (h2 _ Q Φ₁ σ₁ s' (fun v σ q => eB q fun t e q => xEA (hq _ _ q) fun b e' q => by cases e'; exact ⟨t, e, q⟩) (l.mono le) I₁ q)
theorem st_one_and {x : Expr} {pos : Pos} {W : (V → AH → Prop) → AH → Prop} (h : ST z c m fx ls X x W) : ST z c m fx ls X (.BoolOp .And [x] pos) W := fun P Q Φ σ s hq l I w => by
  refine isTrue_and (wpAny_mono (h P Q Φ σ s hq l I w) (fun b s' hb => ?_) fun _ _ e => e)
  cases b with
  | true => rw [if_pos rfl]; exact isTrue_and_nil hb
  | false => rw [if_neg (by decide)]; exact hb
theorem st_one_or {x : Expr} {pos : Pos} {W : (V → AH → Prop) → AH → Prop} (h : ST z c m fx ls X x W) : ST z c m fx ls X (.BoolOp .Or [x] pos) W := fun P Q Φ σ s hq l I w => by
  refine isTrue_or (wpAny_mono (h P Q Φ σ s hq l I w) (fun b s' hb => ?_) fun _ _ e => e)
  cases b with
  | true => rw [if_pos rfl]; exact hb
  | false => rw [if_neg (by decide)]; exact isTrue_or_nil hb
theorem s_ite {t x y : Expr} {pos : Pos} {W W1 W2 : (V → AH → Prop) → AH → Prop} (h : ST z c m fx ls X t W) (h1 : SE z c m fx ls X x W1) (h2 : SE z c m fx ls X y W2) :
    SE z c m fx ls X (.IfExp t x y pos) (fun Q σ => W (fun v σ => match v with | .bool true => W1 Q σ | .bool false => W2 Q σ | _ => False) σ) := fun Q Φ σ s l I w => by
  refine IfExp_ (wpAny_mono (h _ (fun b σ => if b = true then W1 Q σ else W2 Q σ) Φ σ s (fun v σ q => eBB q fun t e q => ⟨t, e, q⟩) l I w) (fun b s' hb => ?_) fun _ _ e => e)
  revert hb; refine yEEAA fun Φ₁ σ₁ le I₁ q => ?_
  cases b with
  | true => rw [if_pos rfl] at q ⊢; exact ok_up le (h1 Q Φ₁ σ₁ s' (l.mono le) I₁ q)
  | false => rw [if_neg (by decide)] at q ⊢; exact ok_up le (h2 Q Φ₁ σ₁ s' (l.mono le) I₁ q)
end
end Mine
end
noncomputable section
namespace Mine
theorem strAt_inj {i j : Nat} (hi : i < strMany) (hj : j < strMany) (e : strAt i = strAt j) : i = j :=
  (by decide +kernel : ∀ i, i < strMany → ∀ j, j < strMany → strAt i = strAt j → i = j) i hi j hj e
noncomputable def clsFacts (K : Frag) (C : Addr) : Bool := plainGet K C (strAt 0) && hasDictIn K C && makesIn K C && decide (findIn K (.ref C) "__setattr__" = some (some (.builtin "object.__setattr__"))) && plainOver K C &&
  (List.range strMany).all fun k => match methOf C k with
    | some f => decide (findIn K (.ref C) (strAt k) = some (some (.ref f))) && isFn K (.ref f) && keepIn K (.ref f)
    | none => decide (findIn K (.ref C) (strAt k) = some none)
structure Gok (z : Z) : Prop where
  cls : ∀ C ∈ ownCls, clsFacts z.K C = true
theorem Gok.get {z : Z} (g : Gok z) {C : Addr} (h : C ∈ ownCls) (k : Nat) : plainGet z.K C (strAt k) = true := by
  have := g.cls C h
  unfold clsFacts at this
  simp only [Bool.and_eq_true] at this
  exact this.1.1.1.1.1
theorem Gok.dict {z : Z} (g : Gok z) {C : Addr} (h : C ∈ ownCls) : hasDictIn z.K C = true := by
  have := g.cls C h
  unfold clsFacts at this
  simp only [Bool.and_eq_true] at this
  exact this.1.1.1.1.2
theorem Gok.makes {z : Z} (g : Gok z) {C : Addr} (h : C ∈ ownCls) : makesIn z.K C = true := by
  have := g.cls C h
  unfold clsFacts at this
  simp only [Bool.and_eq_true] at this
  exact this.1.1.1.2
theorem Gok.setattr {z : Z} (g : Gok z) {C : Addr} (h : C ∈ ownCls) : findIn z.K (.ref C) "__setattr__" = some (some (.builtin "object.__setattr__")) := by
  have := g.cls C h
  unfold clsFacts at this
  simp only [Bool.and_eq_true] at this
  exact of_decide_eq_true this.1.1.2
theorem Gok.over {z : Z} (g : Gok z) {C : Addr} (h : C ∈ ownCls) : plainOver z.K C = true := by
  have := g.cls C h
  unfold clsFacts at this
  simp only [Bool.and_eq_true] at this
  exact this.1.2
theorem Gok.name {z : Z} (g : Gok z) {C : Addr} (h : C ∈ ownCls) {k : Nat} (hk : k < strMany) : match methOf C k with
    | some f => findIn z.K (.ref C) (strAt k) = some (some (.ref f)) ∧ isFn z.K (.ref f) = true ∧ keepIn z.K (.ref f) = true
    | none => findIn z.K (.ref C) (strAt k) = some none := by
  have := g.cls C h
  unfold clsFacts at this
  simp only [Bool.and_eq_true] at this
  have := List.all_eq_true.mp this.2 k (List.mem_range.mpr hk)
  cases e : methOf C k with
  | some f =>
    rw [e] at this
    simp only [Bool.and_eq_true] at this
    exact ⟨of_decide_eq_true this.1.1, this.1.2, this.2⟩
  | none =>
    rw [e] at this
    exact of_decide_eq_true this
theorem isStr_at {i j : Nat} (hi : i < strMany) (hj : j < strMany) (t : Nat) : (Value.str (strAt i) t).isStr (strAt j) = decide (i = j) := by
  unfold Value.isStr
  by_cases e : i = j
  · subst e; simp
  · have : strAt i ≠ strAt j := fun q => e (strAt_inj hi hj q)
    simp [e, this]
section
variable {K : Frag} {Φ : Fz}
theorem find_some {k : Nat} (hk : k < strMany) : ∀ {ks : List Nat} {es : List DictEntry} {vs : List V} {u : V}, Rks ks es → Rvs K Φ vs (es.map (·.val)) → findK ks vs k = some u →
    ∃ x, es.find? (·.key.isStr (strAt k)) = some x ∧ Rv K Φ u x.val
  | [], _, _, _, e, _, q => by cases q
  | j :: ks, _, [], _, ⟨x, xs, e, _, _⟩, b, q => by cases q
  | j :: ks, _, v :: vs, u, ⟨x, xs, e, ⟨hj, t, hx⟩, hr⟩, b, q => by
    subst e
    revert b; refine yEEAA fun y ys e hv hvs => ?_
    simp only [List.map_cons, List.cons.injEq] at e
    obtain ⟨rfl, rfl⟩ := e
    unfold findK at q
    rw [List.find?_cons, hx, isStr_at hj hk]
    by_cases w : j = k
    · rw [if_pos w] at q; cases q; simp only [w, decide_true]; exact ⟨x, rfl, hv⟩
    · rw [if_neg w] at q; simp only [w, decide_false]; exact find_some hk hr hvs q
theorem find_none {k : Nat} (hk : k < strMany) : ∀ {ks : List Nat} {es : List DictEntry}, Rks ks es → k ∉ ks → es.find? (·.key.isStr (strAt k)) = none ∧ es.any (·.refKey) = false
  | [], _, e, _ => by cases e; exact ⟨rfl, rfl⟩
  | j :: ks, _, ⟨x, xs, e, ⟨hj, t, hx⟩, hr⟩, q => by
    subst e
    obtain ⟨a, b⟩ := find_none hk hr (fun w => q (.tail _ w))
    have w : j ≠ k := fun w => q (w ▸ .head _)
    rw [List.find?_cons, hx, isStr_at hj hk, List.any_cons, b]
    simp only [w, decide_false, a, Bool.or_false, true_and]
    unfold DictEntry.refKey
    rw [hx]
theorem getL_some {k : Nat} (hk : k < strMany) {ks : List Nat} {es : List DictEntry} {vs : List V} {u : V} (a : Rks ks es) (b : Rvs K Φ vs (es.map (·.val))) (q : findK ks vs k = some u) : ∃ x, getL (strAt k) es = some (some x) ∧ Rv K Φ u x := by
  refine xEA (find_some hk a b q) fun x h1 h2 => ?_
  exact ⟨x.val, by unfold getL; rw [h1], h2⟩
theorem getL_none {k : Nat} (hk : k < strMany) {ks : List Nat} {es : List DictEntry} (a : Rks ks es) (q : k ∉ ks) : getL (strAt k) es = some none := by
  obtain ⟨h1, h2⟩ := find_none hk a q
  unfold getL; rw [h1, h2]; rfl
theorem getL_isSome {k : Nat} (hk : k < strMany) {ks : List Nat} {es : List DictEntry} (a : Rks ks es) : (getL (strAt k) es).isSome = true := by
  have h2 : es.any (·.refKey) = false := by
    clear hk
    induction ks generalizing es with
    | nil => cases a; rfl
    | cons j ks ih =>
      revert a; refine yEEAA fun x xs e u1 hr => ?_; obtain ⟨hj, t, hx⟩ := u1
      subst e
      rw [List.any_cons, ih hr, Bool.or_false]
      unfold DictEntry.refKey; rw [hx]
  unfold getL
  split
  · rfl
  · rw [h2]; rfl
theorem putL_ok {k : Nat} (hk : k < strMany) {v : V} {x : Value} (hv : Rv K Φ v x) (hsh : Int) (t : Nat) : ∀ {ks : List Nat} {es : List DictEntry} {vs : List V}, Rks ks es → Rvs K Φ vs (es.map (·.val)) →
    Rks (putK ks k) (putL (strAt k) hsh (.str (strAt k) t) x es) ∧ Rvs K Φ (putV ks vs k v) ((putL (strAt k) hsh (.str (strAt k) t) x es).map (·.val))
  | [], _, vs, e, b => by
    cases e
    have : vs = [] := by cases vs with | nil => rfl | cons _ _ => revert b; refine yEEA fun _ _ e _ => ?_; cases e
    subst this
    exact ⟨⟨_, _, rfl, ⟨hk, _, rfl⟩, rfl⟩, ⟨_, _, rfl, hv, rfl⟩⟩
  | j :: ks, _, vs, ⟨y, ys, e, ⟨hj, t', hy⟩, hr⟩, b => by
    subst e
    cases vs with
    | nil => cases b
    | cons u us =>
    revert b; refine yEEAA fun y' ys' e hu hus => ?_
    simp only [List.map_cons, List.cons.injEq] at e
    obtain ⟨rfl, rfl⟩ := e
    unfold putL
    rw [hy, isStr_at hj hk]
    by_cases w : j = k
    · subst w
      simp only [decide_true, if_true]
      refine ⟨?_, ?_⟩
      · unfold putK; rw [if_pos (.head _)]; exact ⟨_, _, rfl, ⟨hj, t', rfl⟩, hr⟩
      · unfold putV; rw [if_pos rfl]; exact ⟨_, _, rfl, hv, hus⟩
    · obtain ⟨i1, i2⟩ := putL_ok hk hv hsh t hr hus
      simp only [w, decide_false, Bool.false_eq_true, if_false]
      refine ⟨?_, ?_⟩
      · unfold putK at i1 ⊢
        by_cases q : k ∈ ks
        · rw [if_pos q] at i1; rw [if_pos (.tail _ q)]; exact ⟨_, _, rfl, ⟨hj, t', hy⟩, i1⟩
        · rw [if_neg q] at i1
          rw [if_neg (fun h => by rcases List.mem_cons.mp h with h | h; exact w h.symm; exact q h)]
          exact ⟨_, _, rfl, ⟨hj, t', hy⟩, i1⟩
      · unfold putV; rw [if_neg w]; exact ⟨_, _, rfl, hu, i2⟩
theorem putL_length {nm : Str} {hsh : Int} {key v : Value} : ∀ {es : List DictEntry}, (putL nm hsh key v es).length ≤ es.length + 1
  | [] => Nat.le_refl _
  | e :: r => by
    unfold putL
    split
    · simp
    · have := putL_length (nm := nm) (hsh := hsh) (key := key) (v := v) (es := r)
      simp only [List.length_cons]; omega
theorem Rv.handed {v : V} {x : Value} (h : Rv K Φ v x) : handedIn x = true := by
  cases v with
  | none => cases h; rfl
  | bool b => cases h; rfl
  | int i => obtain ⟨t, rfl⟩ := h; rfl
  | str k => revert h; refine yAE fun _ t u2 => ?_; obtain rfl := u2; rfl
  | tup l => revert h; refine yEEEA fun a _ _ u3 _ => ?_; obtain rfl := u3; rfl
  | lst l => revert h; refine yEEEA fun a _ _ u4 _ => ?_; obtain rfl := u4; rfl
  | obj C ks vs => revert h; refine yEEEEA fun a _ _ _ u5 _ => ?_; obtain rfl := u5; rfl
  | ref a => cases h; rfl
  | stat a => obtain ⟨rfl, _⟩ := h; rfl
end
section
variable {z : Z} {n : Nat} {c : Cx} {m : Str → Option Value} {fx : Fx} {ls : Ls} {X : AH → Prop} {Φ : Fz} {σ : AH} {s : Shared}
theorem Inv.froAt (I : Inv z c m Φ σ s) {a : Addr} {o : Obj} (e : Φ a = some o) : s.heap.get? a = some o := by
  obtain ⟨G, L⟩ := I.led
  have := L.ok a
  rw [L.fro a o e] at this
  exact this
theorem Inv.froNew (I : Inv z c m Φ σ s) {a : Addr} {o : Obj} (e : Φ a = some o) : z.h₀.get? a = none := by
  obtain ⟨G, L⟩ := I.led
  exact L.new a (by rw [L.fro a o e]; exact Cell.noConfusion)
theorem Inv.ownL (I : Inv z c m Φ σ s) {a : Addr} {o : O} (e : σ a = some o) : a ≠ c.L := by
  obtain ⟨G, L⟩ := I.led
  rintro rfl
  have := L.own _ _ e
  rw [L.cur] at this; cases this
theorem Inv.listAt (I : Inv z c m Φ σ s) {a : Addr} {vs : List V} (e : σ a = some (.list vs)) : ∃ ws n, s.heap.get? a = some (listOf ws n) ∧ vs.length ≤ 1000000 ∧ Rvs z.K Φ vs ws.toList := by
  obtain ⟨G, L⟩ := I.led
  have := L.ok a
  rw [L.own a _ e] at this
  exact this
theorem Inv.dictSAt (I : Inv z c m Φ σ s) {a : Addr} {ks : List Nat} {vs : List V} (e : σ a = some (.dictS ks vs)) : ∃ o kvs, s.heap.get? a = some o ∧ o.IsDictOf (PySem.strKind z.prog z.w) kvs ∧ ((kvs.map (·.1) = ks.map strAt ∧ ∀ k ∈ ks, k < strMany) ∧ z.h₀.objs.size ≤ a) ∧ Rvs z.K Φ vs (kvs.map (·.2)) := by
  obtain ⟨G, L⟩ := I.led
  have := L.ok a
  rw [L.own a _ e] at this
  exact this
theorem Inv.dictIAt (I : Inv z c m Φ σ s) {a : Addr} {ks : List Int} {vs : List V} (e : σ a = some (.dictI ks vs)) : ∃ o kvs, s.heap.get? a = some o ∧ o.IsDictOf (PySem.intKind z.prog z.w) kvs ∧ (kvs.map (·.1) = ks ∧ z.h₀.objs.size ≤ a) ∧ Rvs z.K Φ vs (kvs.map (·.2)) := by
  obtain ⟨G, L⟩ := I.led
  have := L.ok a
  rw [L.own a _ e] at this
  exact this
noncomputable def instV (σ : AH) : V → Option (Addr × List Nat × List V)
  | .obj C ks vs => some (C, ks, vs)
  | .ref a => match σ a with
    | some (.inst C ks vs) => some (C, ks, vs)
    | _ => none
  | _ => none
theorem Inv.instAt (I : Inv z c m Φ σ s) {v : V} {v' : Value} {C : Addr} {ks : List Nat} {vs : List V} (hv : Rv z.K Φ v v') (e : instV σ v = some (C, ks, vs)) :
    ∃ a d es n, v' = .ref a ∧ s.heap.get? a = some (instObj C d) ∧ s.heap.get? d = some (dictOf es n) ∧ C ∈ ownCls ∧ Rks ks es ∧ Rvs z.K Φ vs (es.map (·.val)) := by
  cases v with
  | obj D ks' vs' =>
    cases e
    revert hv; refine yEEEEAAAAA fun a d es n u6 h1 h2 h3 h4 h5 => ?_; obtain rfl := u6
    exact ⟨a, d, es, n, rfl, I.froAt h1, I.froAt h2, h3, h4, h5⟩
  | ref a =>
    cases hv
    obtain ⟨G, L⟩ := I.led
    cases q : σ a with
    | none => simp [instV, q] at e
    | some o =>
      cases o with
      | inst D ks' vs' =>
        simp only [instV, q, Option.some.injEq, Prod.mk.injEq] at e
        revert e; refine yAA fun u7 u8 u9 => ?_; obtain rfl := u7; obtain rfl := u8; obtain rfl := u9
        have := L.ok a
        rw [L.own a _ q] at this
        revert this; refine yEEEAAAAA fun d es n h1 h2 _ h3 h4 h5 => ?_
        exact ⟨a, d, es, n, rfl, h1, h2, h3, h4, h5⟩
      | _ => simp [instV, q] at e
  | _ => cases e
theorem attrOf_inst {v : V} {k : Nat} {u : V} (e : attrOf σ v k = some u) : ∃ C ks vs, instV σ v = some (C, ks, vs) ∧ methOf C k = none ∧ findK ks vs k = some u := by
  have key : ∀ {C ks vs}, (if (methOf C k).isSome then none else findK ks vs k) = some u → methOf C k = none ∧ findK ks vs k = some u := fun {C ks vs} e => by
    cases q : methOf C k with
    | none => rw [q] at e; exact ⟨rfl, e⟩
    | some f => rw [q] at e; cases e
  cases v with
  | obj C ks vs => exact ⟨C, ks, vs, rfl, key e⟩
  | ref a =>
    cases q : σ a with
    | none => simp [attrOf, q] at e
    | some o =>
      cases o with
      | inst C ks vs => simp only [attrOf, q] at e; exact ⟨C, ks, vs, by simp only [instV, q], key e⟩
      | _ => simp [attrOf, q] at e
  | _ => cases e
theorem methAt_inst {v : V} {k : Nat} {f : Addr} (e : methAt σ v k = some f) : ∃ C ks vs, instV σ v = some (C, ks, vs) ∧ methOf C k = some f ∧ k ∉ ks := by
  have key : ∀ {C : Addr} {ks : List Nat}, (if k ∈ ks then none else methOf C k) = some f → methOf C k = some f ∧ k ∉ ks := fun {C ks} e => by
    by_cases q : k ∈ ks
    · rw [if_pos q] at e; cases e
    · rw [if_neg q] at e; exact ⟨e, q⟩
  cases v with
  | obj C ks vs => exact ⟨C, ks, vs, rfl, key e⟩
  | ref a =>
    cases q : σ a with
    | none => simp [methAt, q] at e
    | some o =>
      cases o with
      | inst C ks vs => simp only [methAt, q] at e; exact ⟨C, ks, vs, by simp only [instV, q], key e⟩
      | _ => simp [methAt, q] at e
  | _ => cases e
noncomputable def attrSafe : Expr → Bool
  | .Name _ _ => true
  | .Attribute _ _ _ => true
  | .Subscript _ _ _ => true
  | _ => false
theorem attr_arm {x : Expr} (h : attrSafe x = true) (attr : Str) (pos : Pos) (env : Env) : eval (.Attribute x attr pos) env = (do
      let o ← eval x env
      standAt pos.atName
      let r ← holding [o] (getAttr o attr true)
      letTemporaryGo x o r
      pure r) := by
  cases x <;> first | rfl | cases h
theorem s_attr (g : Gok z) (a : At z n c fx) {x : Expr} {k : Nat} {pos : Pos} {W : (V → AH → Prop) → AH → Prop} (h : SE z c m fx ls X x W) (hx : attrSafe x = true) (hk : k < strMany) :
    SE z c m fx ls X (.Attribute x (strAt k) pos) (fun Q σ => W (fun v σ => match attrOf σ v k with | some u => Q u σ | none => False) σ) := fun Q Φ σ s l I w => by
  refine Attribute_any_ (h.bind l I w fun Φ₁ v' v σ₁ s₁ le l₁ hv I₁ q => ?_) (attr_arm hx _ _ _)
  · refine eS q fun u e q => ?_
    refine xEEEAA (attrOf_inst e) fun C ks vs e1 e2 e3 => ?_
    refine xEEEEAAAAA (I₁.instAt hv e1) fun ad d es n' u10 h1 h2 h3 h4 h5 => ?_; obtain rfl := u10
    refine xEA (getL_some hk h4 h5 e3) fun y g1 g2 => ?_
    have nm := g.name h3 hk
    rw [e2] at nm
    exact get_own (I₁.fr a.o) a.zo.X ⟨h1, rfl, rfl, h2⟩ (g.get h3 k) (g.dict h3) nm rfl g1 g2.handed ⟨Φ₁, u, σ₁, le, g2, I₁.tok, q⟩
theorem evalArgs_any {M : Model} {A : Around} {E : Value → Shared → Prop} {f : Value} {args : List (Bool × Sem Value)} {Q : Args → Shared → Prop} (hn : args.any (·.1) = false) (h : wpAny M A (spliced args) (fun vs s' => Q ⟨vs, []⟩ s') E s) : wpAny M A (evalArgs f true args []) Q E s := by
  cases args with
  | nil =>
    unfold evalArgs
    show wpAny M A (spliced [] >>= _) Q E s
    refine wpAny_bind (wpAny_mono h (fun vs s' h' => ?_) fun _ _ x => x)
    refine wpAny_bind (wpAny_pure (wpAny_holding ?_))
    exact wpAny_bind (wpAny_pure (wpAny_bind (wpAny_pure (wpAny_pure h'))))
  | cons p r =>
    obtain ⟨b, t⟩ := p
    rw [List.any_cons] at hn
    have : b = false := by cases b; rfl; cases hn
    subst this
    exact evalArgs_plain h
theorem callWith_of_SL {f : Addr} {first : List Value} {xs : List Expr} {pos : Pos} {Ws : (List V → AH → Prop) → AH → Prop} {Q : List V → AH → Prop} {P : Value → Shared → Prop} (a : At z n c fx) (hk : keepIn z.K (.ref f) = true) (h : SL z c m fx ls X xs Ws)
    (l : Lm fx z c m Φ ls) (I : Inv z c m Φ σ s) (w : Ws Q σ)
    (k : ∀ (Φ' : Fz) (vs' : List Value) (vs : List V) (σ' : AH) (s' : Shared), Φ.le Φ' → Lm fx z c m Φ' ls → Rvs z.K Φ' vs vs' → Inv z c m Φ' σ' s' → Q vs σ' → wpAny (model z.prog z.w) c.A (call (.ref f) (first ++ vs')) P (ERR z c Φ X) s') :
    wpAny (model z.prog z.w) c.A (callWith pos (.ref f) first (backTo pos (starEach xs c.env)) (backToKw pos (keywordEach [] c.env))) P (ERR z c Φ X) s := by
  obtain ⟨hb, hn⟩ := h.1 c.env pos
  rw [hb]
  have main : wpAny (model z.prog z.w) c.A (spliced (starEach xs c.env)) (fun vs s₁ => (z.K.In s₁.heap) ∧ wpAny (model z.prog z.w) c.A (call (.ref f) (first ++ vs)) P (ERR z c Φ X) s₁) (ERR z c Φ X) s := by
    refine wpAny_mono (h.run l I w) (fun vs' s₁ h₁ => ?_) fun _ _ e => e
    revert h₁; refine yEEEAAA fun Φ₁ us σ₁ le hu I₁ q => ?_
    exact ⟨a.zo.X.keeps I₁.base, k Φ₁ vs' us σ₁ s₁ le (l.mono le) hu I₁ q⟩
  refine callWith_of (P := fun h => z.K.In h) (by show ((starEach xs c.env).any (·.1) || false) = false; rw [hn]; rfl) (keeps_K hk) ?_
  exact evalArgs_any hn main
end
end Mine
end
noncomputable section
namespace Mine
section
variable {z : Z} {n : Nat} {c : Cx} {m : Str → Option Value} {fx : Fx} {ls : Ls} {X : AH → Prop} {Φ : Fz} {σ : AH} {s : Shared}
theorem Inv.withA {A : Around} (I : Inv z c m Φ σ s) : Inv z { c with A := A } m Φ σ s :=
  let ⟨G, L⟩ := I.led; ⟨I.gens, I.drawn, I.os, I.base, G, L.ok, L.new, L.cur, L.outs, L.hid, L.fro, L.own⟩
theorem Inv.ofA {A : Around} (I : Inv z { c with A := A } m Φ σ s) : Inv z c m Φ σ s :=
  let ⟨G, L⟩ := I.led; ⟨I.gens, I.drawn, I.os, I.base, G, L.ok, L.new, L.cur, L.outs, L.hid, L.fro, L.own⟩
theorem ExcSt.ofA {A : Around} {ea : Addr} {md : Md} (x : ExcSt z { c with A := A } m Φ σ ea md s) : ExcSt z c m Φ σ ea md s :=
  let ⟨G, B, a0, f, hf, L, h1, h2, h3⟩ := x.ex; ⟨x.gens, x.drawn, x.os, G, B, a0, f, hf, ⟨L.ok, L.new, L.cur, L.outs, L.hid, L.fro, L.own⟩, h1, h2, h3⟩
theorem RES.up {Φ' : Fz} {Q : V → AH → Prop} {r : Result} (le : Φ.le Φ') (x : RES z c m Φ' Q X r s) : RES z c m Φ Q X r s := by
  unfold RES at x ⊢
  split at x
  · exact x.mono le fun _ _ q => q
  · exact x.elim
  · revert x; refine yEEEAAA fun Φ₁ σ₁ ea e le' h q => ?_; exact ⟨Φ₁, σ₁, ea, e, le.trans le', h, q⟩
theorem call_sem {f : Addr} {args : List V} {vals : List Value} {Q : V → AH → Prop} (o : c.Ok z n) (h : SemCall z n f args σ Q X) (ha : Rvs z.K Φ args vals) (I : Inv z c m Φ σ s) :
    wpAny (model z.prog z.w) c.A (call (.ref f) vals) (OKE z c m Φ Q) (ERR z c Φ X) s :=
  wpAny_call (codeAny_mono (h c o s m Φ vals ha I) fun r s' hr => by
    cases r with
    | ok fl => cases fl with
      | ret v => exact hr
      | _ => exact hr
    | error e => revert hr; refine yEEEAAA fun Φ₁ σ₁ ea e le x q => ?_; exact ⟨Φ₁, σ₁, m, ea, .fly, e, le, x, q⟩)
theorem s_call (a : At z n c fx) {x : Str} {p pos : Pos} {f : Addr} {xs : List Expr} {Ws : (List V → AH → Prop) → AH → Prop} (h : SL z c m fx ls X xs Ws) (h1 : fx.isGlob x = true) (h2 : nsIn z.K mainGlobals x = some (some (.ref f))) (hk : keepIn z.K (.ref f) = true) :
    SE z c m fx ls X (.Call (.Name x p) xs [] pos) (fun Q σ => Ws (fun vs σ => SemCall z n f vs σ Q X) σ) := fun Q Φ σ s l I w => by
  show wpAny _ _ (do callWith pos (← eval (.Name x p) c.env) [] (backTo pos (starEach xs c.env)) (backToKw pos (keywordEach [] c.env))) _ _ s
  refine wpAny_bind (glob_any a I h1 h2 ?_)
  refine callWith_of_SL a hk h l I w fun Φ₁ vs' vs σ₁ s₁ le _ hv I₁ q => ok_up le ?_
  exact call_sem a.o q hv I₁
theorem methodCall_ok {o : Expr} {nm : Str} {apos pos : Pos} {xs : List Expr} {env : Env} {M : Model} {A : Around} {E : Value → Shared → Prop} {Q : Value → Shared → Prop} (hsafe : attrSafe o = true) (hpos : apos.endLine = pos.line) (hn : xs.length < 30) (hst : ∀ pos, (backTo pos (starEach xs env)).any (·.1) = false)
    (h : wpAny M A (eval o env) (fun ov s₁ => wpAny M A (getMethod ov nm (do return (← importBound o env).getD true)) (fun fx s₂ => wpAny M A (callWith pos fx.1 fx.2 (backTo pos (starEach xs env)) (backToKw pos (keywordEach [] env))) Q E s₂) E s₁) E s) :
    wpAny M A (eval (.Call (.Attribute o nm apos) xs [] pos) env) Q E s := by
  have e1 : eval (.Call (.Attribute o nm apos) xs [] pos) env = (do
      let ov ← eval o env
      standAt apos.atName
      methodCall o nm apos pos env ov (xs.length + 0) (backTo pos (starEach xs env)) (backToKw pos (keywordEach [] env))) := by
    cases o <;> first | rfl | cases hsafe
  have few : methodCallForm (xs.length + 0) (backTo pos (starEach xs env)) (backToKw pos (keywordEach [] env)) = true := by
    unfold methodCallForm
    have := hst pos
    rw [Bool.and_eq_true, Bool.and_eq_true]
    refine ⟨⟨?_, rfl⟩, ?_⟩
    · rw [List.all_eq_true]
      intro x hx
      rw [List.any_eq_false] at this
      simpa using this x hx
    · show decide (xs.length + 0 + (if (backToKw pos (keywordEach [] env)).isEmpty then 0 else 1) < 30) = true
      have : (backToKw pos (keywordEach [] env)).isEmpty = true := rfl
      rw [this, if_pos rfl]; exact decide_eq_true (by omega)
  rw [e1]
  refine wpAny_bind (wpAny_mono h (fun ov s₁ h₁ => wpAny_bind (wpAny_standAt ?_)) fun _ _ x => x)
  unfold methodCall
  rw [few]
  unfold calleeOf methodCallPos
  simp only [if_true, hpos]
  refine wpAny_bind (wpAny_holding (wpAny_mono h₁ (fun fx s₂ h₂ => ?_) fun _ _ x => x))
  obtain ⟨f, first⟩ := fx
  dsimp only
  simp only [beq_self_eq_true, Bool.not_true, Bool.false_or, if_true]
  exact wpAny_bind (wpAny_pure h₂)
theorem SL.noStar {xs : List Expr} {Ws : (List V → AH → Prop) → AH → Prop} (h : SL z c m fx ls X xs Ws) : ∀ pos, (backTo pos (starEach xs c.env)).any (·.1) = false := fun pos => by
  rw [(h.1 c.env pos).1]; exact (h.1 c.env pos).2
theorem s_meth (g : Gok z) (a : At z n c fx) {x : Expr} {k : Nat} {apos pos : Pos} {xs : List Expr} {W : (V → AH → Prop) → AH → Prop} {Ws : (List V → AH → Prop) → AH → Prop} (h : SE z c m fx ls X x W) (hs : SL z c m fx ls X xs Ws)
    (hsafe : attrSafe x = true) (hpos : apos.endLine = pos.line) (hn : xs.length < 30) (hk : k < strMany) :
    SE z c m fx ls X (.Call (.Attribute x (strAt k) apos) xs [] pos) (fun Q σ => W (fun v σ => match methAt σ v k with
      | some f => Ws (fun vs σ => SemCall z n f (v :: vs) σ Q X) σ
      | none => False) σ) := fun Q Φ σ s l I w => by
  refine methodCall_ok hsafe hpos hn hs.noStar (h.bind l I w fun Φ₁ v' v σ₁ s₁ le l₁ hv I₁ q => ?_)
  · refine eSa q fun f e q => ?_
    refine xEEEAA (methAt_inst e) fun C ks vs e1 e2 e3 => ?_
    refine xEEEEAAAAA (I₁.instAt hv e1) fun ad d es n' u1 h1 h2 h3 h4 h5 => ?_; obtain rfl := u1
    have nm := g.name h3 hk
    rw [e2] at nm
    revert nm; refine yAA fun nm1 nm2 nm3 => ?_
    refine method_inst (I₁.fr a.o) a.zo.X ⟨h1, rfl, rfl, h2⟩ (g.get h3 k) nm1 nm2 (getL_none hk h4 e3) ?_
    refine err_up le (callWith_of_SL a nm3 hs l₁ I₁ q fun Φ₂ vs' vs σ₂ s₂ le₂ _ hv₂ I₂ q₂ => ?_)
    exact err_up le₂ (wpAny_mono (call_sem a.o q₂ (Φ := Φ₂) (vals := .ref ad :: vs') ⟨_, _, rfl, hv.mono le₂, hv₂⟩ I₂) (fun _ _ x => x.mono (le.trans le₂) fun _ _ q => q) fun _ _ x => x)
theorem tc_units (C : Addr) (vals : List Value) : Code.cUnits (.builtin "type.__call__" ⟨.ref C :: vals, []⟩) ≤ 10 := by
  have : Code.cUnits (.builtin "type.__call__" ⟨.ref C :: vals, []⟩) = 1 := rfl
  omega
theorem Cx.Ok.under {C : Addr} {vals : List Value} (o : c.Ok z n) (h : 1 ≤ n) : ({ c with A := c.A.under (.builtin "type.__call__" ⟨.ref C :: vals, []⟩) } : Cx).Ok z (n - 1) where
  hA := by
    show pushEnvs [] c.A.frames = _
    exact o.hA
  fr := o.fr
  ne := o.ne
  abv := o.abv
  hd := o.hd
  depth := by have := o.depth; show c.A.depth + 1 + 3 * (n - 1) + 20 ≤ 1000; omega
  units := by
    have := o.units
    show c.A.units + Code.cUnits (.builtin "type.__call__" ⟨.ref C :: vals, []⟩) + 12 * (n - 1) + 200 ≤ 9900
    have : Code.cUnits (.builtin "type.__call__" ⟨.ref C :: vals, []⟩) ≤ 10 := tc_units C vals
    omega
  ek := o.ek
  eg := o.eg
  eb := o.eb
  ef := o.ef
  top := o.top
theorem s_new (g : Gok z) (a : At z n c fx) {x : Str} {p pos : Pos} {C fi : Addr} {xs : List Expr} {Ws : (List V → AH → Prop) → AH → Prop} (h : SL z c m fx ls X xs Ws) (h1 : fx.isGlob x = true) (h2 : nsIn z.K mainGlobals x = some (some (.ref C))) (hk : keepIn z.K (.ref C) = true) (hC : C ∈ ownCls)
    (hi : findIn z.K (.ref C) "__init__" = some (some (.ref fi))) (hf : typeIn z.K (.ref fi) = some (.type "function")) :
    SE z c m fx ls X (.Call (.Name x p) xs [] pos) (fun Q σ => Ws (fun vs σ => 1 ≤ n ∧ ∀ a, σ a = none → SemCall z (n - 1) fi (.ref a :: vs) (σ.set a (some (.inst C [] []))) (fun v σ => v = .none ∧ Q (.ref a) σ) X) σ) := fun Q Φ σ s l I w => by
  show wpAny _ _ (do callWith pos (← eval (.Name x p) c.env) [] (backTo pos (starEach xs c.env)) (backToKw pos (keywordEach [] c.env))) _ _ s
  refine wpAny_bind (glob_any a I h1 h2 ?_)
  refine callWith_of_SL a hk h l I w fun Φ₁ vs' vs σ₁ s₁ le _ hv I₁ q => ok_up le ?_
  obtain ⟨q0, q⟩ := q
  refine wpAny_call ?_
  obtain ⟨hh, gg, d, t, os⟩ := s₁
  have kp : ∀ b o, hh.get? b = some o → ((hh.push emptyDict).push (instObj C hh.objs.size)).get? b = some o := fun b o e => Heap.get?_push_of_some _ (Heap.get?_push_of_some _ e)
  have hx : ((hh.push emptyDict).push (instObj C hh.objs.size)).get? (hh.objs.size + 1) = some (instObj C hh.objs.size) := by
    have := Heap.get?_push_size (hh.push emptyDict) (o := instObj C hh.objs.size) rfl
    rwa [Heap.size_push] at this
  have hy : ((hh.push emptyDict).push (instObj C hh.objs.size)).get? hh.objs.size = some emptyDict := Heap.get?_push_of_some _ (Heap.get?_push_size _ rfl)
  refine make_core (makes_of (a.zo.X.keeps I₁.base) (g.makes hC)) (looks_findIn (a.zo.X.keeps I₁.base) hi) (fun self => bind_fn (a.zo.X.keeps I₁.base) self hf) (.inl rfl) ?_
  have I₂ := I₁.newInst (t := t) a.o (a := hh.objs.size + 1) (d := hh.objs.size) (C := C) (h' := (hh.push emptyDict).push (instObj C hh.objs.size)) (Nat.le_succ _) (Nat.le_refl _) (Nat.succ_ne_self _) (Kp.of_keeps kp) hx hy hC
  have hn := I₁.fresh_none (a := hh.objs.size + 1) (none_of_size (by show hh.objs.size ≤ _; omega))
  have := q _ hn _ (a.o.under (C := C) (vals := vs') q0) _ m Φ₁ (.ref (hh.objs.size + 1) :: vs') ⟨_, _, rfl, rfl, hv⟩ I₂.withA
  refine codeAny_mono this fun r s' hr => ?_
  cases r with
  | ok fl => cases fl with
    | ret v =>
      revert hr; refine yEEEAAAA fun Φ₂ v' σ₂ le₂ r1 r2 r3 r4 => ?_
      subst r3
      have r1 : v = .none := r1
      exact ⟨r1, Φ₂, .ref _, σ₂, le₂, rfl, r2.ofA, r4⟩
    | _ => exact hr.elim
  | error e => revert hr; refine yEEEAAA fun Φ₂ σ₂ ea r1 le₂ x q => ?_; exact ⟨Φ₂, σ₂, m, ea, .fly, r1, le₂, x.ofA, q⟩
end
end Mine
end
noncomputable section
namespace Mine
section
variable {z : Z} {n : Nat} {c : Cx} {m : Str → Option Value} {fx : Fx} {ls : Ls} {X : AH → Prop} {Φ : Fz} {σ : AH} {s : Shared} {h' : Heap} {t : Nat}
theorem Inv.sbList {a : Addr} {vs vs' : List V} {ws : Array Value} {n' : Nat} (o : c.Ok z n) (I : Inv z c m Φ σ s) (e : σ a = some (.list vs)) (hs : Heap.SameBut a s.heap h') (hx : h'.get? a = some (listOf ws n')) (hb : vs'.length ≤ 1000000) (r : Rvs z.K Φ vs' ws.toList) :
    Inv z c m Φ (σ.set a (some (.list vs'))) { s with heap := h', toks := t } :=
  I.setList o e (fun b x hb hx => (hs.2 b (by simp only [List.mem_cons, List.not_mem_nil, or_false, not_or] at hb; exact hb.2)).trans hx) ((I.fr o).ns.sameBut hs (Ne.symm (I.ownL e))) hx hb r
theorem isL_list {v : V} {v' : Value} (h : isL σ v = true) (hv : Rv z.K Φ v v') : ∃ a vs, v = .ref a ∧ v' = .ref a ∧ σ a = some (.list vs) := by
  cases v with
  | ref a =>
    cases q : σ a with
    | none => simp [isL, q] at h
    | some o => cases o with
      | list vs => exact ⟨a, vs, rfl, hv, q⟩
      | _ => simp [isL, q] at h
  | _ => cases h
theorem list_method {a : Addr} {ws : Array Value} {n' : Nat} {nm : Str} {id : String} {pl : Sem Bool} {P : Value × List Value → Shared → Prop} {E : Value → Shared → Prop} {A : Around} (e : s.heap.get? a = some (listOf ws n')) (slot : Slot "list" nm id) (hty : typeOf (.builtin id) = pure (.type "method_descriptor"))
    (h : P (.builtin id, [.ref a]) s) : wpAny (model z.prog z.w) A (getMethod (.ref a) nm pl) P E s :=
  getMethod_builtin ⟨_, e, rfl⟩ PySem.F.plainAttrs_list slot hty (fun a' e' => by cases e'; exact ⟨_, e, rfl⟩) h
theorem starEach_two {x y : Expr} {env : Env} (hx : ∀ e p, x ≠ .Starred e p) (hy : ∀ e p, y ≠ .Starred e p) : starEach [x, y] env = [(false, eval x env), (false, eval y env)] := by
  rw [starEach_cons hx, starEach_cons hy]; rfl
theorem starEach_one {y : Expr} {env : Env} (hy : ∀ e p, y ≠ .Starred e p) : starEach [y] env = [(false, eval y env)] := by
  rw [starEach_cons hy]; rfl
theorem bi0 {id : String} {first : List Value} {pos : Pos} {P : Value → Shared → Prop} {E : Value → Shared → Prop} {A : Around} {env : Env} (k : wpAny (model z.prog z.w) A (call (.builtin id) (first ++ [])) P E s) :
    wpAny (model z.prog z.w) A (callWith pos (.builtin id) first (backTo pos (starEach [] env)) (backToKw pos (keywordEach [] env))) P E s :=
  Calls.callWith_builtin rfl (evalArgs_any rfl (Calls.spliced_nil k))
theorem bi1 {id : String} {first : List Value} {y : Expr} {pos : Pos} {W : (V → AH → Prop) → AH → Prop} {Q : V → AH → Prop} {P : Value → Shared → Prop} (h : SE z c m fx ls X y W) (hy : ∀ e p, y ≠ .Starred e p)
    (l : Lm fx z c m Φ ls) (I : Inv z c m Φ σ s) (w : W Q σ)
    (k : ∀ (Φ' : Fz) (v' : Value) (v : V) (σ' : AH) (s' : Shared), Φ.le Φ' → Lm fx z c m Φ' ls → Rv z.K Φ' v v' → Inv z c m Φ' σ' s' → Q v σ' → wpAny (model z.prog z.w) c.A (call (.builtin id) (first ++ [v'])) P (ERR z c Φ X) s') :
    wpAny (model z.prog z.w) c.A (callWith pos (.builtin id) first (backTo pos (starEach [y] c.env)) (backToKw pos (keywordEach [] c.env))) P (ERR z c Φ X) s := by
  rw [starEach_one hy]
  exact Calls.callWith_builtin rfl (evalArgs_any rfl (Calls.spliced_cons (h.bind l I w fun Φ₁ v' v σ₁ s₁ le l₁ hv I₁ q => Calls.spliced_nil (k Φ₁ v' v σ₁ s₁ le l₁ hv I₁ q))))
theorem bi2 {id : String} {first : List Value} {x y : Expr} {pos : Pos} {W1 W2 : (V → AH → Prop) → AH → Prop} {Q : V → V → AH → Prop} {P : Value → Shared → Prop} (h1 : SE z c m fx ls X x W1) (h2 : SE z c m fx ls X y W2) (hx : ∀ e p, x ≠ .Starred e p) (hy : ∀ e p, y ≠ .Starred e p)
    (l : Lm fx z c m Φ ls) (I : Inv z c m Φ σ s) (w : W1 (fun u σ => W2 (Q u) σ) σ)
    (k : ∀ (Φ' : Fz) (u' v' : Value) (u v : V) (σ' : AH) (s' : Shared), Φ.le Φ' → Lm fx z c m Φ' ls → Rv z.K Φ' u u' → Rv z.K Φ' v v' → Inv z c m Φ' σ' s' → Q u v σ' → wpAny (model z.prog z.w) c.A (call (.builtin id) (first ++ [u', v'])) P (ERR z c Φ X) s') :
    wpAny (model z.prog z.w) c.A (callWith pos (.builtin id) first (backTo pos (starEach [x, y] c.env)) (backToKw pos (keywordEach [] c.env))) P (ERR z c Φ X) s := by
  rw [starEach_two hx hy]
  exact Calls.callWith_builtin rfl (evalArgs_any rfl (Calls.spliced_cons (h1.bind l I w fun Φ₁ u' u σ₁ s₁ le l₁ hu I₁ q => err_up le (Calls.spliced_cons (h2.bind l₁ I₁ q fun Φ₂ v' v σ₂ s₂ le₂ l₂ hv I₂ q₂ =>
    Calls.spliced_nil (k Φ₂ u' v' u v σ₂ s₂ (le.trans le₂) l₂ (hu.mono le₂) hv I₂ q₂))))))
theorem bt1 {T : String} {y : Expr} {pos : Pos} {W : (V → AH → Prop) → AH → Prop} {Q : V → AH → Prop} {P : Value → Shared → Prop} (h : SE z c m fx ls X y W) (hy : ∀ e p, y ≠ .Starred e p)
    (l : Lm fx z c m Φ ls) (I : Inv z c m Φ σ s) (w : W Q σ)
    (k : ∀ (Φ' : Fz) (v' : Value) (v : V) (σ' : AH) (s' : Shared), Φ.le Φ' → Lm fx z c m Φ' ls → Rv z.K Φ' v v' → Inv z c m Φ' σ' s' → Q v σ' → wpAny (model z.prog z.w) c.A (call (.type T) [v']) P (ERR z c Φ X) s') :
    wpAny (model z.prog z.w) c.A (callWith pos (.type T) [] (backTo pos (starEach [y] c.env)) (backToKw pos (keywordEach [] c.env))) P (ERR z c Φ X) s := by
  rw [starEach_one hy]
  exact PySem.callWith_type rfl (evalArgs_any rfl (Calls.spliced_cons (h.bind l I w fun Φ₁ v' v σ₁ s₁ le l₁ hv I₁ q => Calls.spliced_nil (k Φ₁ v' v σ₁ s₁ le l₁ hv I₁ q))))
theorem noStar1 {y : Expr} {env : Env} (hy : ∀ e p, y ≠ .Starred e p) : ∀ pos, (backTo pos (starEach [y] env)).any (·.1) = false := fun pos => by rw [starEach_one hy]; rfl
theorem noStar2 {x y : Expr} {env : Env} (hx : ∀ e p, x ≠ .Starred e p) (hy : ∀ e p, y ≠ .Starred e p) : ∀ pos, (backTo pos (starEach [x, y] env)).any (·.1) = false := fun pos => by rw [starEach_two hx hy]; rfl
theorem s_append (a : At z n c fx) {x y : Expr} {apos pos : Pos} {W1 W2 : (V → AH → Prop) → AH → Prop} (h1 : SE z c m fx ls X x W1) (h2 : SE z c m fx ls X y W2) (hsafe : attrSafe x = true) (hpos : apos.endLine = pos.line) (hy : ∀ e p, y ≠ .Starred e p) :
    SE z c m fx ls X (.Call (.Attribute x "append" apos) [y] [] pos) (fun Q σ => W1 (fun v σ => isL σ v = true ∧ W2 (fun u σ => match v with
    | .ref b => match σ b with
      | some (.list vs) => vs.length < 1000000 ∧ Q .none (σ.set b (some (.list (vs ++ [u]))))
      | _ => False
    | _ => False) σ) σ) := fun Q Φ σ s l I w => by
  refine methodCall_ok hsafe hpos (by simp) (noStar1 hy) (h1.bind l I w fun Φ₁ v' v σ₁ s₁ le l₁ hv I₁ q => ?_)
  obtain ⟨q0, q⟩ := q
  refine xEEAA (isL_list q0 hv) fun b vs u1 u2 e => ?_; obtain rfl := u1; obtain rfl := u2
  refine xEEAA (I₁.listAt e) fun ws n' e1 hb r => ?_
  refine list_method e1 slot_list_append type_list_append (err_up le ?_)
  refine bi1 h2 hy l₁ I₁ q fun Φ₂ u' u σ₂ s₂ le₂ _ hu I₂ q₂ => ?_
  dsimp only at q₂
  split at q₂
  · rename_i vs₂ e₂
    refine xEEAA (I₂.listAt e₂) fun ws₂ n₂ f1 f2 f3 => ?_
    refine append_at f1 (fun h' hs hx => ?_) (by have := f3.length; rw [Array.length_toList] at this; rw [this, sizeLine_eq]; omega)
    exact ⟨Φ₂, .none, _, le.trans le₂, rfl, I₂.sbList (t := s₂.toks) a.o e₂ hs hx (by simp; omega) (by rw [Array.toList_push]; exact f3.append (.one hu)), q₂.2⟩
  · exact q₂.elim
theorem s_pop (a : At z n c fx) {x : Expr} {apos pos : Pos} {W1 : (V → AH → Prop) → AH → Prop} (h1 : SE z c m fx ls X x W1) (hsafe : attrSafe x = true) (hpos : apos.endLine = pos.line) :
    SE z c m fx ls X (.Call (.Attribute x "pop" apos) [] [] pos) (fun Q σ => W1 (fun v σ => match v with
    | .ref b => match σ b with
      | some (.list vs) => match vs.getLast? with
        | some u => Q u (σ.set b (some (.list vs.dropLast)))
        | none => False
      | _ => False
    | _ => False) σ) := fun Q Φ σ s l I w => by
  refine methodCall_ok hsafe hpos (by simp) (fun _ => rfl) (h1.bind l I w fun Φ₁ v' v σ₁ s₁ le l₁ hv I₁ q => ?_)
  · refine eR q fun b rb q => ?_
    subst rb
    have hv : v' = .ref b := hv
    subst hv
    · refine eO q fun vs e q => ?_
      · refine eS q fun u hu q => ?_
        refine xEEAA (I₁.listAt e) fun ws n' e1 hb r => ?_
        refine list_method e1 PySem.F.slot_list_pop PySem.F.type_list_pop (bi0 ?_)
        have hlen := r.length
        rw [Array.length_toList] at hlen
        have hne : vs ≠ [] := by rintro rfl; cases hu
        have hpos : 0 < vs.length := List.length_pos_iff.mpr hne
        refine xEA (r.get (vs.length - 1) u (by rw [← List.getLast?_eq_getElem?]; exact hu)) fun y g1 g2 => ?_
        have hy : ws[ws.size - 1]? = some y := by rw [← Array.getElem?_toList, hlen]; exact g1
        have hk : ws.eraseIdxIfInBounds (ws.size - 1) = ws.pop := by
          rw [Array.eraseIdxIfInBounds]
          rw [dif_pos (by omega)]
          apply Array.toList_inj.mp
          rw [Array.toList_eraseIdx, Array.toList_pop]
          rw [List.eraseIdx_eq_dropLast]
          rw [Array.length_toList]; omega
        refine call_meets PySem.F.slot_list_pop ⟨_, e1, rfl⟩ PySem.F.entry_list_pop (PySem.F.args_list_pop_1 _) (PySem.MeetsSeq.list_pop_last b ws n' y hy (by rw [hlen, sizeLine_eq]; omega)) ⟨e1, ?_⟩
        have hx := PySem.IsL.update (show PySem.IsL s₁.heap b ws n' from e1) (fun xs => xs.eraseIdxIfInBounds (ws.size - 1))
        have hx : (s₁.heap.update b (Obj.mapSeq fun xs => xs.eraseIdxIfInBounds (ws.size - 1))).get? b = some (listOf ws.pop (if (ws.eraseIdxIfInBounds (ws.size - 1)).size == ws.size then n' else n' + 1)) := by
          have hx : _ = some (listOf _ _) := hx
          rw [hk] at hx ⊢; exact hx
        exact ⟨Φ₁, u, _, le, g2, I₁.sbList (t := s₁.toks) a.o e (Heap.SameBut.update ..) hx (by rw [List.length_dropLast]; omega) (by rw [Array.toList_pop, List.dropLast_eq_take, List.dropLast_eq_take, r.length]; exact r.take _), q⟩
theorem rv_int {i : Int} {v' : Value} (hv : Rv z.K Φ (.int i) v') : ∃ t, v' = .int i t := hv
theorem fits_of {i : Int} (h0 : 0 ≤ i) (h1 : i ≤ 1000000) : Builtin.List.listFitsIndex i = true := by
  unfold Builtin.List.listFitsIndex
  simp only [Bool.and_eq_true, decide_eq_true_eq]
  omega
theorem s_popAt (a : At z n c fx) {x y : Expr} {apos pos : Pos} {W1 W2 : (V → AH → Prop) → AH → Prop} (h1 : SE z c m fx ls X x W1) (h2 : SE z c m fx ls X y W2) (hsafe : attrSafe x = true) (hpos : apos.endLine = pos.line) (hy : ∀ e p, y ≠ .Starred e p) :
    SE z c m fx ls X (.Call (.Attribute x "pop" apos) [y] [] pos) (fun Q σ => W1 (fun v σ => isL σ v = true ∧ W2 (fun u σ => match v, u with
    | .ref b, .int i => match σ b with
      | some (.list vs) => match vs[i.toNat]? with
        | some u => 0 ≤ i ∧ Q u (σ.set b (some (.list (vs.eraseIdx i.toNat))))
        | none => False
      | _ => False
    | _, _ => False) σ) σ) := fun Q Φ σ s l I w => by
  refine methodCall_ok hsafe hpos (by simp) (noStar1 hy) (h1.bind l I w fun Φ₁ v' v σ₁ s₁ le l₁ hv I₁ q => ?_)
  obtain ⟨q0, q⟩ := q
  refine xEEAA (isL_list q0 hv) fun b vs u3 u4 e => ?_; obtain rfl := u3; obtain rfl := u4
  refine xEEAA (I₁.listAt e) fun ws n' e1 hb r => ?_
  refine list_method e1 PySem.F.slot_list_pop PySem.F.type_list_pop (err_up le ?_)
  refine bi1 h2 hy l₁ I₁ q fun Φ₂ u' u σ₂ s₂ le₂ _ hu I₂ q₂ => ?_
  cases u with
  | int i =>
    obtain ⟨tk, rfl⟩ := rv_int hu
    · refine eO q₂ fun vs₂ e₂ q₂ => ?_
      · refine eS q₂ fun u₂ hu₂ q₂ => ?_
        refine xEEAA (I₂.listAt e₂) fun ws₂ n₂ f1 f2 f3 => ?_
        have hlen := f3.length
        rw [Array.length_toList] at hlen
        refine xEA (f3.get _ _ hu₂) fun y' g1 g2 => ?_
        have hi : i.toNat < vs₂.length := (List.getElem?_eq_some_iff.mp hu₂).1
        have hk : seqIndex? i ws₂.size = some i.toNat := by
          unfold seqIndex?
          have : ¬ i < 0 := by omega
          simp only [this, if_false]
          rw [if_pos]
          simp only [Bool.and_eq_true, decide_eq_true_eq]
          omega
        have hy' : ws₂[i.toNat]? = some y' := by rw [← Array.getElem?_toList]; exact g1
        refine call_meets PySem.F.slot_list_pop ⟨_, f1, rfl⟩ PySem.F.entry_list_pop (PySem.F.args_list_pop_2 _ _) (PySem.MeetsSeq.list_pop_at b ws₂ n₂ i tk i.toNat y' (fits_of q₂.1 (by omega)) hk hy' (by rw [hlen, sizeLine_eq]; omega)) ⟨f1, ?_⟩
        have hx := PySem.IsL.update (show PySem.IsL s₂.heap b ws₂ n₂ from f1) (fun xs => xs.eraseIdxIfInBounds i.toNat)
        have hk2 : (ws₂.eraseIdxIfInBounds i.toNat).toList = ws₂.toList.eraseIdx i.toNat := by
          rw [Array.eraseIdxIfInBounds, dif_pos (by omega), Array.toList_eraseIdx]
        refine ⟨Φ₂, u₂, _, le.trans le₂, g2, I₂.sbList (t := s₂.toks) a.o e₂ (Heap.SameBut.update ..) hx ?_ ?_, q₂.2⟩
        · rw [List.length_eraseIdx]; split <;> omega
        · rw [hk2, List.eraseIdx_eq_take_drop_succ, List.eraseIdx_eq_take_drop_succ]
          exact (f3.take _).append (f3.drop _)
  | _ => exact q₂.elim
theorem s_insert (a : At z n c fx) {x y y2 : Expr} {apos pos : Pos} {W1 W2 W3 : (V → AH → Prop) → AH → Prop} (h1 : SE z c m fx ls X x W1) (h2 : SE z c m fx ls X y W2) (h3 : SE z c m fx ls X y2 W3) (hsafe : attrSafe x = true) (hpos : apos.endLine = pos.line) (hy : ∀ e p, y ≠ .Starred e p) (hy2 : ∀ e p, y2 ≠ .Starred e p) :
    SE z c m fx ls X (.Call (.Attribute x "insert" apos) [y, y2] [] pos) (fun Q σ => W1 (fun v σ => isL σ v = true ∧ W2 (fun u σ => W3 (fun w σ => match v, u with
    | .ref b, .int i => match σ b with
      | some (.list vs) => 0 ≤ i ∧ i ≤ vs.length ∧ vs.length < 1000000 ∧ Q .none (σ.set b (some (.list (vs.take i.toNat ++ w :: vs.drop i.toNat))))
      | _ => False
    | _, _ => False) σ) σ) σ) := fun Q Φ σ s l I w => by
  refine methodCall_ok hsafe hpos (by simp) (noStar2 hy hy2) (h1.bind l I w fun Φ₁ v' v σ₁ s₁ le l₁ hv I₁ q => ?_)
  obtain ⟨q0, q⟩ := q
  refine xEEAA (isL_list q0 hv) fun b vs u5 u6 e => ?_; obtain rfl := u5; obtain rfl := u6
  refine xEEAA (I₁.listAt e) fun ws n' e1 hb r => ?_
  refine list_method e1 PySem.F.slot_list_insert PySem.F.type_list_insert (err_up le ?_)
  refine bi2 h2 h3 hy hy2 l₁ I₁ q fun Φ₂ u' w' u w₂ σ₂ s₂ le₂ _ hu hw I₂ q₂ => ?_
  cases u with
  | int i =>
    obtain ⟨tk, rfl⟩ := rv_int hu
    · refine eO q₂ fun vs₂ e₂ q₂ => ?_
      revert q₂; refine yAAA fun q1 q2 q3 q₂ => ?_
      refine xEEAA (I₂.listAt e₂) fun ws₂ n₂ f1 f2 f3 => ?_
      have hlen := f3.length
      rw [Array.length_toList] at hlen
      refine call_meets PySem.F.slot_list_insert ⟨_, f1, rfl⟩ PySem.F.entry_list_insert (PySem.F.args_list_insert_3 _ _ _) (PySem.AutoSeq1.list_insert_list_int_val_1 b ws₂ n₂ i tk w' (by rw [fits_of q1 (by omega)]; decide) (by rw [hlen, sizeLine_eq]; omega)) ⟨f1, ?_⟩
      have hx := PySem.IsL.update (show PySem.IsL s₂.heap b ws₂ n₂ from f1) (fun xs => have k := if i < 0 then (i + (xs.size : Int)).toNat else min i.toNat xs.size; (xs.extract 0 k).push w' ++ xs.extract k)
      refine ⟨Φ₂, .none, _, le.trans le₂, rfl, I₂.sbList (t := s₂.toks) a.o e₂ (Heap.SameBut.update ..) hx ?_ ?_, q₂⟩
      · simp only [List.length_append, List.length_take, List.length_cons, List.length_drop]; omega
      · have hn : ¬ i < 0 := by omega
        have hm : min i.toNat ws₂.size = i.toNat := by omega
        simp only [hn, if_false, hm]
        rw [Array.toList_append, Array.toList_push, Array.toList_extract, Array.toList_extract, List.append_assoc]
        have t1 : (ws₂.toList.take i.toNat).drop 0 = ws₂.toList.take i.toNat := rfl
        have e1 : List.extract ws₂.toList 0 i.toNat = ws₂.toList.take i.toNat := by simp [List.extract]
        have e2 : List.extract ws₂.toList i.toNat ws₂.size = ws₂.toList.drop i.toNat := by
          simp only [List.extract]
          rw [List.take_of_length_le]
          rw [List.length_drop, Array.length_toList]; omega
        rw [e1, e2]
        exact (f3.take _).append ⟨w', _, rfl, hw, f3.drop _⟩
  | _ => exact q₂.elim
theorem keysS_get {K : Frag} {ks : List Nat} {vs : List V} {k : Nat} (hk : k < strMany) : ∀ {kvs : List (Str × Value)}, kvs.map (·.1) = ks.map strAt → (∀ k ∈ ks, k < strMany) → Rvs K Φ vs (kvs.map (·.2)) →
    ∃ x, Rv K Φ ((findK ks vs k).getD .none) ((valueAt kvs (strAt k)).getD x) ∧ x = .none ∧ ((valueAt kvs (strAt k)).isSome = decide (k ∈ ks)) := by
  intro kvs h1 h2 h3
  refine ⟨.none, ?_, rfl, ?_⟩
  · induction ks generalizing kvs vs with
    | nil =>
      have : kvs = [] := by cases kvs with | nil => rfl | cons _ _ => cases h1
      subst this
      simp [findK, valueAt, Rv]
    | cons j ks ih =>
      cases kvs with
      | nil => cases h1
      | cons p kvs =>
        obtain ⟨pk, pv⟩ := p
        simp only [List.map_cons, List.cons.injEq] at h1
        obtain ⟨rfl, h1⟩ := h1
        cases vs with
        | nil => cases h3
        | cons v vs =>
          revert h3; refine yEEAA fun y ys e hv hvs => ?_
          cases e
          have hj := h2 j (.head _)
          unfold findK valueAt
          rw [List.find?_cons]
          by_cases w : j = k
          · subst w; simp [hv]
          · have : strAt j ≠ strAt k := fun q => w (strAt_inj hj hk q)
            simp only [w, if_false, this, decide_false]
            exact ih h1 (fun k hk => h2 k (.tail _ hk)) hvs
  · induction ks generalizing kvs vs with
    | nil =>
      have : kvs = [] := by cases kvs with | nil => rfl | cons _ _ => cases h1
      subst this; simp [valueAt]
    | cons j ks ih =>
      cases kvs with
      | nil => cases h1
      | cons p kvs =>
        obtain ⟨pk, pv⟩ := p
        simp only [List.map_cons, List.cons.injEq] at h1
        obtain ⟨rfl, h1⟩ := h1
        cases vs with
        | nil => cases h3
        | cons v vs =>
          revert h3; refine yEEAA fun y ys e hv hvs => ?_
          cases e
          have hj := h2 j (.head _)
          unfold valueAt
          by_cases w : j = k
          · subst w; simp
          · have : strAt j ≠ strAt k := fun q => w (strAt_inj hj hk q)
            rw [List.find?_cons_of_neg (by simpa using this)]
            have := ih h1 (fun k hk => h2 k (.tail _ hk)) hvs
            unfold valueAt at this
            rw [this]
            simp [Ne.symm w]
theorem keysI_get {K : Frag} {ks : List Int} {vs : List V} {k : Int} : ∀ {kvs : List (Int × Value)}, kvs.map (·.1) = ks → Rvs K Φ vs (kvs.map (·.2)) →
    Rv K Φ ((findI ks vs k).getD .none) ((valueAt kvs k).getD .none) ∧ ((valueAt kvs k).isSome = decide (k ∈ ks)) := by
  intro kvs h1 h3
  subst h1
  constructor
  · induction kvs generalizing vs with
    | nil => simp [findI, valueAt, Rv]
    | cons p kvs ih =>
      obtain ⟨pk, pv⟩ := p
      cases vs with
      | nil => cases h3
      | cons v vs =>
        revert h3; refine yEEAA fun y ys e hv hvs => ?_
        simp only [List.map_cons, List.cons.injEq] at e
        obtain ⟨rfl, rfl⟩ := e
        unfold valueAt
        simp only [List.map_cons]
        unfold findI
        rw [List.find?_cons]
        by_cases w : pk = k
        · subst w; simp [hv]
        · simp only [w, if_false, decide_false]
          exact ih hvs
  · induction kvs generalizing vs with
    | nil => simp [valueAt]
    | cons p kvs ih =>
      obtain ⟨pk, pv⟩ := p
      cases vs with
      | nil => cases h3
      | cons v vs =>
        revert h3; refine yEEAA fun y ys e hv hvs => ?_
        simp only [List.map_cons, List.cons.injEq] at e
        obtain ⟨rfl, rfl⟩ := e
        unfold valueAt
        by_cases w : pk = k
        · subst w; simp
        · rw [List.find?_cons_of_neg (by simpa using w)]
          have := ih hvs
          unfold valueAt at this
          rw [this]
          simp [Ne.symm w]
theorem notModules (a : At z n c fx) {b : Addr} (h : z.h₀.objs.size ≤ b) : (b == sysModules) = false := by
  have := modules_low a.zo.T.nolimit
  rw [beq_eq_false_iff_ne]
  rintro rfl
  exact absurd this (Nat.not_lt.mpr h)
theorem s_dget (a : At z n c fx) {x y : Expr} {apos pos np : Pos} {kk : Nat} {W1 W2 : (V → AH → Prop) → AH → Prop} (h1 : SE z c m fx ls X x W1) (h2 : SE z c m fx ls X y W2) (hsafe : attrSafe x = true) (hpos : apos.endLine = pos.line) (hy : ∀ e p, y ≠ .Starred e p) :
    SE z c m fx ls X (.Call (.Attribute x "get" apos) [y, .Constant .none kk np] [] pos) (fun Q σ => W1 (fun v σ => isD σ v = true ∧ W2 (fun u σ => match v with
    | .ref b => match σ b, u with
      | some (.dictS ks vs), .str k => Q ((findK ks vs k).getD .none) σ
      | some (.dictI ks vs), .int k => Q ((findI ks vs k).getD .none) σ
      | _, _ => False
    | _ => False) σ) σ) := fun Q Φ σ s l I w => by
  refine methodCall_ok hsafe hpos (by simp) (noStar2 hy (by intro _ _ q; cases q)) (h1.bind l I w fun Φ₁ v' v σ₁ s₁ le l₁ hv I₁ q => ?_)
  obtain ⟨q0, q⟩ := q
  cases v with
  | ref b =>
    cases hv
    have hm : wpAny (model z.prog z.w) c.A (callWith pos (.builtin "dict.get") [.ref b] (backTo pos (starEach [y, .Constant .none kk np] c.env)) (backToKw pos (keywordEach [] c.env))) (OKE z c m Φ Q) (ERR z c Φ X) s₁ := by
      rw [starEach_two hy (by intro _ _ q; cases q)]
      refine Calls.callWith_builtin rfl (evalArgs_any rfl (Calls.spliced_cons (err_up le (h2.bind l₁ I₁ q fun Φ₂ u' u σ₂ s₂ le₂ _ hu I₂ q₂ => Calls.spliced_cons (Constant_none (pos := np) (k := kk) (Calls.spliced_nil ?_))))))
      show wpAny _ _ (call (.builtin "dict.get") [.ref b, u', .none]) _ _ _
      refine eDg (F := fun ks vs k => Q ((findK ks vs k).getD .none) σ₂) (G := fun ks vs k => Q ((findI ks vs k).getD .none) σ₂) q₂ (fun ks vs k e eu q3 => ?_) (fun ks vs k e eu q3 => ?_)
      · subst eu
        refine xEEAAA (I₂.dictSAt e) fun ob kvs f1 f2 u7 f6 => ?_; obtain ⟨⟨f3, f4⟩, f5⟩ := u7
        revert hu; refine yAE fun hk tk u8 => ?_; obtain rfl := u8
        refine xEAA (keysS_get (K := z.K) (vs := vs) hk f3 f4 f6) fun x g1 u9 _ => ?_; obtain rfl := u9
        have hD : s₂.heap.DictOf (PySem.strKind z.prog z.w) b kvs := Heap.dictOf_iff.mpr ⟨ob, f1, f2⟩
        exact call_meetsIn PySem.F.slot_dict_get hD.typeIs PySem.F.entry_dict_get (PySem.F.args_dict_get_3 _ _ _) (meets_dict_get_default (PySem.strKind z.prog z.w) b (k := strAt k) (strKind_is _ _ _ _) (notModules a f5) .none) ⟨_, hD.mapOf, ⟨Φ₂, _, σ₂, le.trans le₂, g1, I₂.tok, q3⟩⟩
      · subst eu
        refine xEEAAA (I₂.dictIAt e) fun ob kvs f1 f2 u10 f6 => ?_; obtain ⟨f3, f5⟩ := u10
        obtain ⟨tk, rfl⟩ := rv_int hu
        obtain ⟨g1, _⟩ := keysI_get (K := z.K) (vs := vs) (k := k) f3 f6
        have hD : s₂.heap.DictOf (PySem.intKind z.prog z.w) b kvs := Heap.dictOf_iff.mpr ⟨ob, f1, f2⟩
        exact call_meetsIn PySem.F.slot_dict_get hD.typeIs PySem.F.entry_dict_get (PySem.F.args_dict_get_3 _ _ _) (meets_dict_get_default (PySem.intKind z.prog z.w) b (k := k) (intKind_is _ _ _ _) (notModules a f5) .none) ⟨_, hD.mapOf, ⟨Φ₂, _, σ₂, le.trans le₂, g1, I₂.tok, q3⟩⟩
    refine eDd (show (match σ₁ b with
      | some (.dictS _ _) => true
      | some (.dictI _ _) => true
      | _ => false) = true from q0) (fun ks vs e => ?_) (fun ks vs e => ?_)
    · · refine xEEAA (I₁.dictSAt e) fun ob kvs f1 f2 _ => ?_
        have hD : s₁.heap.DictOf (PySem.strKind z.prog z.w) b kvs := Heap.dictOf_iff.mpr ⟨ob, f1, f2⟩
        exact getMethod_builtin hD.typeIs PySem.F.plainAttrs_dict PySem.F.slot_dict_get PySem.F.type_dict_get hD.mapOf.noDict hm
    · · refine xEEAA (I₁.dictIAt e) fun ob kvs f1 f2 _ => ?_
        have hD : s₁.heap.DictOf (PySem.intKind z.prog z.w) b kvs := Heap.dictOf_iff.mpr ⟨ob, f1, f2⟩
        exact getMethod_builtin hD.typeIs PySem.F.plainAttrs_dict PySem.F.slot_dict_get PySem.F.type_dict_get hD.mapOf.noDict hm
  | _ => cases q0
end
end Mine
end
noncomputable section
namespace Mine
noncomputable def isiCls : List Addr := [65, 149, 170, 245, 266, 287, 308, 329]
noncomputable def own6 (K : Frag) (D : Addr) : Bool := plainGet K D "__class__" && hasDictIn K D && decide (findIn K (.ref D) "__class__" = some (some (.builtin "object.__class__"))) && decide (mroIn K D (.type "object") = some true)
noncomputable def isiFacts (K : Frag) : Bool :=
  decide (specialIn K (.builtin "object.__class__") "__get__" = some (some (.builtin "getset_descriptor.__get__"))) && decide (takesIn K (.builtin "object.__class__") = some true) &&
  ((38 :: ownCls).all fun D => own6 K D && (isiCls.all fun C => kitOne K (.ref D) (.ref C) == some (D == C)) && (["int", "str", "tuple"].all fun T => kitOne K (.ref D) (.type T) == some false)) &&
  (["int", "str", "tuple", "NoneType"].all fun t => (isiCls.all fun C => kitOne K (.type t) (.ref C) == some false) && (["int", "str", "tuple"].all fun T => kitOne K (.type t) (.type T) == some (t == T)))
noncomputable def statFacts (K : Frag) : Bool := [44, 47].all fun a => match K.lookup a with
  | some ⟨.ref 38, some dx, .plain, _⟩ => (K.lookup dx).isSome
  | _ => false
structure Iok (z : Z) : Prop where
  isi : isiFacts z.K = true
  stat : statFacts z.K = true
theorem Iok.special {z : Z} (g : Iok z) : specialIn z.K (.builtin "object.__class__") "__get__" = some (some (.builtin "getset_descriptor.__get__")) ∧ takesIn z.K (.builtin "object.__class__") = some true := by
  have := g.isi
  unfold isiFacts at this
  simp only [Bool.and_eq_true] at this
  exact ⟨of_decide_eq_true this.1.1.1, of_decide_eq_true this.1.1.2⟩
theorem Iok.own {z : Z} (g : Iok z) {D : Addr} (hD : D ∈ 38 :: ownCls) : own6 z.K D = true ∧ (∀ C ∈ isiCls, kitOne z.K (.ref D) (.ref C) = some (D == C)) ∧ (∀ T ∈ ["int", "str", "tuple"], kitOne z.K (.ref D) (.type T) = some false) := by
  have := g.isi
  unfold isiFacts at this
  simp only [Bool.and_eq_true] at this
  have := List.all_eq_true.mp this.1.2 D hD
  simp only [Bool.and_eq_true] at this
  refine ⟨this.1.1, fun C hC => ?_, fun T hT => ?_⟩
  · have := List.all_eq_true.mp this.1.2 C hC; exact beq_iff_eq.mp this
  · have := List.all_eq_true.mp this.2 T hT; exact beq_iff_eq.mp this
theorem Iok.typ {z : Z} (g : Iok z) {t : String} (ht : t ∈ ["int", "str", "tuple", "NoneType"]) : (∀ C ∈ isiCls, kitOne z.K (.type t) (.ref C) = some false) ∧ (∀ T ∈ ["int", "str", "tuple"], kitOne z.K (.type t) (.type T) = some (t == T)) := by
  have := g.isi
  unfold isiFacts at this
  simp only [Bool.and_eq_true] at this
  have := List.all_eq_true.mp this.2 t ht
  simp only [Bool.and_eq_true] at this
  refine ⟨fun C hC => ?_, fun T hT => ?_⟩
  · have := List.all_eq_true.mp this.1 C hC; exact beq_iff_eq.mp this
  · have := List.all_eq_true.mp this.2 T hT; exact beq_iff_eq.mp this
theorem Iok.kitx {z : Z} (g : Iok z) {D : Addr} (hD : D ∈ 38 :: ownCls) {x : Addr} {ox od : Obj} : KitX z.K (.ref x) (.ref D) (fun h => InstAt h x ox D (some od)) := by
  have h6 := (g.own hD).1
  unfold own6 at h6
  simp only [Bool.and_eq_true] at h6
  exact kitx_own h6.1.1.1 h6.1.1.2 (of_decide_eq_true h6.1.2) g.special.1 g.special.2 (of_decide_eq_true h6.2)
noncomputable def Kind.val : Kind → Value
  | .own C => .ref C
  | .int => .type "int"
  | .str => .type "str"
  | .tup => .type "tuple"
noncomputable def Kind.ok : Kind → Bool
  | .own C => isiCls.contains C
  | _ => true
section
variable {z : Z} {n : Nat} {c : Cx} {m : Str → Option Value} {fx : Fx} {ls : Ls} {X : AH → Prop} {Φ : Fz} {σ : AH} {s : Shared} {h' : Heap} {t : Nat}
theorem Inv.stat (I : Inv z c m Φ σ s) (g : Iok z) (zo : z.Ok) {a : Addr} (h : a = 44 ∨ a = 47) : ∃ ox od, InstAt s.heap a ox 38 (some od) := by
  have := List.all_eq_true.mp g.stat a (by rcases h with rfl | rfl <;> simp)
  split at this
  · rename_i dx sl e
    obtain ⟨o, ho⟩ := Option.isSome_iff_exists.mp this
    exact ⟨_, o, I.base _ _ (zo.X _ _ e), rfl, rfl, I.base _ _ (zo.X _ _ ho)⟩
  · cases this
theorem isi_typ (g : Iok z) {t : String} (ht : t ∈ ["int", "str", "tuple", "NoneType"]) {k : Kind} (hk : k.ok = true) : kitOne z.K (.type t) k.val = some (match (generalizing := false) k with | .own _ => false | .int => t == "int" | .str => t == "str" | .tup => t == "tuple") := by
  cases k with
  | own C => exact (g.typ ht).1 C (List.contains_iff_mem.mp hk)
  | int => exact (g.typ ht).2 "int" (.head _)
  | str => exact (g.typ ht).2 "str" (.tail _ (.head _))
  | tup => exact (g.typ ht).2 "tuple" (.tail _ (.tail _ (.head _)))
theorem isi_own (g : Iok z) {D : Addr} (hD : D ∈ 38 :: ownCls) {k : Kind} (hk : k.ok = true) : kitOne z.K (.ref D) k.val = some (match (generalizing := false) k with | .own C => D == C | _ => false) := by
  cases k with
  | own C => exact (g.own hD).2.1 C (List.contains_iff_mem.mp hk)
  | int => exact (g.own hD).2.2 "int" (.head _)
  | str => exact (g.own hD).2.2 "str" (.tail _ (.head _))
  | tup => exact (g.own hD).2.2 "tuple" (.tail _ (.tail _ (.head _)))
theorem isi_38 {k : Kind} (hk : k.ok = true) : (match (generalizing := false) k with | .own C => 38 == C | _ => false) = false := by
  cases k with
  | own C =>
    have := List.contains_iff_mem.mp hk
    simp only [isiCls, List.mem_cons, List.not_mem_nil, or_false] at this
    rcases this with rfl | rfl | rfl | rfl | rfl | rfl | rfl | rfl <;> rfl
  | _ => rfl
theorem isi_ans (g : Iok z) (a : At z n c fx) (I : Inv z c m Φ σ s) {v : V} {v' : Value} {k : Kind} {b : Bool} (hv : Rv z.K Φ v v') (hk : k.ok = true) (e : isinstV σ k v = some b) {P : Value → Shared → Prop} {E : Value → Shared → Prop}
    (h : ∀ tk, P (.bool b) { s with toks := tk }) : wpAny (model z.prog z.w) c.A (call (.builtin "isinstance") [v', k.val]) P E s := by
  have X := a.zo.X.keeps I.base
  have inst : ∀ {C : Addr} {ks : List Nat} {vs : List V}, instV σ v = some (C, ks, vs) → (match (generalizing := false) k with | .own D => C == D | _ => false) = b → wpAny (model z.prog z.w) c.A (call (.builtin "isinstance") [v', k.val]) P E s := fun {C ks vs} q e => by
    refine xEEEEAAAAA (I.instAt hv q) fun ad d es n' u3 h1 h2 h3 h4 h5 => ?_; obtain rfl := u3
    exact kia_one (g.kitx (D := C) (.tail _ h3)) X ⟨h1, rfl, rfl, h2⟩ (e ▸ isi_own g (.tail _ h3) hk) nofun h
  cases v with
  | int i =>
    obtain ⟨tk, rfl⟩ := rv_int hv
    exact kia_one kitx_int X trivial ((isi_typ g (.head _) hk).trans ((congrArg some (by cases k <;> rfl)).trans e)) nofun h
  | str i =>
    obtain ⟨_, tk, rfl⟩ := hv
    exact kia_one kitx_str X trivial ((isi_typ g (.tail _ (.head _)) hk).trans ((congrArg some (by cases k <;> rfl)).trans e)) nofun h
  | none =>
    cases hv
    exact kia_one kitx_none X trivial ((isi_typ g (.tail _ (.tail _ (.tail _ (.head _)))) hk).trans ((congrArg some (by cases k <;> rfl)).trans e)) nofun h
  | tup l =>
    obtain ⟨ad, ws, n', rfl, h1, _⟩ := hv
    exact kia_one kitx_tuple X ⟨_, I.froAt h1, rfl⟩ ((isi_typ g (.tail _ (.tail _ (.head _))) hk).trans ((congrArg some (by cases k <;> rfl)).trans e)) nofun h
  | stat ad =>
    obtain ⟨rfl, hs⟩ := hv
    refine xEE (I.stat g a.zo hs) fun ox od hI => ?_
    exact kia_one (g.kitx (D := 38) (.head _)) X hI ((isi_own g (.head _) hk).trans ((congrArg some (isi_38 hk)).trans e)) nofun h
  | obj C ks vs => exact inst rfl (Option.some.inj e)
  | ref ad =>
    cases q : σ ad with
    | none => simp [isinstV, q] at e
    | some o =>
      cases o with
      | inst C ks vs =>
        simp only [isinstV, q] at e
        exact inst (C := C) (ks := ks) (vs := vs) (by simp only [instV, q]) (Option.some.inj e)
      | _ => simp [isinstV, q] at e
  | _ => cases e
noncomputable def kindOk (K : Frag) (fx : Fx) (k : Kind) : Expr → Bool
  | .Name x _ => fx.isGlob x && k.ok && (match k with
    | .own C => decide (nsIn K mainGlobals x = some (some (.ref C)))
    | .int => x == ("int" : Str) && decide (nsIn K mainGlobals x = some none)
    | .str => x == ("str" : Str) && decide (nsIn K mainGlobals x = some none)
    | .tup => x == ("tuple" : Str) && decide (nsIn K mainGlobals x = some none))
  | _ => false
theorem kind_name (a : At z n c fx) (I : Inv z c m Φ σ s) {k : Kind} {e : Expr} (h : kindOk z.K fx k e = true) {P : Value → Shared → Prop} {E : Value → Shared → Prop} (hp : P k.val s) : wpAny (model z.prog z.w) c.A (eval e c.env) P E s := by
  unfold kindOk at h
  split at h
  · rename_i x p
    simp only [Bool.and_eq_true] at h
    obtain ⟨⟨h1, h2⟩, h3⟩ := h
    cases k with
    | own C => exact glob_any a I h1 (of_decide_eq_true h3) hp
    | int =>
      simp only [Bool.and_eq_true, beq_iff_eq] at h3
      obtain ⟨rfl, h3⟩ := h3
      exact builtin_any a I h1 (of_decide_eq_true h3) (by decide +kernel : bootBuiltins "int" = some (.type "int")) (by decide) hp
    | str =>
      simp only [Bool.and_eq_true, beq_iff_eq] at h3
      obtain ⟨rfl, h3⟩ := h3
      exact builtin_any a I h1 (of_decide_eq_true h3) (by decide +kernel : bootBuiltins "str" = some (.type "str")) (by decide) hp
    | tup =>
      simp only [Bool.and_eq_true, beq_iff_eq] at h3
      obtain ⟨rfl, h3⟩ := h3
      exact builtin_any a I h1 (of_decide_eq_true h3) (by decide +kernel : bootBuiltins "tuple" = some (.type "tuple")) (by decide) hp
  · cases h
theorem kind_noStar {K : Frag} {k : Kind} {e : Expr} (h : kindOk K fx k e = true) : ∀ x p, e ≠ .Starred x p := by
  intro x p q; subst q; cases h
theorem call_name {x : Str} {p pos : Pos} {xs : List Expr} : eval (.Call (.Name x p) xs [] pos) c.env = (do callWith pos (← eval (.Name x p) c.env) [] (backTo pos (starEach xs c.env)) (backToKw pos (keywordEach [] c.env))) := rfl
structure Bi (K : Frag) (fx : Fx) (x : Str) (v : Value) : Prop where
  g : fx.isGlob x = true
  n : nsIn K mainGlobals x = some none
  b : bootBuiltins x = some v
  m : x ≠ "__name__"
theorem Bi.here {x : Str} {v : Value} {p : Pos} (b : Bi z.K fx x v) (a : At z n c fx) (I : Inv z c m Φ σ s) {P : Value → Shared → Prop} {E : Value → Shared → Prop} (h : P v s) : wpAny (model z.prog z.w) c.A (eval (.Name x p) c.env) P E s :=
  builtin_any a I b.g b.n b.b b.m h
theorem s_isinst (g : Iok z) (a : At z n c fx) {y k : Expr} {p pos : Pos} {kd : Kind} {W : (V → AH → Prop) → AH → Prop} (h : SE z c m fx ls X y W) (hy : ∀ e p, y ≠ .Starred e p) (hk : kindOk z.K fx kd k = true) (hko : kd.ok = true) (b : Bi z.K fx "isinstance" (.builtin "isinstance")) :
    SE z c m fx ls X (.Call (.Name "isinstance" p) [y, k] [] pos) (fun Q σ => W (fun v σ => match isinstV σ kd v with
    | some b => Q (.bool b) σ
    | none => False) σ) := fun Q Φ σ s l I w => by
  rw [call_name]
  refine wpAny_bind (b.here a I ?_)
  rw [starEach_two hy (kind_noStar hk)]
  refine Calls.callWith_builtin rfl (evalArgs_any rfl (Calls.spliced_cons (h.bind l I w fun Φ₁ v' v σ₁ s₁ le l₁ hv I₁ q => Calls.spliced_cons (kind_name a I₁ hk (Calls.spliced_nil ?_)))))
  · refine eSb q fun t e q => ?_
    exact isi_ans g a I₁ hv hko e fun tk => ⟨Φ₁, .bool t, σ₁, le, rfl, I₁.tok, q⟩
theorem listAt_heap (I : Inv z c m Φ σ s) {v : V} {v' : Value} {vs : List V} (hv : Rv z.K Φ v v') (e : listAt σ v = some vs) : ∃ ad ws n', v' = .ref ad ∧ s.heap.get? ad = some (listOf ws n') ∧ vs.length ≤ 1000000 ∧ Rvs z.K Φ vs ws.toList := by
  cases v with
  | lst l =>
    cases e
    revert hv; refine yEEEAAA fun ad ws n' u5 h1 h2 h3 => ?_; obtain rfl := u5
    exact ⟨ad, ws, n', rfl, I.froAt h1, h2, h3⟩
  | ref ad =>
    cases hv
    cases q : σ ad with
    | none => simp [listAt, q] at e
    | some o =>
      cases o with
      | list vs' =>
        simp only [listAt, q, Option.some.injEq] at e
        subst e
        refine xEEAA (I.listAt q) fun ws n' h1 h2 h3 => ?_
        exact ⟨ad, ws, n', rfl, h1, h2, h3⟩
      | _ => simp [listAt, q] at e
  | _ => cases e
theorem isList_of {ad : Addr} {ws : Array Value} {n' : Nat} {h : Heap} (e : h.get? ad = some (listOf ws n')) : h.IsList ad ws := ⟨_, e, rfl, n', rfl⟩
theorem Rvs.size {K : Frag} {vs : List V} {ws : Array Value} (r : Rvs K Φ vs ws.toList) : ws.size = vs.length := by have := r.length; rwa [Array.length_toList] at this
theorem s_len (a : At z n c fx) {y : Expr} {p pos : Pos} {W : (V → AH → Prop) → AH → Prop} (h : SE z c m fx ls X y W) (hy : ∀ e p, y ≠ .Starred e p) (b : Bi z.K fx "len" (.builtin "len")) :
    SE z c m fx ls X (.Call (.Name "len" p) [y] [] pos) (fun Q σ => W (fun v σ => match listAt σ v with
    | some vs => Q (.int vs.length) σ
    | none => False) σ) := fun Q Φ σ s l I w => by
  rw [call_name]
  refine wpAny_bind (b.here a I (bi1 h hy l I w fun Φ₁ v' v σ₁ s₁ le l₁ hv I₁ q => ?_))
  · refine eSl q fun vs e q => ?_
    refine xEEEAAA (listAt_heap I₁ hv e) fun ad ws n' u6 h1 h2 h3 => ?_; obtain rfl := u6
    have hs := h3.size
    exact Calls.call_len_list (isList_of h1) (by rw [hs]; omega) ⟨Φ₁, .int vs.length, σ₁, le, ⟨_, by rw [hs]⟩, I₁.tok, q⟩
theorem s_abs (a : At z n c fx) {y : Expr} {p pos : Pos} {W : (V → AH → Prop) → AH → Prop} (h : SE z c m fx ls X y W) (hy : ∀ e p, y ≠ .Starred e p) (b : Bi z.K fx "abs" (.builtin "abs")) :
    SE z c m fx ls X (.Call (.Name "abs" p) [y] [] pos) (fun Q σ => W (fun v σ => match v with
    | .int i => Q (.int i.natAbs) σ
    | _ => False) σ) := fun Q Φ σ s l I w => by
  rw [call_name]
  refine wpAny_bind (b.here a I (bi1 h hy l I w fun Φ₁ v' v σ₁ s₁ le l₁ hv I₁ q => ?_))
  cases v with
  | int i =>
    obtain ⟨tk, rfl⟩ := rv_int hv
    refine call_abs_int fun u tk => ⟨Φ₁, .int i.natAbs, σ₁, le, ⟨u, ?_⟩, I₁.tok, q⟩
    congr 1
    split <;> omega
  | _ => exact q.elim
theorem s_toInt (a : At z n c fx) {y : Expr} {p pos : Pos} {W : (V → AH → Prop) → AH → Prop} (h : SE z c m fx ls X y W) (hy : ∀ e p, y ≠ .Starred e p) (b : Bi z.K fx "int" (.type "int")) :
    SE z c m fx ls X (.Call (.Name "int" p) [y] [] pos) (fun Q σ => W (fun v σ => match v with
    | .bool b => Q (.int (if b then 1 else 0)) σ
    | _ => False) σ) := fun Q Φ σ s l I w => by
  rw [call_name]
  refine wpAny_bind (b.here a I (bt1 h hy l I w fun Φ₁ v' v σ₁ s₁ le l₁ hv I₁ q => ?_))
  cases v with
  | bool t =>
    cases hv
    exact call_int_bool ⟨Φ₁, .int (if t then 1 else 0), σ₁, le, ⟨_, rfl⟩, I₁.tok, q⟩
  | _ => exact q.elim
theorem newL_ok (a : At z n c fx) (I : Inv z c m Φ σ s) {Q : V → AH → Prop} {vs : List V} {D : Addr} {ws : Array Value} {n' : Nat} (hD : s.heap.objs.size ≤ D) (k : Kp [] s.heap h') (hx : h'.get? D = some (listOf ws n')) (r : Rvs z.K Φ vs ws.toList) (q : newL Q vs σ) :
    OKE z c m Φ Q (.ref D) { s with heap := h', toks := t } :=
  ⟨Φ, .ref D, _, Fz.le.refl _, rfl, I.newList a.o hD k hx q.1 r, q.2 D (I.fresh_none (none_of_size hD))⟩
theorem s_copy (a : At z n c fx) {y : Expr} {p pos : Pos} {W : (V → AH → Prop) → AH → Prop} (h : SE z c m fx ls X y W) (hy : ∀ e p, y ≠ .Starred e p) (b : Bi z.K fx "list" (.type "list")) :
    SE z c m fx ls X (.Call (.Name "list" p) [y] [] pos) (fun Q σ => W (fun v σ => match listAt σ v with
    | some vs => newL Q vs σ
    | none => False) σ) := fun Q Φ σ s l I w => by
  rw [call_name]
  refine wpAny_bind (b.here a I (bt1 h hy l I w fun Φ₁ v' v σ₁ s₁ le l₁ hv I₁ q => ?_))
  · refine eSl q fun vs e q => ?_
    refine xEEEAAA (listAt_heap I₁ hv e) fun ad ws n' u7 h1 h2 h3 => ?_; obtain rfl := u7
    have hs := h3.size
    exact call_list_seq (hsz := by rw [hs, sizeLine_eq]; omega) ad (.inl rfl) h1 rfl rfl fun h' c' hk hD => (newL_ok a I₁ (t := s₁.toks) (Nat.le_refl _) (Kp.of_keeps hk) hD h3 q).mono le fun _ _ q => q
theorem s_dict0 (a : At z n c fx) {pos : Pos} {t : Bool} : SE z c m fx ls X (.Dict [] [] pos) (fun Q σ => ∀ a, σ a = none → Q (.ref a) (σ.set a (some (if t then .dictS [] [] else .dictI [] [])))) := fun Q Φ σ s l I w => by
  have hp : s.heap.get? s.heap.objs.size = none := none_of_size (Nat.le_refl _)
  have kp : Kp [] s.heap (s.heap.push { cls := .type "dict", data := .dict #[] }) := Kp.of_keeps fun b o e => Heap.get?_push_of_some _ e
  refine wpAny_Dict_empty ⟨Φ, .ref _, _, Fz.le.refl _, rfl, ?_, w _ (I.fresh_none hp)⟩
  have hd : ∀ {KT : Type} [DecidableEq KT] (knd : KeyKind z.prog z.w KT), Obj.IsDictOf knd { cls := .type "dict", data := .dict #[] } [] := fun {KT} _ knd => by
    refine xEA (Heap.dictOf_iff.mp (Heap.DictOf.new (knd := knd) s.heap)) fun o ho hd => ?_
    rw [Heap.get?_push_size _ rfl] at ho
    exact (Option.some.inj ho) ▸ hd
  cases t with
  | true => exact I.newDictS (t := s.toks) a.o (Nat.le_refl _) kp (Heap.get?_push_size _ rfl) (hd _)
  | false => exact I.newDictI (t := s.toks) a.o (Nat.le_refl _) kp (Heap.get?_push_size _ rfl) (hd _)
theorem err_up' {α : Type} {Φ' : Fz} {t : Sem α} {P : α → Shared → Prop} (le : Φ.le Φ') (h : wpAny (model z.prog z.w) c.A t P (ERR z c Φ X) s) : wpAny (model z.prog z.w) c.A t P (ERR z c Φ X) s := h
theorem s_neg {x : Expr} {pos : Pos} {i : Int} (h : SE z c m fx ls X x (fun Q σ => Q (.int i) σ)) : SE z c m fx ls X (.UnaryOp .USub x pos) (fun Q σ => Q (.int (-i)) σ) := fun Q Φ σ s l I w => by
  refine UnaryOp_ (h.bind (Q := fun v σ => v = .int i ∧ Q (.int (-i)) σ) l I ⟨rfl, w⟩ fun Φ₁ v' v σ₁ s₁ le _ hv I₁ q => ?_)
  obtain ⟨rfl, q⟩ := q
  obtain ⟨tk, rfl⟩ := rv_int hv
  exact PySem.P.neg_int ⟨Φ₁, .int (-i), σ₁, le, ⟨_, rfl⟩, I₁.tok, q⟩
theorem bin {op : Operator} {x y : Expr} {pos : Pos} {W1 W2 : (V → AH → Prop) → AH → Prop} {Q : V → V → AH → Prop} {P : Value → Shared → Prop} (h1 : SE z c m fx ls X x W1) (h2 : SE z c m fx ls X y W2) (l : Lm fx z c m Φ ls) (I : Inv z c m Φ σ s) (w : W1 (fun u σ => W2 (Q u) σ) σ)
    (k : ∀ (Φ' : Fz) (u' v' : Value) (u v : V) (σ' : AH) (s' : Shared), Φ.le Φ' → Rv z.K Φ' u u' → Rv z.K Φ' v v' → Inv z c m Φ' σ' s' → Q u v σ' → wpAny (model z.prog z.w) c.A (binaryOp op u' v') P (ERR z c Φ X) s') :
    wpAny (model z.prog z.w) c.A (eval (.BinOp x op y pos) c.env) P (ERR z c Φ X) s :=
  wpAny_BinOp (h1.bind l I w fun Φ₁ u' u σ₁ s₁ le l₁ hu I₁ q => err_up le (h2.bind l₁ I₁ q fun Φ₂ v' v σ₂ s₂ le₂ l₂ hv I₂ q₂ => err_up' le (k Φ₂ u' v' u v σ₂ s₂ (le.trans le₂) (hu.mono le₂) hv I₂ q₂)))
theorem s_sub {x y : Expr} {pos : Pos} {W1 W2 : (V → AH → Prop) → AH → Prop} (h1 : SE z c m fx ls X x W1) (h2 : SE z c m fx ls X y W2) :
    SE z c m fx ls X (.BinOp x .Sub y pos) (fun Q σ => W1 (fun u σ => W2 (fun v σ => match u, v with
    | .int i, .int j => Q (.int (i - j)) σ
    | _, _ => False) σ) σ) := fun Q Φ σ s l I w => by
  refine bin h1 h2 l I w fun Φ₁ u' v' u v σ₁ s₁ le hu hv I₁ q => ?_
  · refine eII q fun i j ri rj q9 => ?_
    subst ri rj
    obtain ⟨t1, rfl⟩ := rv_int hu
    obtain ⟨t2, rfl⟩ := rv_int hv
    exact PySem.P.sub_int ⟨Φ₁, .int _, σ₁, le, ⟨_, rfl⟩, I₁.tok, q9⟩
theorem push_kp {o : Obj} : Kp [] s.heap (s.heap.push o) := Kp.of_keeps fun b x e => Heap.get?_push_of_some _ e
theorem intBits_small {i : Int} (h : i.natAbs ≤ 1000000) : Builtin.Int.intBits i ≤ 64 := PySem.intBits_le_64 (by omega) (by omega)
theorem mul_list_raw {A : Around} {E : Value → Shared → Prop} {P : Value → Shared → Prop} {l : Addr} {items : Array Value} {k : Nat} {x : Int} {u : Tok} (hl : s.heap.get? l = some (listOf items k)) (hlo : -(2 ^ 63 : Int) ≤ x) (hhi : x < 2 ^ 63) (hsz : items.size * x.toNat ≤ 2 ^ 24)
    (h : P (.ref s.heap.objs.size) { s with heap := s.heap.push (listOf (List.foldl (fun x1 x2 => x1 ++ x2) #[] (List.replicate (if items.isEmpty = true then 0 else x.toNat) items)) 0) }) : wpAny (model z.prog z.w) A (binaryOp .Mult (.ref l) (.int x u)) P E s :=
  wpAny_binaryOp_repeat_ref (T := "list") (U := "int") (by decide) ⟨_, hl, rfl⟩ (fun s' => typeIs_int s' x u) noFill_list_mul PySem.F.fills_int_mul PySem.F.slot_int_rmul repeat_list PySem.F.slot_int_index.lookup
    (call_meets PySem.F.slot_int_rmul (typeIs_int s x u) PySem.F.entry_int_rmul (PySem.F.args_int_rmul_2 _ _) (int___rmul___int_list x u l items k)
      ⟨hl, rfl, ⟨_, hl, rfl⟩, call_meets PySem.F.slot_list_mul ⟨_, hl, rfl⟩ PySem.F.entry_list_mul (PySem.F.args_list_mul_2 _ _)
        (AutoListH.list___mul___list_int_3 l items k x u (by simp [Builtin.List.listFitsIndex]; omega) (by omega) (by simp [Builtin.List.listTooLong, sizeLine]; omega))
        ⟨hl, h⟩⟩)
theorem foldl_one {w : Value} : ∀ (j : Nat) (acc : Array Value), (List.foldl (fun x1 x2 => x1 ++ x2) acc (List.replicate j #[w])).toList = acc.toList ++ List.replicate j w
  | 0, acc => by simp
  | j + 1, acc => by
    rw [List.replicate_succ, List.foldl_cons, foldl_one j, List.replicate_succ]
    simp
theorem rvs_rep {K : Frag} {w : V} {x : Value} (h : Rv K Φ w x) : ∀ j, Rvs K Φ (List.replicate j w) (List.replicate j x)
  | 0 => rfl
  | j + 1 => ⟨x, _, rfl, h, rvs_rep h j⟩
theorem s_mul (a : At z n c fx) {x y : Expr} {pos : Pos} {W1 W2 : (V → AH → Prop) → AH → Prop} (h1 : SE z c m fx ls X x W1) (h2 : SE z c m fx ls X y W2) :
    SE z c m fx ls X (.BinOp x .Mult y pos) (fun Q σ => W1 (fun u σ => W2 (fun v σ => match u, v with
    | .int i, .int j => i.natAbs ≤ 1000000 ∧ j.natAbs ≤ 1000000 ∧ Q (.int (i * j)) σ
    | u, .int j => match listAt σ u with
      | some [w] => 0 ≤ j ∧ j ≤ 1000 ∧ newL Q (List.replicate j.toNat w) σ
      | _ => False
    | _, _ => False) σ) σ) := fun Q Φ σ s l I w => by
  refine bin h1 h2 l I w fun Φ₁ u' v' u v σ₁ s₁ le hu hv I₁ q => ?_
  split at q
  · rename_i i j
    obtain ⟨t1, rfl⟩ := rv_int hu
    obtain ⟨t2, rfl⟩ := rv_int hv
    refine PySem.P.mul_int ⟨Φ₁, .int _, σ₁, le, ⟨_, rfl⟩, I₁.tok, q.2.2⟩ (.of_left (intBits_small q.1))
  · rename_i j _
    obtain ⟨t2, rfl⟩ := rv_int hv
    split at q
    · rename_i wv e1
      refine xEEEAAA (listAt_heap I₁ hu e1) fun a1 w1 n1 u8 f1 f2 f3 => ?_; obtain rfl := u8
      revert q; refine yAA fun q1 q2 q3 => ?_
      revert f3; refine yEEAA fun x1 xs e r1 r2 => ?_
      cases r2
      have ew : w1 = #[x1] := by apply Array.toList_inj.mp; rw [e]
      subst ew
      refine mul_list_raw f1 (by omega) (by omega) (by simp; omega) ((newL_ok a I₁ (t := s₁.toks) (Nat.le_refl _) push_kp (Heap.get?_push_size _ rfl) ?_ q3).mono le fun _ _ q => q)
      have he : (#[x1] : Array Value).isEmpty = false := rfl
      rw [he]
      simp only [Bool.false_eq_true, if_false]
      rw [foldl_one]
      simpa using rvs_rep r1 _
    · exact q.elim
  · exact q.elim
theorem s_mod {x y : Expr} {pos : Pos} {W1 W2 : (V → AH → Prop) → AH → Prop} (h1 : SE z c m fx ls X x W1) (h2 : SE z c m fx ls X y W2) :
    SE z c m fx ls X (.BinOp x .Mod y pos) (fun Q σ => W1 (fun u σ => W2 (fun v σ => match u, v with
    | .int i, .int j => 0 < j ∧ Q (.int (i.fmod j)) σ
    | _, _ => False) σ) σ) := fun Q Φ σ s l I w => by
  refine bin h1 h2 l I w fun Φ₁ u' v' u v σ₁ s₁ le hu hv I₁ q => ?_
  · refine eII q fun i j ri rj q9 => ?_
    subst ri rj
    obtain ⟨t1, rfl⟩ := rv_int hu
    obtain ⟨t2, rfl⟩ := rv_int hv
    exact mod_int' (Int.ne_of_gt q9.1) ⟨Φ₁, .int _, σ₁, le, ⟨_, rfl⟩, I₁.tok, q9.2⟩
theorem add_lists_raw {A : Around} {E : Value → Shared → Prop} {P : Value → Shared → Prop} {l b : Addr} {ws us : Array Value} {n1 n2 : Nat} (hl : s.heap.get? l = some (listOf ws n1)) (hb : s.heap.get? b = some (listOf us n2)) (hsz : ws.size + us.size ≤ sizeLine)
    (h : P (.ref s.heap.objs.size) { s with heap := s.heap.push (listOf (ws ++ us) 0) }) : wpAny (model z.prog z.w) A (binaryOp .Add (.ref l) (.ref b)) P E s :=
  concat_meets ⟨_, hl, rfl⟩ ⟨_, hb, rfl⟩ noFill_list_add seq_list_add PySem.F.slot_list_add PySem.F.entry_list_add (PySem.F.args_list_add_2 _ _) (list_addW l b ws us n1 n2 none none #[] #[] hsz) ⟨hl, hb, h⟩
theorem s_add (a : At z n c fx) {x y : Expr} {pos : Pos} {W1 W2 : (V → AH → Prop) → AH → Prop} (h1 : SE z c m fx ls X x W1) (h2 : SE z c m fx ls X y W2) :
    SE z c m fx ls X (.BinOp x .Add y pos) (fun Q σ => W1 (fun u σ => W2 (fun v σ => match u, v with
    | .int i, .int j => Q (.int (i + j)) σ
    | u, v => match listAt σ u, listAt σ v with
      | some us, some vs => newL Q (us ++ vs) σ
      | _, _ => False) σ) σ) := fun Q Φ σ s l I w => by
  refine bin h1 h2 l I w fun Φ₁ u' v' u v σ₁ s₁ le hu hv I₁ q => ?_
  split at q
  · obtain ⟨t1, rfl⟩ := rv_int hu
    obtain ⟨t2, rfl⟩ := rv_int hv
    exact PySem.P.add_int ⟨Φ₁, .int _, σ₁, le, ⟨_, rfl⟩, I₁.tok, q⟩
  · split at q
    · rename_i us vs e1 e2
      refine xEEEAAA (listAt_heap I₁ hu e1) fun a1 w1 n1 u9 f1 f2 f3 => ?_; obtain rfl := u9
      refine xEEEAAA (listAt_heap I₁ hv e2) fun a2 w2 n2 u10 g1 g2 g3 => ?_; obtain rfl := u10
      have s1 := f3.size
      have s2 := g3.size
      refine add_lists_raw f1 g1 (by rw [s1, s2, sizeLine_eq]; omega) ((newL_ok a I₁ (t := s₁.toks) (Nat.le_refl _) push_kp (Heap.get?_push_size _ rfl) ?_ q).mono le fun _ _ q => q)
      rw [Array.toList_append]; exact f3.append g3
    · exact q.elim
noncomputable def idxSafe : Expr → Bool
  | .Slice _ _ _ _ => false
  | _ => true
theorem idx_sub {slice : Expr} (h : idxSafe slice = true) (o i : Value) : subscripted slice false o i = operate [o, i] (getItem o i) := by
  cases slice <;> first | rfl | cases h
theorem seqIndex_pos {k : Int} {N : Nat} (h : 0 ≤ k) (h1 : k.toNat < N) : seqIndex? k N = some k.toNat := by
  unfold seqIndex?
  have : ¬ k < 0 := by omega
  simp only [this, if_false]
  rw [if_pos]
  simp only [Bool.and_eq_true, decide_eq_true_eq]
  omega
theorem itemAt_some {vs : List V} {k : Int} {w : V} {N : Nat} (hN : N = vs.length) (h : itemAt vs k = some w) (hb : vs.length ≤ 1000000) :
    ∃ j, seqIndex? k N = some j ∧ vs[j]? = some w ∧ -(2 ^ 63) ≤ k ∧ k < 2 ^ 63 ∧ ((0 ≤ k ∧ j = k.toNat) ∨ (k < 0 ∧ -(N : Int) ≤ k ∧ j = (k + N).toNat)) := by
  subst hN
  unfold itemAt at h
  split at h
  · rename_i h0
    have := (List.getElem?_eq_some_iff.mp h).1
    exact ⟨k.toNat, seqIndex_pos h0 this, h, by omega, by omega, .inl ⟨h0, rfl⟩⟩
  · rename_i h0
    split at h
    · rename_i h1
      have := (List.getElem?_eq_some_iff.mp h).1
      exact ⟨(k + vs.length).toNat, seqIndex_neg (by omega) (by omega), h, by omega, by omega, .inr ⟨by omega, by omega, rfl⟩⟩
    · cases h
theorem seqAt_heap (I : Inv z c m Φ σ s) {v : V} {v' : Value} {vs : List V} (hv : Rv z.K Φ v v') (e : seqAt σ v = some vs) : ∃ ad ws n', v' = .ref ad ∧ (s.heap.get? ad = some (listOf ws n') ∨ s.heap.get? ad = some (tupOf ws n')) ∧ vs.length ≤ 1000000 ∧ Rvs z.K Φ vs ws.toList := by
  cases v with
  | tup l =>
    cases e
    revert hv; refine yEEEAAA fun ad ws n' u11 h1 h2 h3 => ?_; obtain rfl := u11
    exact ⟨ad, ws, n', rfl, .inr (I.froAt h1), h2, h3⟩
  | lst l => refine xEEEAA (listAt_heap I hv e) fun ad ws n' h0 h1 h2 => ?_; exact ⟨ad, ws, n', h0, .inl h1, h2⟩
  | ref l => refine xEEEAA (listAt_heap I hv e) fun ad ws n' h0 h1 h2 => ?_; exact ⟨ad, ws, n', h0, .inl h1, h2⟩
  | _ => cases e
theorem s_idx (a : At z n c fx) {x y : Expr} {pos : Pos} {W1 W2 : (V → AH → Prop) → AH → Prop} (h1 : SE z c m fx ls X x W1) (h2 : SE z c m fx ls X y W2) (hy : idxSafe y = true) :
    SE z c m fx ls X (.Subscript x y pos) (fun Q σ => W1 (fun v σ => W2 (fun u σ => match seqAt σ v, u with
    | some vs, .int k => match itemAt vs k with
      | some w => Q w σ
      | none => False
    | _, _ => False) σ) σ) := fun Q Φ σ s l I w => by
  refine Subscript_ (h1.bind l I w fun Φ₁ v' v σ₁ s₁ le l₁ hv I₁ q => err_up le (h2.bind l₁ I₁ q fun Φ₂ u' u σ₂ s₂ le₂ l₂ hu I₂ q₂ => ?_))
  · refine eSi q₂ fun vs k e rk q9 => ?_
    subst rk
    obtain ⟨tk, rfl⟩ := rv_int hu
    · refine eS q9 fun w hw q8 => ?_
      refine xEEEAAA (seqAt_heap I₂ (hv.mono le₂) e) fun ad ws n' u12 f1 f2 f3 => ?_; obtain rfl := u12
      refine xEAAAA (itemAt_some f3.size hw f2) fun j g1 g2 g3 g4 g7 => ?_
      refine xEA (f3.get _ _ g2) fun y' g5 g6 => ?_
      have g5 : ws[j]? = some y' := by rw [← Array.getElem?_toList]; exact g5
      have fin : OKE z c m Φ Q y' s₂ := ⟨Φ₂, w, σ₂, le.trans le₂, g6, I₂, q8⟩
      rcases f1 with f1 | f1
      · refine tail_any (isList_of f1).typeIs slot_list_getitem.lookup ?_ (idx_sub hy _ _)
        rcases g7 with ⟨h0, rfl⟩ | ⟨h0, h1, rfl⟩
        · exact wpAny_getItem_list (isList_of f1) h0 g4 g5 fin
        · exact wpAny_getItem_list_neg (isList_of f1) h0 h1 g3 g5 fin
      · have hT : IsTup s₂.heap ad ws := ⟨_, f1, rfl, n', rfl⟩
        exact tail_any hT.typeIs slot_tuple_getitem.lookup (PyProof.Rows.getItem_tuple hT g3 g4 g1 g5 fin) (idx_sub hy _ _)
theorem sub_slice {lo hi : Option Expr} {pos : Pos} (o i : Value) : subscripted (.Slice lo hi none pos) false o i = operate [i, o] (getItem o i) := rfl
theorem slice_ok (a : At z n c fx) (I : Inv z c m Φ σ s) {Q : V → AH → Prop} {v : V} {v' : Value} {vs us : List V} {value : Expr} {sl : Expr} {ops : Value → Value → List Value} {vl vu vk : Value} {lo hi st : Option Int} (hv : Rv z.K Φ v v') (e : listAt σ v = some vs) (pl : IsPart vl lo) (pu : IsPart vu hi) (pk : IsPart vk st) (h0 : st ≠ some 0)
    (hp : ∀ {ws : Array Value}, Rvs z.K Φ vs ws.toList → Rvs z.K Φ us (slicePick ws lo hi st).toList) (hs : ∀ o i, subscripted sl false o i = operate (ops o i) (getItem o i)) (q : newL Q us σ) {E : Value → Shared → Prop} :
    wpAny (model z.prog z.w) c.A (subscriptTail value sl v' (.ref s.heap.objs.size)) (OKE z c m Φ Q) E { s with heap := s.heap.push { cls := .type "slice", data := .fields #[vl, vu, vk] } } := by
  refine xEEEAAA (listAt_heap I hv e) fun ad ws n' u13 f1 f2 f3 => ?_; obtain rfl := u13
  have hl : (s.heap.push { cls := .type "slice", data := .fields #[vl, vu, vk] }).IsList ad ws := isList_of (Heap.get?_push_of_some _ f1)
  have s1 := f3.size
  refine tail_any (Heap.IsList.typeIs (s := { s with heap := s.heap.push { cls := .type "slice", data := .fields #[vl, vu, vk] } }) hl) slot_list_getitem.lookup
    (wpAny_getItem_list_slice (s := { s with heap := s.heap.push { cls := .type "slice", data := .fields #[vl, vu, vk] } }) hl (Heap.IsSliceOf.new ..) pl pu pk h0 ?_ (by rw [s1, sizeLine_eq]; omega)) (hs _ _)
  exact newL_ok a I (t := s.toks) (by show s.heap.objs.size ≤ (s.heap.push _).objs.size; rw [Heap.size_push]; omega) (Kp.of_keeps fun b o e => Heap.get?_push_of_some _ (Heap.get?_push_of_some _ e)) (Heap.get?_push_size _ rfl) (hp f3) q
theorem clampI {k : Int} (n : Nat) (h : 0 ≤ k) : max 0 (min k (n : Int)) = ((min k.toNat n : Nat) : Int) := by
  rw [Int.max_eq_right (Int.le_min.mpr ⟨h, Int.natCast_nonneg n⟩)]
  obtain ⟨m, rfl⟩ := Int.eq_ofNat_of_zero_le h
  show min (m : Int) (n : Int) = ((min m n : Nat) : Int)
  omega
theorem pick_from {vs : List V} {ws : Array Value} {K : Frag} {k : Int} (h : 0 ≤ k) (r : Rvs K Φ vs ws.toList) : Rvs K Φ (vs.drop k.toNat) (slicePick ws (some k) none none).toList := by
  have e : sliceBounds (some k) none none ws.size = (((min k.toNat ws.size : Nat) : Int), ((ws.size : Nat) : Int), 1) := by
    simp only [sliceBounds, Option.getD_none, show (1 : Int) > 0 by decide, if_true, if_neg (show ¬ (k < 0) by omega)]
    congr 1
    exact clampI _ h
  rw [kmk_pick_nat _ e]
  have : (ws.toList.drop (min k.toNat ws.size)).take (ws.size - min k.toNat ws.size) = ws.toList.drop k.toNat := by
    rw [List.take_of_length_le (by rw [List.length_drop, Array.length_toList]; omega)]
    rw [← Array.length_toList, kmk_drop_min]
  show Rvs K Φ _ ((ws.toList.drop _).take _)
  rw [this]; exact r.drop _
theorem pick_upto {vs : List V} {ws : Array Value} {K : Frag} {k : Int} (h : 0 ≤ k) (r : Rvs K Φ vs ws.toList) : Rvs K Φ (vs.take k.toNat) (slicePick ws none (some k) none).toList := by
  have e : sliceBounds none (some k) none ws.size = (((0 : Nat) : Int), ((min k.toNat ws.size : Nat) : Int), 1) := by
    simp only [sliceBounds, Option.getD_none, show (1 : Int) > 0 by decide, if_true, if_neg (show ¬ (k < 0) by omega)]
    congr 1
    congr 1
    exact clampI _ h
  rw [kmk_pick_nat _ e]
  show Rvs K Φ _ ((ws.toList.drop 0).take (min k.toNat ws.size - 0))
  rw [List.drop_zero, Nat.sub_zero, ← Array.length_toList, kmk_take_min]
  exact r.take _
theorem pick_part {vs : List V} {ws : Array Value} {K : Frag} {k j : Int} (h : 0 ≤ k) (hj : k ≤ j) (r : Rvs K Φ vs ws.toList) : Rvs K Φ ((vs.take j.toNat).drop k.toNat) (slicePick ws (some k) (some j) none).toList := by
  have e : sliceBounds (some k) (some j) none ws.size = (((min k.toNat ws.size : Nat) : Int), ((min j.toNat ws.size : Nat) : Int), 1) := by
    simp only [sliceBounds, Option.getD_none, show (1 : Int) > 0 by decide, if_true, if_neg (show ¬ (k < 0) by omega), if_neg (show ¬ (j < 0) by omega)]
    congr 1
    · exact clampI _ h
    · congr 1
      exact clampI _ (Int.le_trans h hj)
  rw [kmk_pick_nat _ e]
  have : (ws.toList.drop (min k.toNat ws.size)).take (min j.toNat ws.size - min k.toNat ws.size) = (ws.toList.take j.toNat).drop k.toNat := by
    rw [List.drop_take]
    rw [show min k.toNat ws.size = min k.toNat ws.toList.length by rw [Array.length_toList], kmk_drop_min]
    by_cases q : k.toNat ≤ ws.size
    · rw [Array.length_toList, Nat.min_eq_left q]
      by_cases q2 : j.toNat ≤ ws.size
      · rw [Nat.min_eq_left q2]
      · rw [Nat.min_eq_right (by omega)]
        rw [List.take_of_length_le (by rw [List.length_drop, Array.length_toList]; omega), List.take_of_length_le (by rw [List.length_drop, Array.length_toList]; omega)]
    · rw [List.drop_of_length_le (by rw [Array.length_toList]; omega)]; simp
  show Rvs K Φ _ ((ws.toList.drop _).take _)
  rw [this]; exact (r.take _).drop _
end
end Mine
end
noncomputable section
namespace Mine
section
variable {z : Z} {n : Nat} {c : Cx} {m : Str → Option Value} {fx : Fx} {ls : Ls} {X : AH → Prop} {Φ : Fz} {σ : AH} {s : Shared} {h' : Heap} {t : Nat}
theorem vNone {M : Model} {A : Around} {E : Value → Shared → Prop} {s : Shared} {P : Value → Shared → Prop} {env : Env} (h : P .none s) : wpAny M A (evalPart none env) P E s := fun _ _ _ => h
theorem OKE.up {Φ' : Fz} {Q : V → AH → Prop} {v : Value} (x : OKE z c m Φ' Q v s) (le : Φ.le Φ') : OKE z c m Φ Q v s := x.mono le fun _ _ q => q
theorem oke_up {Φ' : Fz} {Q : V → AH → Prop} {t : Sem Value} {A : Around} {E : Value → Shared → Prop} (le : Φ.le Φ') (h : wpAny (model z.prog z.w) A t (OKE z c m Φ' Q) E s) : wpAny (model z.prog z.w) A t (OKE z c m Φ Q) E s :=
  wpAny_mono h (fun _ _ x => x.up le) fun _ _ x => x
theorem s_from (a : At z n c fx) {x y : Expr} {pos sp : Pos} {W1 W2 : (V → AH → Prop) → AH → Prop} (h1 : SE z c m fx ls X x W1) (h2 : SE z c m fx ls X y W2) :
    SE z c m fx ls X (.Subscript x (.Slice (some y) none none sp) pos) (fun Q σ => W1 (fun v σ => W2 (fun u σ => match listAt σ v, u with
    | some vs, .int k => 0 ≤ k ∧ k ≤ 1000000 ∧ newL Q (vs.drop k.toNat) σ
    | _, _ => False) σ) σ) := fun Q Φ σ s l I w => by
  refine Subscript_ (h1.bind l I w fun Φ₁ v' v σ₁ s₁ le l₁ hv I₁ q => wpAny_Slice (err_up le ?_))
  refine h2.bind l₁ I₁ q fun Φ₂ u' u σ₂ s₂ le₂ l₂ hu I₂ q₂ => vNone (vNone ?_)
  · refine eSi q₂ fun vs k e rk q9 => ?_
    subst rk
    obtain ⟨tk, rfl⟩ := rv_int hu
    revert q9; refine yAA fun k1 k2 q9 => ?_
    exact oke_up (le.trans le₂) (slice_ok a I₂ (hv.mono le₂) e (.int k tk) .none .none (by simp) (fun r => pick_from k1 r) (fun o i => sub_slice o i) q9)
theorem s_upto (a : At z n c fx) {x y : Expr} {pos sp : Pos} {W1 W2 : (V → AH → Prop) → AH → Prop} (h1 : SE z c m fx ls X x W1) (h2 : SE z c m fx ls X y W2) :
    SE z c m fx ls X (.Subscript x (.Slice none (some y) none sp) pos) (fun Q σ => W1 (fun v σ => W2 (fun u σ => match listAt σ v, u with
    | some vs, .int k => 0 ≤ k ∧ k ≤ 1000000 ∧ newL Q (vs.take k.toNat) σ
    | _, _ => False) σ) σ) := fun Q Φ σ s l I w => by
  refine Subscript_ (h1.bind l I w fun Φ₁ v' v σ₁ s₁ le l₁ hv I₁ q => wpAny_Slice (vNone (err_up le ?_)))
  refine h2.bind l₁ I₁ q fun Φ₂ u' u σ₂ s₂ le₂ l₂ hu I₂ q₂ => vNone ?_
  · refine eSi q₂ fun vs k e rk q9 => ?_
    subst rk
    obtain ⟨tk, rfl⟩ := rv_int hu
    revert q9; refine yAA fun k1 k2 q9 => ?_
    exact oke_up (le.trans le₂) (slice_ok a I₂ (hv.mono le₂) e .none (.int k tk) .none (by simp) (fun r => pick_upto k1 r) (fun o i => sub_slice o i) q9)
theorem s_part (a : At z n c fx) {x y y2 : Expr} {pos sp : Pos} {W1 W2 W3 : (V → AH → Prop) → AH → Prop} (h1 : SE z c m fx ls X x W1) (h2 : SE z c m fx ls X y W2) (h3 : SE z c m fx ls X y2 W3) :
    SE z c m fx ls X (.Subscript x (.Slice (some y) (some y2) none sp) pos) (fun Q σ => W1 (fun v σ => W2 (fun u σ => W3 (fun w σ => match listAt σ v, u, w with
    | some vs, .int k, .int l => 0 ≤ k ∧ k ≤ l ∧ l ≤ 1000000 ∧ newL Q ((vs.take l.toNat).drop k.toNat) σ
    | _, _, _ => False) σ) σ) σ) := fun Q Φ σ s l I w => by
  refine Subscript_ (h1.bind l I w fun Φ₁ v' v σ₁ s₁ le l₁ hv I₁ q => wpAny_Slice (err_up le ?_))
  refine h2.bind l₁ I₁ q fun Φ₂ u' u σ₂ s₂ le₂ l₂ hu I₂ q₂ => err_up (le.trans le₂) (h3.bind l₂ I₂ q₂ fun Φ₃ w' w σ₃ s₃ le₃ l₃ hw I₃ q₃ => vNone ?_)
  · refine eP q₃ fun vs k j e rk rj q9 => ?_
    subst rk rj
    obtain ⟨tk, rfl⟩ := rv_int hu
    obtain ⟨tk2, rfl⟩ := rv_int hw
    revert q9; refine yAAA fun k1 k2 k3 q9 => ?_
    exact oke_up ((le.trans le₂).trans le₃) (slice_ok a I₃ ((hv.mono le₂).mono le₃) e (.int k tk) (.int j tk2) .none (by simp) (fun r => pick_part k1 k2 r) (fun o i => sub_slice o i) q9)
theorem krv2_bounds (n : Nat) : sliceBounds (some (-2)) none (some (-1)) n = (max (-1) ((n : Int) - 2), -1, -1) := by
  simp only [sliceBounds, Option.getD_some, show ¬ ((-1 : Int) > 0) by decide, if_false, show ((-2 : Int) < 0) by decide, if_true]
  congr 1
  omega
theorem pick_back {vs : List V} {ws : Array Value} {K : Frag} (r : Rvs K Φ vs ws.toList) : Rvs K Φ vs.dropLast.reverse (slicePick ws (some (-2)) none (some (-1))).toList := by
  have hs := r.size
  have key : (slicePick ws (some (-2)) none (some (-1))).toList = ws.toList.dropLast.reverse := by
    unfold slicePick
    rw [krv2_bounds]
    show (sliceRange (max (-1) ((ws.size : Int) - 2)) (-1) (-1)).filterMap (ws[·]?) = _
    by_cases h : ws.size ≤ 1
    · have e : max (-1 : Int) ((ws.size : Int) - 2) = -1 := by omega
      have l0 : ws.toList.dropLast = [] := by
        apply List.eq_nil_of_length_eq_zero
        rw [List.length_dropLast, Array.length_toList]; omega
      rw [e, l0]
      simp [sliceRange]
    · have e : max (-1 : Int) ((ws.size : Int) - 2) = ((ws.size - 1 : Nat) : Int) - 1 := by omega
      rw [e, krv_sliceRange, krv_range, List.filterMap_reverse]
      congr 1
      have hp := pick_run ws 0 (ws.size - 1)
      rw [show ((0 + ·) : Nat → Nat) = id from funext fun k => Nat.zero_add k, List.map_id] at hp
      rw [hp, List.drop_zero, List.dropLast_eq_take, Array.length_toList]
  rw [key]
  have : Rvs K Φ vs.dropLast ws.toList.dropLast := by
    rw [List.dropLast_eq_take, List.dropLast_eq_take, r.length]; exact r.take _
  exact this.reverse
theorem s_back (a : At z n c fx) {x : Expr} {k1 k2 : Nat} {p1 p2 p3 p4 pos sp : Pos} {W1 : (V → AH → Prop) → AH → Prop} (h1 : SE z c m fx ls X x W1) :
    SE z c m fx ls X (.Subscript x (.Slice (some (.UnaryOp .USub (.Constant (.int 2) k1 p1) p2)) none (some (.UnaryOp .USub (.Constant (.int 1) k2 p3) p4)) sp) pos) (fun Q σ => W1 (fun v σ => match listAt σ v with
    | some vs => newL Q vs.dropLast.reverse σ
    | _ => False) σ) := fun Q Φ σ s l I w => by
  have n2 : SE z c m fx ls X (.UnaryOp .USub (.Constant (.int 2) k1 p1) p2) (fun Q σ => Q (.int (-2)) σ) := s_neg s_int
  have n1 : SE z c m fx ls X (.UnaryOp .USub (.Constant (.int 1) k2 p3) p4) (fun Q σ => Q (.int (-1)) σ) := s_neg s_int
  refine Subscript_ (h1.bind l I w fun Φ₁ v' v σ₁ s₁ le l₁ hv I₁ q => wpAny_Slice (err_up le ?_))
  refine n2.bind (Q := fun u σ => u = .int (-2) ∧ (match listAt σ v with | some vs => newL Q vs.dropLast.reverse σ | _ => False)) l₁ I₁ ⟨rfl, q⟩ fun Φ₂ u' u σ₂ s₂ le₂ l₂ hu I₂ q₂ => vNone (err_up (le.trans le₂) ?_)
  obtain ⟨rfl, q₂⟩ := q₂
  refine n1.bind (Q := fun u σ => u = .int (-1) ∧ (match listAt σ v with | some vs => newL Q vs.dropLast.reverse σ | _ => False)) l₂ I₂ ⟨rfl, q₂⟩ fun Φ₃ w' w σ₃ s₃ le₃ l₃ hw I₃ q₃ => ?_
  obtain ⟨rfl, q₃⟩ := q₃
  obtain ⟨t1, rfl⟩ := rv_int hu
  obtain ⟨t2, rfl⟩ := rv_int hw
  split at q₃
  · rename_i vs e
    exact oke_up ((le.trans le₂).trans le₃) (slice_ok a I₃ ((hv.mono le₂).mono le₃) e (.int (-2) t1) .none (.int (-1) t2) (by decide) (fun r => pick_back r) (fun o i => rfl) q₃)
  · exact q₃.elim
theorem s_words (a : At z n c fx) {nm : Str} {y : Expr} {p pos : Pos} {ad : Addr} {ws : List Value} {n' : Nat} {us : List V} {W1 : (V → AH → Prop) → AH → Prop} (h1 : SE z c m fx ls X y W1) (hy : idxSafe y = true) (hg : fx.isGlob nm = true) (h2 : nsIn z.K mainGlobals nm = some (some (.ref ad))) (h3 : z.K.lookup ad = some (tupOf ws.toArray n'))
    (hb : us.length ≤ 1000000) (hr : ∀ Φ, Rvs z.K Φ us ws) :
    SE z c m fx ls X (.Subscript (.Name nm p) y pos) (fun Q σ => W1 (fun u σ => match u with
    | .int k => match us[k.toNat]? with
      | some w => 0 ≤ k ∧ Q w σ
      | none => False
    | _ => False) σ) := fun Q Φ σ s l I w => by
  refine Subscript_ (glob_any a I hg h2 (h1.bind l I w fun Φ₂ u' u σ₂ s₂ le₂ l₂ hu I₂ q₂ => ?_))
  · refine eI q₂ fun k rk q9 => ?_
    subst rk
    obtain ⟨tk, rfl⟩ := rv_int hu
    · refine eS q9 fun w hw q8 => ?_
      have hlt := (List.getElem?_eq_some_iff.mp hw).1
      refine xEA ((hr Φ₂).get _ _ hw) fun y' g5 g6 => ?_
      have hT : IsTup s₂.heap ad ws.toArray := ⟨_, I₂.base _ _ (a.zo.X _ _ h3), rfl, n', rfl⟩
      have hsz : ws.toArray.size = us.length := by rw [List.size_toArray]; exact (hr Φ₂).length
      exact tail_any hT.typeIs slot_tuple_getitem.lookup (PyProof.Rows.getItem_tuple hT (by omega) (by omega) (seqIndex_pos q8.1 (by rw [hsz]; exact hlt)) (by simpa using g5) ⟨Φ₂, w, σ₂, le₂, g6, I₂, q8.2⟩) (idx_sub hy _ _)
end
end Mine
end
noncomputable section
open PySem PySem.W PySem.Calls PyProof.Rows PySem.SeqAt
namespace Mine
section
variable {z : Z} {n : Nat} {c : Cx} {m : Str → Option Value} {fx : Fx} {ls : Ls} {X : AH → Prop} {Φ : Fz} {σ : AH} {s : Shared} {A : Around}
noncomputable def Hv (K : Frag) (Φ : Fz) (h : Heap) : V → Value → Prop
  | .lst vs, v => ∃ a ws n, v = .ref a ∧ h.get? a = some (listOf ws n) ∧ Rvs K Φ vs ws.toList
  | .tup vs, v => ∃ a ws n, v = .ref a ∧ h.get? a = some (tupOf ws n) ∧ Rvs K Φ vs ws.toList
  | v, x => Rv K Φ v x
theorem hv_of (I : Inv z c m Φ σ s) {v : V} {x : Value} (h : Rv z.K Φ v x) : Hv z.K Φ s.heap v x := by
  cases v with
  | tup l => revert h; refine yEEEAAA fun a ws n' u1 h1 _ h2 => ?_; obtain rfl := u1; exact ⟨a, ws, n', rfl, I.froAt h1, h2⟩
  | lst l => revert h; refine yEEEAAA fun a ws n' u2 h1 _ h2 => ?_; obtain rfl := u2; exact ⟨a, ws, n', rfl, I.froAt h1, h2⟩
  | _ => exact h
theorem hv_shut (I : Inv z c m Φ σ s) {v : V} {x : Value} (h : Rv z.K Φ v x) : Hv z.K Φ s.heap (shut σ v) x := by
  cases v with
  | ref a =>
    cases q : σ a with
    | none => simp only [shut, q]; exact h
    | some o => cases o with
      | list vs => simp only [shut, q]; cases h; refine xEEAA (I.listAt q) fun ws n' h1 _ h2 => ?_; exact ⟨a, ws, n', rfl, h1, h2⟩
      | _ => simp only [shut, q]; exact h
  | _ => exact hv_of I h
theorem isTup_of {ad : Addr} {ws : Array Value} {n' : Nat} {h : Heap} (e : h.get? ad = some (tupOf ws n')) : h.IsTuple ad ws := ⟨_, e, rfl, n', rfl⟩
inductive KV (F : Addr → Option Obj) : V → Value → Prop
  | none : KV F .none .none
  | bool (b : Bool) : KV F (.bool b) (.bool b)
  | int (i : Int) (t : Tok) : KV F (.int i) (.int i t)
  | str (k : Nat) (t : Tok) (h : k < strMany) : KV F (.str k) (.str (strAt k) t)
  | tup (l : List V) (a : Addr) (ws : Array Value) (n : Nat) (h : F a = some (tupOf ws n)) : KV F (.tup l) (.ref a)
  | lst (l : List V) (a : Addr) (ws : Array Value) (n : Nat) (h : F a = some (listOf ws n)) : KV F (.lst l) (.ref a)
theorem eN {k : Bool} {C : Prop} (e : none = some k) : C := nomatch e
theorem eK {P : Bool → Prop} {b k : Bool} (e : some b = some k) (p : P b) : P k := Option.some.inj e ▸ p
theorem eqA_knd {a b : V} {k : Bool} (e : eqA a b = some k) : a.knd ≠ none ∧ b.knd ≠ none := by
  cases a with
  | obj C ks vs => cases b <;> exact eN e
  | ref a => cases b <;> exact eN e
  | stat a => cases b <;> exact eN e
  | _ => cases b with
    | obj C ks vs => exact eN e
    | ref a => exact eN e
    | stat a => exact eN e
    | _ => exact ⟨Option.some_ne_none _, Option.some_ne_none _⟩
theorem kv_hv {K : Frag} {h : Heap} {a : V} {x : Value} (ka : a.knd ≠ none) (hx : Hv K Φ h a x) : KV h.get? a x := by
  cases a with
  | none => cases hx; exact .none
  | bool b => cases hx; exact .bool b
  | int i => obtain ⟨t, rfl⟩ := hx; exact .int i t
  | str k => obtain ⟨hk, t, rfl⟩ := hx; exact .str k t hk
  | tup l => obtain ⟨a, ws, n, rfl, g, _⟩ := hx; exact .tup l a ws n g
  | lst l => obtain ⟨a, ws, n, rfl, g, _⟩ := hx; exact .lst l a ws n g
  | _ => exact absurd rfl ka
theorem kv_rv {K : Frag} {a : V} {x : Value} (ka : a.knd ≠ none) (hx : Rv K Φ a x) : KV Φ a x := by
  cases a with
  | none => cases hx; exact .none
  | bool b => cases hx; exact .bool b
  | int i => obtain ⟨t, rfl⟩ := hx; exact .int i t
  | str k => obtain ⟨hk, t, rfl⟩ := hx; exact .str k t hk
  | tup l => obtain ⟨a, ws, n, rfl, g, _⟩ := hx; exact .tup l a ws n g
  | lst l => obtain ⟨a, ws, n, rfl, g, _⟩ := hx; exact .lst l a ws n g
  | _ => exact absurd rfl ka
noncomputable def Rc2 (A : Around) (s : Shared) (x y : Value) (k : Bool) : Prop := RcAt A s x y k ∧ RcNeAt A s x y (!k)
theorem str_beq {i j : Nat} (hi : i < strMany) (hj : j < strMany) : (strAt i == strAt j) = (i == j) := by
  by_cases q : i = j
  · subst q; rw [beq_self_eq_true, beq_self_eq_true]
  · rw [beq_eq_false_iff_ne.mpr fun w => q (strAt_inj hi hj w), beq_eq_false_iff_ne.mpr q]
theorem kv_rc {a b : V} {x y : Value} (hu : A.units < cLine) (ka : KV s.heap.get? a x) (kb : KV s.heap.get? b y) : ∀ {k : Bool}, eqA a b = some k → Rc2 A s x y k := by
  cases ka with
  | none => cases kb with
    | none => exact fun e => eK e ⟨RcAt.none_none, RcNeAt.none_none⟩
    | bool j => exact fun e => eN e
    | int j t => exact fun e => eK e ⟨RcAt.none_int _ _, RcNeAt.none_int _ _⟩
    | str j t hj => exact fun e => eK e ⟨RcAt.none_str _ _, RcNeAt.none_str _ _⟩
    | tup l a ws n h => exact fun e => eK e ⟨RcAt.none_tuple (isTup_of h) hu, RcNeAt.none_tuple (isTup_of h) hu⟩
    | lst l a ws n h => exact fun e => eK e ⟨RcAt.none_list (isList_of h) hu, RcNeAt.none_list (isList_of h) hu⟩
  | bool i => cases kb with
    | bool j => exact fun e => eK e ⟨RcAt.bool_bool _ _, RcNeAt.bool_bool _ _⟩
    | _ => exact fun e => eN e
  | int i t => cases kb with
    | none => exact fun e => eK e ⟨RcAt.int_none _ _, RcNeAt.int_none _ _⟩
    | bool j => exact fun e => eN e
    | int j t => exact fun e => eK e ⟨RcAt.int_int _ _ _ _, RcNeAt.int_int _ _ _ _⟩
    | str j t hj => exact fun e => eK e ⟨RcAt.int_str _ _ _ _, RcNeAt.int_str _ _ _ _⟩
    | tup l a ws n h => exact fun e => eK e ⟨RcAt.int_tuple _ _ (isTup_of h) hu, RcNeAt.int_tuple _ _ (isTup_of h) hu⟩
    | lst l a ws n h => exact fun e => eK e ⟨RcAt.int_list _ _ (isList_of h) hu, RcNeAt.int_list _ _ (isList_of h) hu⟩
  | str i t hi => cases kb with
    | none => exact fun e => eK e ⟨RcAt.str_none _ _, RcNeAt.str_none _ _⟩
    | bool j => exact fun e => eN e
    | int j t => exact fun e => eK e ⟨RcAt.str_int _ _ _ _, RcNeAt.str_int _ _ _ _⟩
    | str j t hj => exact fun e => eK e (str_beq hi hj ▸ ⟨RcAt.str_str _ _ _ _, RcNeAt.str_str _ _ _ _⟩)
    | tup l a ws n h => exact fun e => eK e ⟨RcAt.str_tuple _ _ (isTup_of h) hu, RcNeAt.str_tuple _ _ (isTup_of h) hu⟩
    | lst l a ws n h => exact fun e => eK e ⟨RcAt.str_list _ _ (isList_of h) hu, RcNeAt.str_list _ _ (isList_of h) hu⟩
  | tup l a ws n g => cases kb with
    | none => exact fun e => eK e ⟨RcAt.tuple_none (isTup_of g) hu, RcNeAt.tuple_none (isTup_of g) hu⟩
    | bool j => exact fun e => eN e
    | int j t => exact fun e => eK e ⟨RcAt.tuple_int _ _ (isTup_of g) hu, RcNeAt.tuple_int _ _ (isTup_of g) hu⟩
    | str j t hj => exact fun e => eK e ⟨RcAt.tuple_str _ _ (isTup_of g) hu, RcNeAt.tuple_str _ _ (isTup_of g) hu⟩
    | tup l a ws n h => exact fun e => eN e
    | lst l a ws n h => exact fun e => eK e ⟨RcAt.tuple_list (isTup_of g) (isList_of h) hu, RcNeAt.tuple_list (isTup_of g) (isList_of h) hu⟩
  | lst l a ws n g => cases kb with
    | none => exact fun e => eK e ⟨RcAt.list_none (isList_of g) hu, RcNeAt.list_none (isList_of g) hu⟩
    | bool j => exact fun e => eN e
    | int j t => exact fun e => eK e ⟨RcAt.list_int _ _ (isList_of g) hu, RcNeAt.list_int _ _ (isList_of g) hu⟩
    | str j t hj => exact fun e => eK e ⟨RcAt.list_str _ _ (isList_of g) hu, RcNeAt.list_str _ _ (isList_of g) hu⟩
    | tup l a ws n h => exact fun e => eK e ⟨RcAt.list_tuple (isList_of g) (isTup_of h) hu, RcNeAt.list_tuple (isList_of g) (isTup_of h) hu⟩
    | lst l a ws n h => exact fun e => eN e
theorem eqA_rc {a b : V} {x y : Value} {k : Bool} (hu : A.units < cLine) (e : eqA a b = some k) (hx : Hv z.K Φ s.heap a x) (hy : Hv z.K Φ s.heap b y) : RcAt A s x y k ∧ RcNeAt A s x y (!k) :=
  xA (eqA_knd e) fun h1 h2 => kv_rc hu (kv_hv h1 hx) (kv_hv h2 hy) e
noncomputable def nofl : Value → Bool
  | .float _ _ => false
  | _ => true
theorem eqAt_of {x y : Value} {k : Bool} (h : RcAt A s x y k) (hx : nofl x = true) (he : x = y → k = true) : EqAt A s x y k := fun prog w E Q hq => by
  by_cases q : x = y
  · subst q; rw [he rfl] at hq; exact EqAt.same x prog w E Q hq
  · unfold eqBool
    refine wpAny_holding ?_
    refine wpAny_ite_split (fun hab => absurd (eq_of_beq hab) q) (fun _ => ?_)
    have fin : wpAny (model prog w) A (do truthOfDropped (← richCompare .Eq x y)) Q E s := wpAny_bind (h prog w E _ (wpAny_truthy_bool hq))
    cases x with
    | float b t => cases hx
    | _ => exact fin
theorem Rv.shape {K : Frag} {P : Value → Prop} {v : V} {x : Value} (h : Rv K Φ v x) (hn : v = .none → P .none) (hb : ∀ b, P (.bool b)) (hi : ∀ i t, P (.int i t)) (hs : ∀ k t, P (.str k t)) (hr : ∀ a, P (.ref a)) : P x := by
  cases v with
  | none => cases h; exact hn rfl
  | bool b => cases h; exact hb b
  | int i => obtain ⟨t, rfl⟩ := h; exact hi i t
  | str k => obtain ⟨_, t, rfl⟩ := h; exact hs _ t
  | tup l => obtain ⟨a, _, _, rfl, _⟩ := h; exact hr a
  | lst l => obtain ⟨a, _, _, rfl, _⟩ := h; exact hr a
  | obj C ks vs => obtain ⟨a, _, _, _, rfl, _⟩ := h; exact hr a
  | ref a => cases h; exact hr a
  | stat a => obtain ⟨rfl, _⟩ := h; exact hr a
theorem Rv.nofl {K : Frag} {v : V} {x : Value} (h : Rv K Φ v x) : nofl x = true := h.shape (P := fun x => Mine.nofl x = true) (fun _ => rfl) (fun _ => rfl) (fun _ _ => rfl) (fun _ _ => rfl) fun _ => rfl
theorem tup_lst {ws ws' : Array Value} {n n' : Nat} {C : Prop} (h : some (tupOf ws n) = some (listOf ws' n')) : C := by
  exfalso
  simp at h
theorem kv_same {F : Addr → Option Obj} {a b : V} {x : Value} (ka : KV F a x) (kb : KV F b x) : ∀ {k : Bool}, eqA a b = some k → k = true := by
  cases ka with
  | none => cases kb; exact fun e => eK (P := fun k => k = true) e rfl
  | bool i => cases kb; exact fun e => eK (P := fun k => k = true) e (beq_self_eq_true _)
  | int i t => cases kb; exact fun e => eK (P := fun k => k = true) e (beq_self_eq_true _)
  | str i t hi =>
    generalize hq : Value.str (strAt i) t = y at kb
    cases kb with
    | str j t' hj => exact fun e => eK (P := fun k => k = true) e (str_beq hi hj ▸ (Value.str.inj hq).1 ▸ beq_self_eq_true _)
    | _ => cases hq
  | tup l a ws n g => cases kb with
    | tup l a ws n h => exact fun e => eN e
    | lst l a ws n h => exact tup_lst (g.symm.trans h)
  | lst l a ws n g => cases kb with
    | tup l a ws n h => exact tup_lst (h.symm.trans g)
    | lst l a ws n h => exact fun e => eN e
theorem eqA_same {K : Frag} {a b : V} {x : Value} {k : Bool} (e : eqA a b = some k) (hx : Rv K Φ a x) (hy : Rv K Φ b x) : k = true := xA (eqA_knd e) fun h1 h2 => kv_same (kv_rv h1 hx) (kv_rv h2 hy) e
theorem eqL_same {K : Frag} {e : V → V → Option Bool} (he : ∀ a b x k, e a b = some k → Rv K Φ a x → Rv K Φ b x → k = true) : ∀ (l r : List V) (xs : List Value) (k : Bool), eqL e l r = some k → Rvs K Φ l xs → Rvs K Φ r xs → k = true
  | [], [], _, _, q, _, _ => by cases q; rfl
  | [], _ :: _, _, _, _, h1, h2 => by cases h1; revert h2; refine yEEA fun _ _ q _ => ?_; cases q
  | _ :: _, [], _, _, _, h1, h2 => by cases h2; revert h1; refine yEEA fun _ _ q _ => ?_; cases q
  | a :: l, b :: r, _, k, q, ⟨x, xs, rfl, h1, h1'⟩, ⟨y, ys, q2, h2, h2'⟩ => by
    cases q2
    unfold eqL at q
    cases e1 : e a b with
    | none => rw [e1] at q; cases q
    | some k1 =>
      cases e2 : eqL e l r with
      | none => rw [e1, e2] at q; cases q
      | some k2 =>
        rw [e1, e2] at q
        cases q
        rw [he a b x k1 e1 h1 h2, eqL_same he l r xs k2 e2 h1' h2']; rfl
theorem eqD_elim (f : Nat) {a b : V} {P : V → V → Option Bool → Prop} (h1 : ∀ l r, P (.tup l) (.tup r) (eqL (eqD f) l r)) (h2 : ∀ l r, P (.lst l) (.lst r) (eqL (eqD f) l r)) (h3 : P a b (eqA a b)) : P a b (eqD (f + 1) a b) := by
  cases a with
  | tup l => cases b with
    | tup r => exact h1 l r
    | _ => exact h3
  | lst l => cases b with
    | lst r => exact h2 l r
    | _ => exact h3
  | _ => exact h3
theorem eqD_cases (f : Nat) (a b : V) : (∃ l r, a = .tup l ∧ b = .tup r) ∨ (∃ l r, a = .lst l ∧ b = .lst r) ∨ eqD (f + 1) a b = eqA a b :=
  eqD_elim f (P := fun a b o => (∃ l r, a = .tup l ∧ b = .tup r) ∨ (∃ l r, a = .lst l ∧ b = .lst r) ∨ o = eqA a b) (fun l r => .inl ⟨l, r, rfl, rfl⟩) (fun l r => .inr (.inl ⟨l, r, rfl, rfl⟩)) (.inr (.inr rfl))
theorem eqD_same {K : Frag} : ∀ (f : Nat) (a b : V) (x : Value) (k : Bool), eqD f a b = some k → Rv K Φ a x → Rv K Φ b x → k = true
  | 0, a, b, x, k, q, h1, h2 => eqA_same (by unfold eqD at q; exact q) h1 h2
  | f + 1, a, b, x, k, q, h1, h2 => by
    rcases eqD_cases f a b with ⟨l, r, rfl, rfl⟩ | ⟨l, r, rfl, rfl⟩ | e
    · revert h1; refine yEEEAAA fun ad ws n' u23 g1 _ g2 => ?_; obtain rfl := u23
      revert h2; refine yEEEAAA fun ad' ws' n'' q2 g1' _ g2' => ?_
      cases q2
      rw [g1] at g1'
      cases g1'
      exact eqL_same (fun a b x k => eqD_same f a b x k) l r _ k q g2 g2'
    · revert h1; refine yEEEAAA fun ad ws n' u24 g1 _ g2 => ?_; obtain rfl := u24
      revert h2; refine yEEEAAA fun ad' ws' n'' q2 g1' _ g2' => ?_
      cases q2
      rw [g1] at g1'
      cases g1'
      exact eqL_same (fun a b x k => eqD_same f a b x k) l r _ k q g2 g2'
    · exact eqA_same (e ▸ q) h1 h2
noncomputable def eqJ (e : V → V → Option Bool) (l r : List V) (j : Nat) : Bool := match l[j]?, r[j]? with
  | some a, some b => (e a b).getD false
  | _, _ => false
theorem eqL_spec {e : V → V → Option Bool} : ∀ (l r : List V) (k : Bool), eqL e l r = some k →
    (∀ (j : Nat) (a b : V), l[j]? = some a → r[j]? = some b → e a b = some (eqJ e l r j)) ∧ k = ((List.range (min l.length r.length)).all (eqJ e l r) && l.length == r.length)
  | [], [], k, q => by cases q; exact ⟨fun j a b h => by simp at h, rfl⟩
  | [], _ :: _, k, q => by cases q; exact ⟨fun j a b h => by simp at h, by simp⟩
  | _ :: _, [], k, q => by cases q; exact ⟨fun j a b _ h => by simp at h, by simp⟩
  | a :: l, b :: r, k, q => by
    unfold eqL at q
    cases e1 : e a b with
    | none => rw [e1] at q; cases q
    | some k1 =>
      cases e2 : eqL e l r with
      | none => rw [e1, e2] at q; cases q
      | some k2 =>
        rw [e1, e2] at q
        cases q
        obtain ⟨h1, h2⟩ := eqL_spec l r k2 e2
        have hs : ∀ j, eqJ e (a :: l) (b :: r) (j + 1) = eqJ e l r j := fun j => rfl
        have h0 : eqJ e (a :: l) (b :: r) 0 = k1 := by simp [eqJ, e1]
        refine ⟨fun j u v hu hv => ?_, ?_⟩
        · cases j with
          | zero => simp at hu hv; subst hu hv; rw [h0]; exact e1
          | succ j => rw [hs]; exact h1 j u v (by simpa using hu) (by simpa using hv)
        · rw [h2]
          have : min (a :: l).length (b :: r).length = min l.length r.length + 1 := by simp only [List.length_cons]; omega
          rw [this, List.range_succ_eq_map, List.all_cons, h0, List.all_map]
          have : (eqJ e (a :: l) (b :: r) ∘ Nat.succ) = eqJ e l r := funext hs
          rw [this]
          simp [Bool.and_assoc]
theorem items_eqAt (I : Inv z c m Φ σ s) {f : Nat} {A : Around} (ih : ∀ (a b : V) (x y : Value) (k : Bool) (A : Around), eqD f a b = some k → A.units + f < cLine → Hv z.K Φ s.heap a x → Hv z.K Φ s.heap b y → RcAt A s x y k ∧ RcNeAt A s x y (!k))
    {l r : List V} {ws us : Array Value} (h : ∀ (j : Nat) (a b : V), l[j]? = some a → r[j]? = some b → eqD f a b = some (eqJ (eqD f) l r j)) (hu : A.units + (f + 1) < cLine) (h1 : Rvs z.K Φ l ws.toList) (h2 : Rvs z.K Φ r us.toList) :
    ∀ j (q1 : j < ws.size) (q2 : j < us.size), EqAt A.in1 s ws[j] us[j] (eqJ (eqD f) l r j) := fun j q1 q2 => by
  have s1 := h1.size
  have s2 := h2.size
  refine xEA (h1.get j l[j] (List.getElem?_eq_getElem (by omega))) fun x g1 g2 => ?_
  refine xEA (h2.get j r[j] (List.getElem?_eq_getElem (by omega))) fun y g3 g4 => ?_
  have e1 : ws[j] = x := by rw [Array.getElem?_toList] at g1; rw [Array.getElem?_eq_getElem q1] at g1; exact Option.some.inj g1
  have e2 : us[j] = y := by rw [Array.getElem?_toList] at g3; rw [Array.getElem?_eq_getElem q2] at g3; exact Option.some.inj g3
  rw [e1, e2]
  have e := h j _ _ (List.getElem?_eq_getElem (by omega)) (List.getElem?_eq_getElem (by omega))
  exact eqAt_of (ih _ _ _ _ _ A.in1 e (by show A.units + 1 + f < cLine; omega) (hv_of I g2) (hv_of I g4)).1 g2.nofl (fun q => by subst q; exact eqD_same f _ _ _ _ e g2 g4)
theorem eqD_rc (I : Inv z c m Φ σ s) : ∀ (f : Nat) (a b : V) (x y : Value) (k : Bool) (A : Around), eqD f a b = some k → A.units + f < cLine → Hv z.K Φ s.heap a x → Hv z.K Φ s.heap b y → RcAt A s x y k ∧ RcNeAt A s x y (!k)
  | 0, a, b, x, y, k, A, q, hu, h1, h2 => eqA_rc hu (by unfold eqD at q; exact q) h1 h2
  | f + 1, a, b, x, y, k, A, q, hu, h1, h2 => by
    rcases eqD_cases f a b with ⟨l, r, rfl, rfl⟩ | ⟨l, r, rfl, rfl⟩ | e
    · replace q : eqL (eqD f) l r = some k := q
      revert h1; refine yEEEAA fun ad ws n' u25 g1 g2 => ?_; obtain rfl := u25
      revert h2; refine yEEEAA fun ad' us n'' u26 g1' g2' => ?_; obtain rfl := u26
      obtain ⟨e1, e2⟩ := eqL_spec _ _ _ q
      have it := items_eqAt I (fun a b x y k A => eqD_rc I f a b x y k A) e1 hu g2 g2'
      subst e2
      have s1 := g2.size
      have s2 := g2'.size
      rw [← s1, ← s2]
      exact ⟨RcAt.tuples (isTup_of g1) (isTup_of g1') (by omega) it, RcNeAt.tuples (isTup_of g1) (isTup_of g1') (by omega) it⟩
    · replace q : eqL (eqD f) l r = some k := q
      revert h1; refine yEEEAA fun ad ws n' u27 g1 g2 => ?_; obtain rfl := u27
      revert h2; refine yEEEAA fun ad' us n'' u28 g1' g2' => ?_; obtain rfl := u28
      obtain ⟨e1, e2⟩ := eqL_spec _ _ _ q
      have it := items_eqAt I (fun a b x y k A => eqD_rc I f a b x y k A) e1 hu g2 g2'
      subst e2
      have s1 := g2.size
      have s2 := g2'.size
      by_cases hl : l.length = r.length
      · have h3 : ws.size = us.size := by omega
        have hb : (l.length == r.length) = true := by simp [hl]
        rw [hb, Bool.and_true, show min l.length r.length = ws.size by omega]
        exact ⟨RcAt.lists (isList_of g1) (isList_of g1') h3 (by omega) it, RcNeAt.lists (isList_of g1) (isList_of g1') h3 (by omega) it⟩
      · have h3 : (ws.size != us.size) = true := by simp; omega
        have hb : (l.length == r.length) = false := by simp [hl]
        rw [hb, Bool.and_false]
        exact ⟨RcAt.lists_lengths (isList_of g1) (isList_of g1') h3 (by omega), RcNeAt.lists_lengths (isList_of g1) (isList_of g1') h3 (by omega)⟩
    · exact eqA_rc (by omega) (e ▸ q) h1 h2
theorem rvs_one {v : V} {vs' : List Value} {K : Frag} (h : Rvs K Φ [v] vs') : ∃ x, vs' = [x] ∧ Rv K Φ v x := by
  revert h; refine yEEAA fun x xs u29 h1 h2 => ?_; obtain rfl := u29
  cases h2
  exact ⟨x, rfl, h1⟩
theorem rvs_two {v w : V} {vs' : List Value} {K : Frag} (h : Rvs K Φ [v, w] vs') : ∃ x y, vs' = [x, y] ∧ Rv K Φ v x ∧ Rv K Φ w y := by
  revert h; refine yEEAA fun x xs u30 h1 h2 => ?_; obtain rfl := u30
  refine xEA (rvs_one h2) fun y u31 h3 => ?_; obtain rfl := u31
  exact ⟨x, y, rfl, h1, h3⟩
theorem chain_succ {C : Addr} {v : V} {i : Nat} (h : chain C v = some (i + 1)) : ∃ ks a d, v = .obj C ks [a, d] ∧ chain C d = some i := by
  cases v with
  | obj D ks vs =>
    unfold chain at h
    split at h
    · rename_i q
      subst q
      split at h
      · rename_i a d
        refine xEA (Option.map_eq_some_iff.mp h) fun j h1 h2 => ?_
        refine ⟨ks, a, d, rfl, ?_⟩
        rw [h1]; congr 1; omega
      · cases h
    · cases h
  | _ => unfold chain at h; cases h
theorem chain_zero {C : Addr} {v : V} (h : chain C v = some 0) : v = .none ∨ (∃ i, v = .int i) ∨ (∃ i, v = .str i) ∨ ∃ a, v = .stat a := by
  cases v with
  | obj D ks vs =>
    unfold chain at h
    split at h
    · split at h
      · refine xEA (Option.map_eq_some_iff.mp h) fun j h1 h2 => ?_; omega
      · cases h
    · cases h
  | none => exact .inl rfl
  | int i => exact .inr (.inl ⟨i, rfl⟩)
  | str i => exact .inr (.inr (.inl ⟨i, rfl⟩))
  | stat i => exact .inr (.inr (.inr ⟨i, rfl⟩))
  | _ => unfold chain at h; cases h
theorem stat_old (g : Iok z) (zo : z.Ok) {a : Addr} (h : a = 44 ∨ a = 47) : z.h₀.get? a ≠ none := by
  have := List.all_eq_true.mp g.stat a (by rcases h with rfl | rfl <;> simp)
  split at this
  · rename_i dx sl e
    rw [zo.X _ _ e]; exact nofun
  · cases this
theorem obj_not_atom (g : Iok z) (zo : z.Ok) (I : Inv z c m Φ σ s) {C : Addr} {ks : List Nat} {vs : List V} {w : V} {x : Value} (h : chain C w = some 0) (h1 : Rv z.K Φ (.obj C ks vs) x) (h2 : Rv z.K Φ w x) : False := by
  revert h1; refine yEEEEAA fun ad d es n' u32 g1 _ => ?_; obtain rfl := u32
  rcases chain_zero h with rfl | ⟨i, rfl⟩ | ⟨i, rfl⟩ | ⟨i, rfl⟩
  · cases h2
  · obtain ⟨t, q⟩ := h2; cases q
  · revert h2; refine yAE fun _ t q => ?_; cases q
  · obtain ⟨q, hs⟩ := h2
    cases q
    exact stat_old g zo hs (I.froNew g1)
theorem chain_same (g : Iok z) (zo : z.Ok) (I : Inv z c m Φ σ s) {C : Addr} : ∀ (i : Nat) (v w : V) (x : Value) (j : Nat), chain C v = some i → chain C w = some j → Rv z.K Φ v x → Rv z.K Φ w x → i = j
  | 0, v, w, x, 0, _, _, _, _ => rfl
  | 0, v, w, x, j + 1, h1, h2, r1, r2 => by
    refine xEEEA (chain_succ h2) fun ks a d u33 _ => ?_; obtain rfl := u33
    exact (obj_not_atom g zo I h1 r2 r1).elim
  | i + 1, v, w, x, 0, h1, h2, r1, r2 => by
    refine xEEEA (chain_succ h1) fun ks a d u34 _ => ?_; obtain rfl := u34
    exact (obj_not_atom g zo I h2 r1 r2).elim
  | i + 1, v, w, x, j + 1, h1, h2, r1, r2 => by
    refine xEEEA (chain_succ h1) fun ks a d u35 e1 => ?_; obtain rfl := u35
    refine xEEEA (chain_succ h2) fun ks' a' d' u36 e2 => ?_; obtain rfl := u36
    revert r1; refine yEEEEAAAAA fun ad dd es n' u37 g1 g2 _ _ g3 => ?_; obtain rfl := u37
    revert r2; refine yEEEEAAAAA fun ad' dd' es' n'' q g1' g2' _ _ g3' => ?_
    cases q
    rw [g1] at g1'
    cases g1'
    rw [g2] at g2'
    simp only [Option.some.injEq, Obj.mk.injEq, Data.dict.injEq, true_and, and_true] at g2'
    have he : es = es' := by have := congrArg Array.toList g2'.1; simpa using this
    subst he
    refine xEEAA (rvs_two g3) fun x1 y1 q1 _ k1 => ?_
    refine xEEAA (rvs_two g3') fun x2 y2 q2 _ k2 => ?_
    rw [q1] at q2
    cases q2
    rw [chain_same g zo I i d d' y1 j e1 e2 k1 k2]
noncomputable def IsAt (A : Around) (s : Shared) (x y : Value) (k : Bool) : Prop := ∀ (prog : Program) (w : World) (E : Value → Shared → Prop) (R : Bool → Shared → Prop), R k s → wpAny (model prog w) A (isSame x y) R E s
theorem is_none {v : V} {x : Value} {K : Frag} (h : Rv K Φ v x) (hv : v ≠ .none) : IsAt A s x .none false := h.shape (P := fun x => IsAt A s x .none false) (fun e => absurd e hv) (fun _ _ _ _ _ hr => wpAny_isSame_plain rfl hr) (fun _ _ _ _ _ _ hr => wpAny_isSame_plain rfl hr) (fun _ _ _ _ _ _ hr => wpAny_isSame_plain rfl hr) fun _ _ _ _ _ hr => wpAny_isSame_plain rfl hr
theorem isV_at (g : Iok z) (zo : z.Ok) (I : Inv z c m Φ σ s) {C : Addr} {a b : V} {x y : Value} {k : Bool} (e : isV C a b = some k) (hx : Rv z.K Φ a x) (hy : Rv z.K Φ b y) : IsAt A s x y k := by
  cases b with
  | none =>
    cases hy
    cases a with
    | none => cases hx; exact eK (P := IsAt A s .none .none) e fun prog w E R hr => wpAny_isSame_plain rfl hr
    | _ => exact eK (P := IsAt A s x .none) e (is_none hx nofun)
  | stat j =>
    obtain ⟨rfl, hj⟩ := hy
    refine xEE (I.stat g zo hj) fun oy od hI => ?_
    cases a with
    | stat i =>
      obtain ⟨rfl, hi⟩ := hx
      refine xEE (I.stat g zo hi) fun ox od' hI' => ?_
      cases e
      by_cases q : i = j
      · subst q; rw [beq_self_eq_true]; exact fun prog w E R hr => wpAny_isSame_ref_self hr
      · rw [beq_eq_false_iff_ne.mpr q]; exact fun prog w E R hr => wpAny_isSame_ref_other q hI'.at_ hI.at_ (by rw [hI'.cls]; exact nofun) hr
    | obj D ks vs =>
      cases e
      revert hx; refine yEEEEAAA fun ad d es n' u46 g1 g2 _ => ?_; obtain rfl := u46
      have hne : ad ≠ j := by rintro rfl; exact stat_old g zo hj (I.froNew g1)
      exact fun prog w E R hr => wpAny_isSame_ref_other hne (I.froAt g1) hI.at_ (by exact nofun) hr
    | int i =>
      cases e
      obtain ⟨t, rfl⟩ := hx
      exact fun prog w E R hr => wpAny_isSame_plain rfl hr
    | _ => exact eN e
  | obj D' ks' vs' =>
    cases a with
    | obj D ks vs =>
      have hx' := hx
      have hy' := hy
      revert hx; refine yEEEEAAA fun ad d es n' u47 g1 g2 _ => ?_; obtain rfl := u47
      revert hy; refine yEEEEAAA fun ad' d' es' n'' u48 g1' g2' _ => ?_; obtain rfl := u48
      have e : (match chain C (.obj D ks vs), chain C (.obj D' ks' vs') with
        | some n, some k => if n = k then Option.none else some false
        | _, _ => Option.none) = some k := e
      split at e
      · rename_i i j e1 e2
        split at e
        · cases e
        · rename_i hij
          cases e
          have hne : ad ≠ ad' := by rintro rfl; exact hij (chain_same g zo I i _ _ _ j e1 e2 hx' hy')
          exact fun prog w E R hr => wpAny_isSame_ref_other hne (I.froAt g1) (I.froAt g1') (by exact nofun) hr
      · cases e
    | stat i =>
      cases e
      obtain ⟨rfl, hi⟩ := hx
      refine xEE (I.stat g zo hi) fun ox od hI => ?_
      revert hy; refine yEEEEAAA fun ad d es n' u49 g1 g2 _ => ?_; obtain rfl := u49
      have hne : i ≠ ad := by rintro rfl; exact stat_old g zo hi (I.froNew g1)
      exact fun prog w E R hr => wpAny_isSame_ref_other hne hI.at_ (I.froAt g1) (by rw [hI.cls]; exact nofun) hr
    | int i =>
      cases e
      obtain ⟨t, rfl⟩ := hx
      revert hy; refine yEEEEAAA fun ad d es n' u50 g1 g2 _ => ?_; obtain rfl := u50
      exact fun prog w E R hr => wpAny_isSame_plain rfl hr
    | _ => exact eN e
  | _ => cases a <;> exact eN e
theorem anyEq_spec {v : V} : ∀ (l : List V) (k : Bool), anyEq v l = some k → (∀ u ∈ l, ∃ j, eqA u v = some j) ∧ k = l.any (fun u => eqA u v == some true)
  | [], k, q => by cases q; exact ⟨(fun _ h => nomatch h), rfl⟩
  | u :: r, k, q => by
    unfold anyEq at q
    cases e1 : eqA u v with
    | none => rw [e1] at q; cases q
    | some k1 =>
      cases e2 : anyEq v r with
      | none => rw [e1, e2] at q; cases q
      | some k2 =>
        rw [e1, e2] at q
        cases q
        obtain ⟨h1, h2⟩ := anyEq_spec r k2 e2
        refine ⟨fun u' h' => ?_, ?_⟩
        · rcases List.mem_cons.mp h' with rfl | h'
          · exact ⟨k1, e1⟩
          · exact h1 u' h'
        · rw [List.any_cons, e1, h2]; cases k1 <;> rfl
noncomputable def eVal : V → Value → Bool
  | .str k, .str s _ => s == strAt k
  | .int i, .int j _ => j == i
  | _, _ => false
theorem kv_eval {F : Addr → Option Obj} {u v : V} {x y : Value} (ku : KV F u y) (kv : KV F v x) (hp : v.plainV = true) : ∀ {j : Bool}, eqA u v = some j → eVal v y = j := by
  cases kv with
  | int i t => cases ku with
    | bool b => exact fun e => eN e
    | _ => exact fun e => eK (P := fun j => eVal _ _ = j) e rfl
  | str i t hi => cases ku with
    | bool b => exact fun e => eN e
    | str k t' hk => exact fun e => eK (P := fun j => eVal _ _ = j) e (str_beq hk hi)
    | _ => exact fun e => eK (P := fun j => eVal _ _ = j) e rfl
  | _ => exact absurd hp Bool.false_ne_true
theorem eVal_of {K : Frag} {u v : V} {x y : Value} {j : Bool} (hp : v.plainV = true) (h1 : Rv K Φ u y) (hv : Rv K Φ v x) (e : eqA u v = some j) : eVal v y = j := xA (eqA_knd e) fun k1 k2 => kv_eval (kv_rv k1 h1) (kv_rv k2 hv) hp e
theorem in_items (I : Inv z c m Φ σ s) {v : V} {x : Value} (hp : v.plainV = true) (hx : Rv z.K Φ v x) (hu : A.units + 1 < cLine) : ∀ (l : List V) (xs : List Value), Rvs z.K Φ l xs → (∀ u ∈ l, ∃ j, eqA u v = some j) →
    (∀ y ∈ xs, EqAt A.in1 s y x (eVal v y)) ∧ xs.any (eVal v) = l.any (fun u => eqA u v == some true)
  | [], xs, h, _ => by cases h; exact ⟨(fun _ h => nomatch h), rfl⟩
  | u :: l, _, ⟨y, ys, rfl, h1, h2⟩, hs => by
    obtain ⟨k1, k2⟩ := in_items I hp hx hu l ys h2 fun u' h' => hs u' (.tail _ h')
    obtain ⟨j, hj⟩ := hs u (.head _)
    have hE : EqAt A.in1 s y x j := eqAt_of (eqA_rc (by show A.units + 1 < cLine; exact hu) hj (hv_of I h1) (hv_of I hx)).1 h1.nofl (fun q => by subst q; exact eqA_same hj h1 hx)
    have ej := eVal_of hp h1 hx hj
    refine ⟨fun w hw => ?_, ?_⟩
    · rcases List.mem_cons.mp hw with rfl | hw
      · rw [ej]; exact hE
      · exact k1 w hw
    · rw [List.any_cons, List.any_cons, hj, ej, k2]
      cases j <;> rfl
theorem cLine_of (o : c.Ok z n) : c.A.units + 60 < cLine := by have := o.units; show c.A.units + 60 < 9900; omega
noncomputable def Cmp.op : Cmp → CmpOp
  | .eq => .Eq
  | .ne => .NotEq
  | .lt => .Lt
  | .le => .LtE
  | .gt => .Gt
  | .is => .Is
  | .isNot => .IsNot
  | .isin => .In
  | .notIn => .NotIn
theorem in_at (I : Inv z c m Φ σ s) (o : c.Ok z n) {a b : V} {l : List V} {x y : Value} {k : Bool} (hp : a.plainV = true) (hb : b = .tup l ∨ b = .lst l) (e : anyEq a l = some k) (hx : Rv z.K Φ a x) (hy : Rv z.K Φ b y) {P : Value → Shared → Prop} {E : Value → Shared → Prop} :
    (P (.bool k) s → wpAny (model z.prog z.w) c.A (compareOp .In x y) P E s) ∧ (P (.bool !k) s → wpAny (model z.prog z.w) c.A (compareOp .NotIn x y) P E s) := by
  have hu := cLine_of o
  obtain ⟨h1, h2⟩ := anyEq_spec l k e
  rcases hb with rfl | rfl
  · revert hy; refine yEEEAAA fun ad ws n' u58 g1 _ g2 => ?_; obtain rfl := u58
    obtain ⟨k1, k2⟩ := in_items I hp hx (A := c.A) (by omega) l _ g2 h1
    have ka : ws.any (eVal a) = k := by rw [← Array.any_toList, k2, h2]
    exact ⟨fun h => in_tupleAt (eVal a) (isTup_of (I.froAt g1)) (fun y hy => k1 y (Array.mem_toList_iff.mpr hy)) (by rw [ka]; exact h), fun h => notIn_tupleAt (eVal a) (isTup_of (I.froAt g1)) (fun y hy => k1 y (Array.mem_toList_iff.mpr hy)) (by rw [ka]; exact h)⟩
  · revert hy; refine yEEEAAA fun ad ws n' u59 g1 _ g2 => ?_; obtain rfl := u59
    obtain ⟨k1, k2⟩ := in_items I hp hx (A := c.A) (by omega) l _ g2 h1
    have ka : ws.any (eVal a) = k := by rw [← Array.any_toList, k2, h2]
    exact ⟨fun h => in_listAt (eVal a) (isList_of (I.froAt g1)) (fun y hy => k1 y (Array.mem_toList_iff.mpr hy)) (by rw [ka]; exact h), fun h => notIn_listAt (eVal a) (isList_of (I.froAt g1)) (fun y hy => k1 y (Array.mem_toList_iff.mpr hy)) (by rw [ka]; exact h)⟩
theorem cmp_at (g : Iok z) (zo : z.Ok) (I : Inv z c m Φ σ s) (o : c.Ok z n) {C : Addr} {op : Cmp} {a b : V} {x y : Value} {k : Bool} (e : cmpV C σ op a b = some k) (hx : Rv z.K Φ a x) (hy : Rv z.K Φ b y) {P : Value → Shared → Prop} {E : Value → Shared → Prop} (h : P (.bool k) s) :
    wpAny (model z.prog z.w) c.A (compareOp op.op x y) P E s := by
  have hu := cLine_of o
  cases op with
  | eq => exact (eqD_rc I 50 _ _ _ _ k c.A e (by omega) (hv_shut I hx) (hv_shut I hy)).1 z.prog z.w E P h
  | ne =>
    refine xEA (Option.map_eq_some_iff.mp e) fun k' e' u60 => ?_; obtain rfl := u60
    exact (eqD_rc I 50 _ _ _ _ k' c.A e' (by omega) (hv_shut I hx) (hv_shut I hy)).2 z.prog z.w E P h
  | lt =>
    refine xEEAA (intF_some e) fun i j r1 r2 r3 => ?_
    subst r1; subst r2; subst r3
    obtain ⟨t, rfl⟩ := rv_int hx
    obtain ⟨t', rfl⟩ := rv_int hy
    exact PySem.P.lt_int h
  | le =>
    refine xEEAA (intF_some e) fun i j r1 r2 r3 => ?_
    subst r1; subst r2; subst r3
    obtain ⟨t, rfl⟩ := rv_int hx
    obtain ⟨t', rfl⟩ := rv_int hy
    exact PySem.P.le_int h
  | gt =>
    refine xEEAA (intF_some e) fun i j r1 r2 r3 => ?_
    subst r1; subst r2; subst r3
    obtain ⟨t, rfl⟩ := rv_int hx
    obtain ⟨t', rfl⟩ := rv_int hy
    exact PySem.P.gt_int h
  | is => exact wpAny_bind (isV_at g zo I e hx hy _ _ _ _ (wpAny_pure h))
  | isNot =>
    refine xEA (Option.map_eq_some_iff.mp e) fun k' e' u61 => ?_; obtain rfl := u61
    exact wpAny_bind (isV_at g zo I e' hx hy _ _ _ _ (wpAny_pure h))
  | isin => exact xEAA (inF_some e) fun l hb hp e => (in_at I o hp hb e hx hy).1 h
  | notIn =>
    refine xEA (Option.map_eq_some_iff.mp e) fun k' e' r1 => ?_
    subst r1
    exact xEAA (inF_some e') fun l hb hp e => (in_at I o hp hb e hx hy).2 h
abbrev cmpW (C : Addr) (op : Cmp) (W1 W2 : (V → AH → Prop) → AH → Prop) (Q : V → AH → Prop) (σ : AH) : Prop := W1 (fun u σ => W2 (fun v σ => match cmpV C σ op u v with
    | some t => Q (.bool t) σ
    | none => False) σ) σ
theorem s_cmp (g : Iok z) (a : At z n c fx) {C : Addr} {op : Cmp} {x y : Expr} {pos : Pos} {W1 W2 : (V → AH → Prop) → AH → Prop} (h1 : SE z c m fx ls X x W1) (h2 : SE z c m fx ls X y W2) (hm : behindInMarks op.op y = false) :
    SE z c m fx ls X (.Compare x [op.op] [y] pos) (cmpW C op W1 W2) := fun Q Φ σ s l I w => by
  refine wpAny_Compare1 (h1.bind l I w fun Φ₁ u' u σ₁ s₁ le l₁ hu I₁ q => err_up le (h2.bind l₁ I₁ q fun Φ₂ v' v σ₂ s₂ le₂ l₂ hv I₂ q₂ => eSb q₂ fun t e q => ?_)) hm
  exact cmp_at g a.zo I₂ a.o e (hu.mono le₂) hv ⟨Φ₂, .bool t, σ₂, le.trans le₂, rfl, I₂, q⟩
theorem st_cmp (g : Iok z) (a : At z n c fx) {C : Addr} {op : Cmp} {x y : Expr} {pos : Pos} {W1 W2 : (V → AH → Prop) → AH → Prop} (h1 : SE z c m fx ls X x W1) (h2 : SE z c m fx ls X y W2) (hm : behindInMarks op.op y = false) :
    ST z c m fx ls X (.Compare x [op.op] [y] pos) (cmpW C op W1 W2) := fun P Q Φ σ s hq l I w => by
  refine wpAny_isTrue_Compare1 (h1.bind l I w fun Φ₁ u' u σ₁ s₁ le l₁ hu I₁ q => err_up le (h2.bind l₁ I₁ q fun Φ₂ v' v σ₂ s₂ le₂ l₂ hv I₂ q₂ => eSb q₂ fun t e q => cmp_at g a.zo I₂ a.o e (hu.mono le₂) hv (xEA (hq _ _ q) fun b e' q => ?_))) hm
  cases e'
  exact wpAny_truthy_bool ⟨Φ₂, σ₂, le.trans le₂, I₂, q⟩
abbrev cmp2W (C : Addr) (op op' : Cmp) (W1 W2 W3 : (V → AH → Prop) → AH → Prop) (Q : V → AH → Prop) (σ : AH) : Prop := W1 (fun u σ => W2 (fun v σ => match cmpV C σ op u v with
    | some true => W3 (fun w σ => match cmpV C σ op' v w with
      | some t => Q (.bool t) σ
      | none => False) σ
    | some false => Q (.bool false) σ
    | none => False) σ) σ
theorem st_cmp2 (g : Iok z) (a : At z n c fx) {C : Addr} {op op' : Cmp} {x y y2 : Expr} {pos : Pos} {W1 W2 W3 : (V → AH → Prop) → AH → Prop} (h1 : SE z c m fx ls X x W1) (h2 : SE z c m fx ls X y W2) (h3 : SE z c m fx ls X y2 W3) (hm : lastMarks [op.op, op'.op] [y, y2] = false) :
    ST z c m fx ls X (.Compare x [op.op, op'.op] [y, y2] pos) (cmp2W C op op' W1 W2 W3) := fun P Q Φ σ s hq l I w => by
  refine isTrue_chain (h1.bind l I w fun Φ₁ u' u σ₁ s₁ le l₁ hu I₁ q => ?_) hm
  show wpAny _ _ (testChain pos u' [op.op, op'.op] [eval y c.env, eval y2 c.env]) _ _ _
  refine test_link (err_up le (h2.bind l₁ I₁ q fun Φ₂ v' v σ₂ s₂ le₂ l₂ hv I₂ q₂ => ?_))
  cases e : cmpV C σ₂ op u v with
  | none => rw [e] at q₂; exact q₂.elim
  | some t =>
    rw [e] at q₂
    cases t with
    | true =>
      refine cmp_at g a.zo I₂ a.o e (hu.mono le₂) hv (wpAny_truthy_bool ?_)
      rw [if_pos rfl]
      refine test_last (err_up (le.trans le₂) (h3.bind l₂ I₂ q₂ fun Φ₃ w' w σ₃ s₃ le₃ l₃ hw I₃ q₃ => eSb q₃ fun t e q => cmp_at g a.zo I₃ a.o e (hv.mono le₃) hw (xEA (hq _ _ q) fun b e' q => ?_)))
      cases e'
      exact wpAny_truthy_bool ⟨Φ₃, σ₃, (le.trans le₂).trans le₃, I₃, q⟩
    | false =>
      refine cmp_at g a.zo I₂ a.o e (hu.mono le₂) hv (wpAny_truthy_bool ?_)
      rw [if_neg (by decide)]
      refine xEA (hq _ _ q₂) fun b e' q => ?_
      cases e'
      exact ⟨Φ₂, σ₂, le.trans le₂, I₂, q⟩
end
end Mine
end
noncomputable section
namespace Mine
noncomputable def FL (z : Z) (c : Cx) (fx : Fx) (Φ : Fz) (R : V → AH → Prop) (N : Ls → AH → Prop) (f : Flow) (s : Shared) : Prop := match f with
  | .next => ∃ Φ' σ' m' ls', Φ.le Φ' ∧ Lm fx z c m' Φ' ls' ∧ Inv z c m' Φ' σ' s ∧ N ls' σ'
  | .ret v => RETV z c Φ R v s
  | _ => False
abbrev WSt := (V → AH → Prop) → (Ls → AH → Prop) → Ls → AH → Prop
noncomputable def SS (z : Z) (c : Cx) (fx : Fx) (X : AH → Prop) (st : Stmt) (W : WSt) : Prop :=
  ∀ (R : V → AH → Prop) (N : Ls → AH → Prop) (Φ : Fz) (σ : AH) (m : Str → Option Value) (ls : Ls) (s : Shared), Lm fx z c m Φ ls → Inv z c m Φ σ s → W R N ls σ → wpAny (model z.prog z.w) c.A (exec st c.env) (FL z c fx Φ R N) (ERR z c Φ X) s
noncomputable def SB (z : Z) (c : Cx) (fx : Fx) (X : AH → Prop) (b : List Stmt) (W : WSt) : Prop :=
  ∀ (R : V → AH → Prop) (N : Ls → AH → Prop) (Φ : Fz) (σ : AH) (m : Str → Option Value) (ls : Ls) (s : Shared), Lm fx z c m Φ ls → Inv z c m Φ σ s → W R N ls σ → wpAny (model z.prog z.w) c.A (execs b c.env) (FL z c fx Φ R N) (ERR z c Φ X) s
section
variable {z : Z} {n : Nat} {c : Cx} {m : Str → Option Value} {fx : Fx} {ls : Ls} {X : AH → Prop} {Φ : Fz} {σ : AH} {s : Shared}
theorem RETV.up {Φ' : Fz} {Q : V → AH → Prop} {v : Value} (le : Φ.le Φ') (x : RETV z c Φ' Q v s) : RETV z c Φ Q v s :=
  let ⟨Φ₂, v', σ', m', a, b⟩ := x; ⟨Φ₂, v', σ', m', le.trans a, b⟩
theorem FL.up {Φ' : Fz} {R : V → AH → Prop} {N : Ls → AH → Prop} {f : Flow} (le : Φ.le Φ') (x : FL z c fx Φ' R N f s) : FL z c fx Φ R N f s := by
  cases f with
  | next => revert x; refine yEEEEA fun Φ₂ σ' m' ls' a b => ?_; exact ⟨Φ₂, σ', m', ls', le.trans a, b⟩
  | ret v => exact RETV.up le x
  | _ => exact x
theorem fl_up {Φ' : Fz} {R : V → AH → Prop} {N : Ls → AH → Prop} {t : Sem Flow} (le : Φ.le Φ') (h : wpAny (model z.prog z.w) c.A t (FL z c fx Φ' R N) (ERR z c Φ' X) s) : wpAny (model z.prog z.w) c.A t (FL z c fx Φ R N) (ERR z c Φ X) s :=
  wpAny_mono h (fun _ _ x => x.up le) fun _ _ x => x.up le
theorem FL.now {R : V → AH → Prop} {N : Ls → AH → Prop} (l : Lm fx z c m Φ ls) (I : Inv z c m Φ σ s) (q : N ls σ) : FL z c fx Φ R N .next s := ⟨Φ, σ, m, ls, Fz.le.refl _, l, I, q⟩
theorem sb_nil : SB z c fx X [] (fun _ N ls σ => N ls σ) := fun R N Φ σ m ls s l I w => wpAny_execs_nil (FL.now l I w)
theorem sb_cons {st : Stmt} {rest : List Stmt} {W1 W2 : WSt} (h1 : SS z c fx X st W1) (h2 : SB z c fx X rest W2) : SB z c fx X (st :: rest) (fun R N ls σ => W1 R (fun ls σ => W2 R N ls σ) ls σ) := fun R N Φ σ m ls s l I w => by
  refine wpAny_execs_cons (wpAny_mono (h1 R _ Φ σ m ls s l I w) (fun f s₁ h => ?_) fun _ _ e => e)
  cases f with
  | next => revert h; refine yEEEEAAA fun Φ₁ σ₁ m₁ ls₁ le l₁ I₁ q => ?_; exact fl_up le (h2 R N Φ₁ σ₁ m₁ ls₁ s₁ l₁ I₁ q)
  | ret v => exact h
  | _ => exact h.elim
noncomputable def notComp : Expr → Bool
  | .ListComp .. => false
  | .SetComp .. => false
  | .DictComp .. => false
  | _ => true
theorem swaps_none {e : Expr} (h : notComp e = true) (t : Option Expr) (k : Nat) (env : Env) : swapsWith e t k env = pure false := by
  cases e <;> first | rfl | cases h
theorem Cx.Ok.inter (o : c.Ok z n) : interactive c.env = false := by
  unfold interactive
  rw [o.ek]; rfl
theorem Cx.Ok.plainPlace (o : c.Ok z n) : (c.env.scope.kind == .class || (c.env.scope.kind == .module && c.env.locals != c.env.globals)) = false := by
  rw [o.ek]; rfl
noncomputable def frmSet (m : Str → Option Value) (x : Str) (v : Value) : Str → Option Value := fun y => if y = x then some v else m y
theorem Lm.set (a : At z n c fx) {i : Nat} {x : Str} {v : V} {v' : Value} (nd : fx.names.Nodup) (hx : fx.names[i]? = some x) (hk : fx.kinds.lookup x = some .local) (l : Lm fx z c m Φ ls) (hv : Rv z.K Φ v v') : Lm fx z c (frmSet m x v') Φ (ls.set i (some v)) := fun j u y h1 h2 h3 => by
  have kx : c.env.kindOf x = some .local := by rw [a.kind]; exact hk
  by_cases e : i = j
  · subst e
    rw [hx] at h2; cases h2
    have e2 : u = v := by
      rw [List.getElem?_set_self'] at h1
      cases q : ls[i]? with
      | none => rw [q] at h1; cases h1
      | some _ => rw [q] at h1; simpa [Function.const] using h1.symm
    subst e2
    exact ⟨v', .inl ⟨kx, by simp [frmSet]⟩, hv⟩
  · rw [List.getElem?_set_ne e] at h1
    have hne : y ≠ x := fun q => by
      subst q
      exact e ((List.getElem?_inj (List.getElem?_eq_some_iff.mp hx).1 nd).mp (hx.trans h2.symm))
    refine xEA (l j u y h1 h2 h3) fun val hr hv2 => ?_
    refine ⟨val, ?_, hv2⟩
    rcases hr with ⟨k1, k2⟩ | k
    · exact .inl ⟨k1, by simp only [frmSet, hne, if_false]; exact k2⟩
    · exact .inr k
theorem store_ok (a : At z n c fx) {i : Nat} {x : Str} {v : V} {v' : Value} (nd : fx.names.Nodup) (hx : fx.names[i]? = some x) (hk : fx.kinds.lookup x = some .local) (l : Lm fx z c m Φ ls) (I : Inv z c m Φ σ s) (hv : Rv z.K Φ v v') {Q : Unit → Shared → Prop} {E : Value → Shared → Prop}
    (k : ∀ (s' : Shared), Lm fx z c (frmSet m x v') Φ (ls.set i (some v)) → Inv z c (frmSet m x v') Φ σ s' → Q () s') : wpAny (model z.prog z.w) c.A (storeName c.env x v') Q E s := by
  refine wpAny_storeName_local (by rw [a.kind]; exact hk) (I.fr a.o).ns (fun h' hn hs => ?_) a.o.plainPlace
  exact k _ (l.set a nd hx hk hv) (I.store a.o (t := s.toks + 1) (fun b o nb e => by rw [hs.2 b (by simpa using nb)]; exact e) hn)
theorem s_expr (a : At z n c fx) {e : Expr} {pos : Pos} {W : Ls → (V → AH → Prop) → AH → Prop} (h : ∀ m ls, SE z c m fx ls X e (W ls)) (hc : notComp e = true) : SS z c fx X (.Expr e pos) (fun _ N ls σ => W ls (fun _ σ => N ls σ) σ) := fun R N Φ σ m ls s l I w =>
  wpAny_Expr_any ((h m ls).bind l I w fun Φ₁ v' v σ₁ s₁ le l₁ hv I₁ q => FL.up le (FL.now l₁ I₁ q)) a.o.inter (swaps_none hc _ _ _)
theorem s_set (a : At z n c fx) {e : Expr} {i : Nat} {x : Str} {pos pos' : Pos} {W : Ls → (V → AH → Prop) → AH → Prop} (h : ∀ m ls, SE z c m fx ls X e (W ls)) (hc : notComp e = true) (nd : fx.names.Nodup) (hx : fx.names[i]? = some x) (hk : fx.kinds.lookup x = some .local) :
    SS z c fx X (.Assign [.Name x pos'] e pos) (fun _ N ls σ => W ls (fun v σ => N (ls.set i (some v)) σ) σ) := fun R N Φ σ m ls s l I w =>
  wpAny_Assign_Name ((h m ls).bind l I w fun Φ₁ v' v σ₁ s₁ le l₁ hv I₁ q => store_ok a nd hx hk l₁ I₁ hv fun s' l₂ I₂ => FL.up le (FL.now l₂ I₂ q)) (swaps_none hc _ _ _)
theorem s_ret {e : Expr} {pos : Pos} {W : Ls → (V → AH → Prop) → AH → Prop} (h : ∀ m ls, SE z c m fx ls X e (W ls)) : SS z c fx X (.Return (some e) pos) (fun R _ ls σ => W ls R σ) := fun R N Φ σ m ls s l I w =>
  wpAny_Return_some ((h m ls).bind l I w fun Φ₁ v' v σ₁ s₁ le l₁ hv I₁ q => ⟨Φ₁, v, σ₁, m, le, hv, I₁, q⟩)
theorem s_ret0 {pos : Pos} : SS z c fx X (.Return none pos) (fun R _ _ σ => R .none σ) := fun R N Φ σ m ls s l I w =>
  wpAny_Return_none ⟨Φ, .none, σ, m, Fz.le.refl _, rfl, I, w⟩
theorem s_if {t : Expr} {b1 b2 : List Stmt} {pos : Pos} {W : Ls → (V → AH → Prop) → AH → Prop} {W1 W2 : WSt} (h : ∀ m ls, ST z c m fx ls X t (W ls)) (h1 : SB z c fx X b1 W1) (h2 : SB z c fx X b2 W2) :
    SS z c fx X (.If t b1 b2 pos) (fun R N ls σ => W ls (fun v σ => match v with | .bool true => W1 R N ls σ | .bool false => W2 R N ls σ | _ => False) σ) := fun R N Φ σ m ls s l I w => by
  refine wpAny_If (wpAny_mono (h m ls _ (fun b σ => if b = true then W1 R N ls σ else W2 R N ls σ) Φ σ s (fun v σ q => eBB q fun t e q => ⟨t, e, q⟩) l I w) (fun b s' hb => ?_) fun _ _ e => e)
  revert hb; refine yEEAA fun Φ₁ σ₁ le I₁ q => ?_
  cases b with
  | true => rw [if_pos rfl] at q ⊢; exact fl_up le (h1 R N Φ₁ σ₁ m ls s' (l.mono le) I₁ q)
  | false => rw [if_neg (by decide)] at q ⊢; exact fl_up le (h2 R N Φ₁ σ₁ m ls s' (l.mono le) I₁ q)
theorem err_pass {M : Model} (o : c.Ok z n) (f : c.Fun) {e : Value} (x : ERR z c Φ X e s) : notedBy M c.A c.env (fun e s' => cameBackBy M c.A c.env (ERR z c Φ X) e s') e s := by
  revert x; refine yEEEEEAAA fun Φ' σ' m' ea md u1 le x q => ?_; obtain rfl := u1
  exact exc_note o.hA f x fun h' x' => exc_camebackBy x' fun h'' x'' => ⟨Φ', σ', m', ea, .held, rfl, le, x'', q⟩
theorem s_while (a : At z n c fx) (cf : c.Fun) {t : Expr} {body : List Stmt} {pos : Pos} {W : Ls → (V → AH → Prop) → AH → Prop} {Wb : WSt} (h : ∀ m ls, ST z c m fx ls X t (W ls)) (hb : SB z c fx X body Wb) :
    SS z c fx X (.While t body [] pos) (fun R N ls σ => ∃ k, whileN (fun T ls σ => W ls (fun v σ => match v with | .bool t => T t σ | _ => False) σ) (fun N ls σ => Wb R N ls σ) N k ls σ) := fun R N Φ σ m ls s l I w => by
  obtain ⟨k, w⟩ := w
  refine wpAny_While (codeAny_whileLoop (fun k s' => ∃ Φ' σ' m' ls', Φ.le Φ' ∧ Lm fx z c m' Φ' ls' ∧ Inv z c m' Φ' σ' s' ∧ whileN (fun T ls σ => W ls (fun v σ => match v with | .bool t => T t σ | _ => False) σ) (fun N ls σ => Wb R N ls σ) N k ls' σ') ?_ k ⟨Φ, σ, m, ls, Fz.le.refl _, l, I, w⟩)
  rintro k s₁ ⟨Φ₁, σ₁, m₁, ls₁, le, l₁, I₁, w₁⟩
  cases k with
  | zero => exact w₁.elim
  | succ k =>
    refine wpAny_mono (h m₁ ls₁ _ (fun b σ => if b then Wb R (whileN (fun T ls σ => W ls (fun v σ => match v with | .bool t => T t σ | _ => False) σ) (fun N ls σ => Wb R N ls σ) N k) ls₁ σ else N ls₁ σ) Φ₁ σ₁ s₁ (fun v σ q => eB q fun t e q => ⟨t, e, q⟩) l₁ I₁ w₁) (fun b s₂ hb₂ => ?_) fun _ _ e => err_pass a.o cf (e.up le)
    · revert hb₂; refine yEEAA fun Φ₂ σ₂ le₂ I₂ q => ?_
      cases b with
      | true =>
        rw [if_pos rfl] at q ⊢
        refine wpAny_mono (hb R _ Φ₂ σ₂ m₁ ls₁ s₂ (l₁.mono le₂) I₂ q) (fun f s₃ h₃ => ?_) fun _ _ e => err_pass a.o cf (e.up (le.trans le₂))
        cases f with
        | next => revert h₃; refine yEEEEAAA fun Φ₃ σ₃ m₃ ls₃ le₃ l₃ I₃ q₃ => ?_; exact ⟨k, Nat.lt_succ_self _, Φ₃, σ₃, m₃, ls₃, (le.trans le₂).trans le₃, l₃, I₃, q₃⟩
        | ret v => exact RETV.up (le.trans le₂) h₃
        | _ => exact h₃.elim
      | false =>
        rw [if_neg (by decide)] at q ⊢
        exact wpAny_execs_nil (FL.up (le.trans le₂) (FL.now (l₁.mono le₂) I₂ q))
theorem Inv.setInst (a : At z n c fx) (g : Gok z) {ad : Addr} {C : Addr} {k : Nat} {ks : List Nat} {vs : List V} {v : V} {v' : Value} (I : Inv z c m Φ σ s) (e : σ ad = some (.inst C ks vs)) (hk : k < strMany) (hm : methOf C k = none) (hl : ks.length ≤ 20) (hv : Rv z.K Φ v v') {Q : Unit → Shared → Prop} {E : Value → Shared → Prop}
    (fin : ∀ s', Inv z c m Φ (σ.set ad (some (.inst C (putK ks k) (putV ks vs k v)))) s' → Q () s') : wpAny (model z.prog z.w) c.A (setAttr (.ref ad) (strAt k) v') Q E s := by
  obtain ⟨G, L⟩ := I.led
  have q := L.ok ad
  have eG := L.own ad _ e
  rw [eG] at q
  revert q; refine yEEEAAAAA fun d es n' h1 h2 h3 hC h4 h5 => ?_
  have dL : d ≠ c.L := by rintro rfl; rw [L.cur] at h3; cases h3
  have dn : z.h₀.get? d = none := L.new d (by rw [h3]; exact Cell.noConfusion)
  have ht : takerIn z.K C (strAt k) = some none := by
    have nm := g.name hC hk
    rw [hm] at nm
    unfold takerIn
    rw [nm]; rfl
  refine xEAA (full_upd (h₀ := z.h₀) (L := c.L) (o' := dictOf (putL (strAt k) (PyData.keyHash z.w.params (strAt k)) (.str (strAt k) (s.toks + 1)) v' es) (putN (strAt k) es n')) h2 dL dn) fun news' U _ K2 => ?_
  obtain ⟨r1, r2⟩ := putL_ok hk hv (PyData.keyHash z.w.params (strAt k)) (s.toks + 1) h4 h5
  have hlen : (putL (strAt k) (PyData.keyHash z.w.params (strAt k)) (.str (strAt k) (s.toks + 1)) v' es).length ≤ 1000 := by
    refine Nat.le_trans putL_length ?_
    have := h4.length
    omega
  refine set_dict (I.fr a.o) a.zo.X full_news ⟨h1, rfl, rfl, h2⟩ rfl (g.setattr hC) (g.over hC) ht (g.dict hC) (getL_isSome hk h4) rfl U hlen fun h' F' N' => ?_
  obtain ⟨kp, hd'⟩ := K2 I.base F' N'
  exact fin _ ⟨I.gens, I.drawn, I.os, fun b x ex => F'.keep b x ex, _, L.setInst a.o.ne eG h3 h1 kp F'.ns hd' hC r1 r2⟩
theorem s_setAttr (g : Gok z) (a : At z n c fx) {e x : Expr} {k : Nat} {pos pos' : Pos} {W1 W2 : Ls → (V → AH → Prop) → AH → Prop} (h1 : ∀ m ls, SE z c m fx ls X e (W1 ls)) (h2 : ∀ m ls, SE z c m fx ls X x (W2 ls)) (hc : notComp e = true) (hk : k < strMany) :
    SS z c fx X (.Assign [.Attribute x (strAt k) pos'] e pos) (fun _ N ls σ => W1 ls (fun v σ => W2 ls (fun u σ => match u with
    | .ref a => match σ a with
      | some (.inst C ks vs) => ks.length ≤ 20 ∧ methOf C k = none ∧ N ls (σ.set a (some (.inst C (putK ks k) (putV ks vs k v))))
      | _ => False
    | _ => False) σ) σ) := fun R N Φ σ m ls s l I w => by
  refine plainObj_wpAny_Assign_Attribute ((h1 m ls).bind l I w fun Φ₁ v' v σ₁ s₁ le l₁ hv I₁ q => err_up le ((h2 m ls).bind l₁ I₁ q fun Φ₂ u' u σ₂ s₂ le₂ l₂ hu I₂ q₂ => ?_)) (swaps_none hc _ _ _)
  · refine eR q₂ fun ad ra q9 => ?_
    subst ra
    have hu : u' = .ref ad := hu
    subst hu
    · refine eIn q9 fun C ks vs e q8 => ?_
      exact I₂.setInst a g e hk q8.2.1 q8.1 (hv.mono le₂) fun s' I₃ => FL.up (le.trans le₂) (FL.now l₂ I₃ q8.2.2)
theorem stored_new {K : Type} [DecidableEq K] {kvs : List (K × Value)} {k : K} {v : Value} (h : k ∉ kvs.map (·.1)) : stored kvs k v = kvs ++ [(k, v)] := by
  unfold stored
  rw [if_neg]
  intro q
  refine xEA (List.any_eq_true.mp q) fun p hp e => ?_
  exact h (List.mem_map.mpr ⟨p, hp, by simpa using e⟩)
theorem s_setSub (a : At z n c fx) {e x y : Expr} {pos pos' : Pos} {W1 W2 W3 : Ls → (V → AH → Prop) → AH → Prop} (h1 : ∀ m ls, SE z c m fx ls X e (W1 ls)) (h2 : ∀ m ls, SE z c m fx ls X x (W2 ls)) (h3 : ∀ m ls, SE z c m fx ls X y (W3 ls)) (hc : notComp e = true) :
    SS z c fx X (.Assign [.Subscript x y pos'] e pos) (fun _ N ls σ => W1 ls (fun v σ => W2 ls (fun u σ => W3 ls (fun w σ => match u with
    | .ref a => match σ a, w with
      | some (.list vs), .int k => 0 ≤ k ∧ k < vs.length ∧ N ls (σ.set a (some (.list (vs.set k.toNat v))))
      | some (.dictS ks vs), .str k => vs.length ≤ 1000 ∧ k ∉ ks ∧ N ls (σ.set a (some (.dictS (ks ++ [k]) (vs ++ [v]))))
      | some (.dictI ks vs), .int k => vs.length ≤ 1000 ∧ k ∉ ks ∧ N ls (σ.set a (some (.dictI (ks ++ [k]) (vs ++ [v]))))
      | _, _ => False
    | _ => False) σ) σ) σ) := fun R N Φ σ m ls s l I w => by
  refine wpAny_Assign_Subscript ((h1 m ls).bind l I w fun Φ₁ v' v σ₁ s₁ le l₁ hv I₁ q => err_up le ((h2 m ls).bind l₁ I₁ q fun Φ₂ u' u σ₂ s₂ le₂ l₂ hu I₂ q₂ => err_up (le.trans le₂) ((h3 m ls).bind l₂ I₂ q₂ fun Φ₃ w' w σ₃ s₃ le₃ l₃ hw I₃ q₃ => ?_))) (swaps_none hc _ _ _)
  have lee := (le.trans le₂).trans le₃
  have hv₃ := hv.mono (le₂.trans le₃)
  have hu₃ := hu.mono le₃
  clear hu
  · refine eR q₃ fun ad ra q9 => ?_
    subst ra
    have hu : u' = .ref ad := hu₃
    subst hu
    refine eSub q9 (fun vs k e rk q8 => ?_) (fun ks vs k e rk q8 => ?_) (fun ks vs k e rk q8 => ?_)
    · subst rk
      obtain ⟨tk, rfl⟩ := rv_int hw
      refine xEEAA (I₃.listAt e) fun ws n' f1 f2 f3 => ?_
      have hlen := f3.length
      rw [Array.length_toList] at hlen
      refine ki_setAt f1 q8.1 (by have := q8.2.1; omega) (by omega) ?_
      have hx := PySem.IsL.update (show PySem.IsL s₃.heap ad ws n' from f1) (·.setIfInBounds k.toNat v')
      refine FL.up lee (FL.now l₃ (I₃.sbList (t := s₃.toks) a.o e (Heap.SameBut.update ..) hx (vs' := vs.set k.toNat v) (by rw [List.length_set]; exact f2) ?_) q8.2.2)
      rw [Array.toList_setIfInBounds]
      exact f3.set _ hv₃
    · subst rk
      refine xEEAAA (I₃.dictSAt e) fun ob kvs f1 f2 u2 f6 => ?_; obtain ⟨⟨f3, f4⟩, f5⟩ := u2
      revert hw; refine yAE fun hk tk u3 => ?_; obtain rfl := u3
      have hD : s₃.heap.DictOf (PySem.strKind z.prog z.w) ad kvs := Heap.dictOf_iff.mpr ⟨ob, f1, f2⟩
      have hlen := f6.length
      rw [List.length_map] at hlen
      have hni : strAt k ∉ kvs.map (·.1) := fun q => by
        rw [f3] at q
        refine xEA (List.mem_map.mp q) fun j hj e => ?_
        exact q8.2.1 (strAt_inj (f4 _ hj) hk e ▸ hj)
      refine wpAny_setItem_pairs (k := strAt k) (strKind_is _ _ _ _) hD (fun h' hD' hs => ?_) (by rw [sizeLine_eq]; omega)
      rw [stored_new hni] at hD'
      refine xEA (Heap.dictOf_iff.mp hD') fun ob' g1 g2 => ?_
      refine FL.up lee (FL.now l₃ (I₃.setDictS (t := s₃.toks + 1) a.o e (fun b x hb hx => (hs.2 b (by simp only [List.mem_cons, List.not_mem_nil, or_false, not_or] at hb; exact hb.2)).trans hx) ((I₃.fr a.o).ns.sameBut hs (Ne.symm (I₃.ownL e))) g1 g2 ⟨?_, ?_⟩ ?_) q8.2.2)
      · simp [f3]
      · intro j hj
        rcases List.mem_append.mp hj with hj | hj
        · exact f4 j hj
        · rw [List.mem_singleton.mp hj]; exact hk
      · rw [List.map_append]; exact f6.append (.one hv₃)
    · subst rk
      refine xEEAAA (I₃.dictIAt e) fun ob kvs f1 f2 u4 f6 => ?_; obtain ⟨f3, f5⟩ := u4
      obtain ⟨tk, rfl⟩ := rv_int hw
      have hD : s₃.heap.DictOf (PySem.intKind z.prog z.w) ad kvs := Heap.dictOf_iff.mpr ⟨ob, f1, f2⟩
      have hlen := f6.length
      rw [List.length_map] at hlen
      have hni : k ∉ kvs.map (·.1) := fun q => by
        rw [f3] at q
        exact q8.2.1 q
      refine wpAny_setItem_pairs (k := k) (intKind_is _ _ _ _) hD (fun h' hD' hs => ?_) (by rw [sizeLine_eq]; omega)
      rw [stored_new hni] at hD'
      refine xEA (Heap.dictOf_iff.mp hD') fun ob' g1 g2 => ?_
      refine FL.up lee (FL.now l₃ (I₃.setDictI (t := s₃.toks + 1) a.o e (fun b x hb hx => (hs.2 b (by simp only [List.mem_cons, List.not_mem_nil, or_false, not_or] at hb; exact hb.2)).trans hx) ((I₃.fr a.o).ns.sameBut hs (Ne.symm (I₃.ownL e))) g1 g2 ?_ ?_) q8.2.2)
      · simp [f3]
      · rw [List.map_append]; exact f6.append (.one hv₃)
end
end Mine
end
noncomputable section
namespace Mine
noncomputable def Cx.hid (c : Cx) (obs : List (Addr × Obj)) : Cx := { c with H := obs ++ c.H }
noncomputable def NoCell (obs : List (Addr × Obj)) : Prop := ∀ p ∈ obs, ∀ v, p.2.data ≠ .cell v
noncomputable def InvH (z : Z) (c : Cx) (wr : List Addr) (m : Str → Option Value) (Φ : Fz) (σ : AH) (s : Shared) : Prop := ∃ obs, obs.map (·.1) = wr ∧ NoCell obs ∧ Inv z (c.hid obs) m Φ σ s
noncomputable def Apart (c : Cx) (wr : List Addr) : Prop := ∀ p ∈ c.H, p.1 ∉ wr
section
variable {z : Z} {n : Nat} {c c' : Cx} {m m' : Str → Option Value} {fx : Fx} {ls : Ls} {X : AH → Prop} {Φ Φ' : Fz} {σ σ' : AH} {s : Shared} {G : Addr → Cell} {h h' : Heap} {wr : List Addr} {obs : List (Addr × Obj)}
theorem Cx.Ok.hid (o : c.Ok z n) (obs : List (Addr × Obj)) : (c.hid obs).Ok z n := ⟨o.hA, o.fr, o.ne, o.abv, o.hd, o.depth, o.units, o.ek, o.eg, o.eb, o.ef, o.top⟩
theorem At.hid (a : At z n c fx) (obs : List (Addr × Obj)) : At z n (c.hid obs) fx := ⟨a.zo, a.o.hid obs, a.hs, a.hc⟩
theorem Lm.hid (l : Lm fx z c m Φ ls) (obs : List (Addr × Obj)) : Lm fx z (c.hid obs) m Φ ls := fun i v x h1 h2 h3 => by
  refine xEA (l i v x h1 h2 h3) fun val hr hv => ?_
  refine ⟨val, ?_, hv⟩
  rcases hr with hr | ⟨k1, a, o, k2, k3, k4⟩
  · exact .inl hr
  · exact .inr ⟨k1, a, o, k2, List.mem_append_right _ k3, k4⟩
theorem Lm.unhid (nc : NoCell obs) (l : Lm fx z (c.hid obs) m Φ ls) : Lm fx z c m Φ ls := fun i v x h1 h2 h3 => by
  refine xEA (l i v x h1 h2 h3) fun val hr hv => ?_
  refine ⟨val, ?_, hv⟩
  rcases hr with hr | ⟨k1, a, o, k2, k3, k4⟩
  · exact .inl hr
  · rcases List.mem_append.mp k3 with k3 | k3
    · exact absurd k4 (nc _ k3 _)
    · exact .inr ⟨k1, a, o, k2, k3, k4⟩
theorem ExcSt.unhid {ea : Addr} {md : Md} (x : ExcSt z (c.hid obs) m Φ σ ea md s) : ExcSt z c m Φ σ ea md s := by
  refine xEEEEAAAA (x.ex) fun G B a0 f hf L hB cov ok => ?_
  exact ⟨x.gens, x.drawn, x.os, G, B, a0, f, hf, { L with hid := fun p hp => L.hid p (List.mem_append_right _ hp), cur := L.cur, outs := L.outs }, hB, cov, ok⟩
theorem ERR.unhid {e : Value} (x : ERR z (c.hid obs) Φ X e s) : ERR z c Φ X e s := by
  revert x; refine yEEEEEAAA fun Φ' σ' m' ea md a b d y => ?_
  exact ⟨Φ', σ', m', ea, md, a, b, d.unhid, y⟩
theorem Inv.unhid (I : Inv z (c.hid obs) m Φ σ s) : Inv z c m Φ σ s := by
  obtain ⟨G, L⟩ := I.led
  exact ⟨I.gens, I.drawn, I.os, I.base, G, { L with hid := fun p hp => L.hid p (List.mem_append_right _ hp), cur := L.cur, outs := L.outs }⟩
theorem RETV.unhid {Q : V → AH → Prop} {v : Value} (x : RETV z (c.hid obs) Φ Q v s) : RETV z c Φ Q v s := by
  revert x; refine yEEEEAAA fun Φ' v' σ' m' a b d e => ?_
  exact ⟨Φ', v', σ', m', a, b, d.unhid, e⟩
theorem Led.put {x : Addr → Cell} (L : Led z c m Φ σ G h) (e1 : c'.env = c.env) (e2 : c'.outs = c.outs) (hw : ∀ a ∈ wr, G a = .free ∨ ∃ o, G a = .hid o) (hz : ∀ a ∈ wr, z.h₀.get? a = none) (k : Kp wr h h')
    (hx : ∀ a ∈ wr, x a = .free ∨ ∃ o, x a = .hid o ∧ h'.get? a = some o) (hH : ∀ p ∈ c'.H, (p.1 ∈ wr ∧ x p.1 = .hid p.2) ∨ (p.1 ∉ wr ∧ p ∈ c.H)) :
    Led z c' m Φ σ (fun a => if a ∈ wr then x a else G a) h' := by
  have nw : ∀ {b : Addr} {y : Cell}, G b = y → y ≠ .free → (∀ o, y ≠ .hid o) → b ∉ wr := fun {b y} e p p' q => by
    rcases hw b q with e' | ⟨o, e'⟩
    · rw [e] at e'; exact p e'
    · rw [e] at e'; exact p' _ e'
  have keep : ∀ {b : Addr} {y : Cell}, G b = y → y ≠ .free → (∀ o, y ≠ .hid o) → (if b ∈ wr then x b else G b) = y := fun {b y} e p p' => by
    rw [if_neg (nw e p p')]; exact e
  have cl : c'.L = c.L := by show c'.env.locals = c.env.locals; rw [e1]
  refine ⟨fun b => ?_, fun b q => ?_, ?_, fun p hp => keep (L.outs p (e2 ▸ hp)) Cell.noConfusion (fun _ => Cell.noConfusion), fun p hp => ?_, fun b o q => keep (L.fro b o q) Cell.noConfusion (fun _ => Cell.noConfusion), fun b o q => keep (L.own b o q) Cell.noConfusion (fun _ => Cell.noConfusion)⟩
  · by_cases w : b ∈ wr
    · simp only [if_pos w]
      rcases hx b w with e | ⟨o, e, e'⟩
      · rw [e]; trivial
      · rw [e]; exact e'
    · simp only [if_neg w]
      have q := L.ok b
      cases e4 : G b with
      | free => trivial
      | fro o => rw [e4] at q; exact k _ _ w q
      | hid o => rw [e4] at q; exact k _ _ w q
      | frm m => rw [e4] at q; revert q; refine yEEEA fun o es ep ho r => ?_; exact ⟨o, es, ep, k _ _ w ho, r⟩
      | own o =>
        rw [e4] at q
        cases o with
        | list vs => revert q; refine yEEA fun ws n e r => ?_; exact ⟨ws, n, k _ _ w e, r⟩
        | inst C2 ks2 vs2 =>
          revert q; refine yEEEAAA fun d2 es2 n2 f1 f2 f3 r => ?_
          exact ⟨d2, es2, n2, k _ _ w f1, k _ _ (nw f3 Cell.noConfusion (fun _ => Cell.noConfusion)) f2, keep f3 Cell.noConfusion (fun _ => Cell.noConfusion), r⟩
        | dictS ks vs => revert q; refine yEEA fun o kvs e r => ?_; exact ⟨o, kvs, k _ _ w e, r⟩
        | dictI ks vs => revert q; refine yEEA fun o kvs e r => ?_; exact ⟨o, kvs, k _ _ w e, r⟩
      | sub b2 => rw [e4] at q; obtain ⟨o, f1⟩ := q; exact ⟨o, k _ _ w f1⟩
  · by_cases w : b ∈ wr
    · exact hz b w
    · simp only [if_neg w] at q; exact L.new _ q
  · rw [cl]; exact keep L.cur Cell.noConfusion (fun _ => Cell.noConfusion)
  · rcases hH p hp with ⟨w, e⟩ | ⟨w, e⟩
    · simp only [if_pos w]; exact e
    · simp only [if_neg w]; exact L.hid p e
noncomputable def getO (h : Heap) (a : Addr) : Obj := (h.get? a).getD default
theorem getO_of {a : Addr} {o : Obj} (e : h.get? a = some o) : getO h a = o := by unfold getO; rw [e]; rfl
noncomputable def ExN (wr : List Addr) (h : Heap) : Prop := ∀ a ∈ wr, ∃ o, h.get? a = some o ∧ ∀ v, o.data ≠ .cell v
theorem hidObs (wr : List Addr) (h : Heap) (ex : ExN wr h) : (wr.map fun a => (a, getO h a)).map (·.1) = wr ∧ NoCell (wr.map fun a => (a, getO h a)) ∧ ∀ p ∈ wr.map (fun a => (a, getO h a)), p.1 ∈ wr ∧ h.get? p.1 = some p.2 := by
  refine ⟨by rw [List.map_map]; exact List.map_id'' (fun _ => rfl) _, fun p hp v => ?_, fun p hp => ?_⟩
  · refine xEA (List.mem_map.mp hp) fun a ha u1 => ?_; obtain rfl := u1
    refine xEA (ex a ha) fun o e q => ?_
    show (getO h a).data ≠ _
    rw [getO_of e]; exact q v
  · refine xEA (List.mem_map.mp hp) fun a ha u2 => ?_; obtain rfl := u2
    refine xEA (ex a ha) fun o e q => ?_
    refine ⟨ha, ?_⟩
    show h.get? a = some (getO h a)
    rw [getO_of e]; exact e
theorem Inv.hidG (I : Inv z c m Φ σ s) (wr : List Addr) (hw : ∀ G, Led z c m Φ σ G s.heap → ∀ a ∈ wr, G a = .free ∨ ∃ o, G a = .hid o) (hz : ∀ a ∈ wr, z.h₀.get? a = none) (k : Kp wr s.heap h') (e1 : c'.env = c.env) (e2 : c'.outs = c.outs)
    (hH : ∀ p ∈ c'.H, (p.1 ∈ wr ∧ h'.get? p.1 = some p.2) ∨ (p.1 ∉ wr ∧ p ∈ c.H)) {t : Nat} : Inv z c' m Φ σ { s with heap := h', toks := t } := by
  obtain ⟨G, L⟩ := I.led
  refine ⟨I.gens, I.drawn, I.os, fun b o e => k _ _ (fun w => by rw [hz b w] at e; cases e) (I.base b o e), _, L.put (x := fun a => match h'.get? a with | some o => .hid o | none => .free) e1 e2 (hw G L) hz k (fun a ha => ?_) fun p hp => ?_⟩
  · cases e : h'.get? a with
    | none => exact .inl rfl
    | some o => exact .inr ⟨o, rfl, rfl⟩
  · rcases hH p hp with ⟨w, e⟩ | w
    · refine .inl ⟨w, ?_⟩
      simp only [e]
    · exact .inr w
theorem InvH.step {t : Nat} (I : InvH z c wr m Φ σ s) (ap : Apart c wr) (k : Kp wr s.heap h') (ex : ExN wr h') : InvH z c wr m Φ σ { s with heap := h', toks := t } := by
  revert I; refine yEAA fun obs e nc I => ?_
  refine xAA (hidObs wr h' ex) fun h1 h2 h3 => ?_
  refine ⟨_, h1, h2, I.hidG (c' := c.hid (wr.map fun a => (a, getO h' a))) (t := t) wr (fun G L a ha => ?_) (fun a ha => ?_) k rfl rfl fun p hp => ?_⟩
  · rw [← e] at ha; refine xEA (List.mem_map.mp ha) fun p hp u3 => ?_; obtain rfl := u3
    exact .inr ⟨_, L.hid p (List.mem_append_left _ hp)⟩
  · obtain ⟨G, L⟩ := I.led
    rw [← e] at ha; refine xEA (List.mem_map.mp ha) fun p hp u4 => ?_; obtain rfl := u4
    exact L.new _ (by rw [L.hid p (List.mem_append_left _ hp)]; exact Cell.noConfusion)
  · rcases List.mem_append.mp hp with hp | hp
    · exact .inl (h3 p hp)
    · exact .inr ⟨ap p hp, List.mem_append_right _ hp⟩
theorem InvH.stop {t : Nat} (I : InvH z c wr m Φ σ s) (ap : Apart c wr) (k : Kp wr s.heap h') : Inv z c m Φ σ { s with heap := h', toks := t } := by
  revert I; refine yEAA fun obs e nc I => ?_
  refine I.hidG (c' := c) (t := t) wr (fun G L a ha => ?_) (fun a ha => ?_) k rfl rfl fun p hp => .inr ⟨ap p hp, List.mem_append_right _ hp⟩
  · rw [← e] at ha; refine xEA (List.mem_map.mp ha) fun p hp u5 => ?_; obtain rfl := u5
    exact .inr ⟨_, L.hid p (List.mem_append_left _ hp)⟩
  · obtain ⟨G, L⟩ := I.led
    rw [← e] at ha; refine xEA (List.mem_map.mp ha) fun p hp u6 => ?_; obtain rfl := u6
    exact L.new _ (by rw [L.hid p (List.mem_append_left _ hp)]; exact Cell.noConfusion)
theorem InvH.start {t : Nat} (o : c.Ok z n) (I : Inv z c m Φ σ s) (hs : ∀ a ∈ wr, s.heap.objs.size ≤ a) (k : Kp [] s.heap h') (ex : ExN wr h') : InvH z c wr m Φ σ { s with heap := h', toks := t } ∧ Apart c wr := by
  refine xAA (hidObs wr h' ex) fun h1 h2 h3 => ?_
  have ap : Apart c wr := fun p hp w => by
    obtain ⟨G, L⟩ := I.led
    exact absurd (L.lt (a := p.1) (by rw [L.hid p hp]; exact Cell.noConfusion)) (Nat.not_lt.mpr (hs _ w))
  refine ⟨⟨_, h1, h2, I.hidG (c' := c.hid (wr.map fun a => (a, getO h' a))) (t := t) wr (fun G L a ha => .inl (L.free_of_none (none_of_size (hs a ha)))) (fun a ha => none_of_size (Nat.le_trans (I.size o) (hs a ha))) (k.mono fun _ q => nomatch q) rfl rfl fun p hp => ?_⟩, ap⟩
  rcases List.mem_append.mp hp with hp | hp
  · exact .inl (h3 p hp)
  · exact .inr ⟨ap p hp, hp⟩
theorem InvH.froAt (I : InvH z c wr m Φ σ s) {a : Addr} {o : Obj} (e : Φ a = some o) : s.heap.get? a = some o := let ⟨_, _, _, I⟩ := I; I.froAt e
end
noncomputable def SA (z : Z) (fx : Fx) (tgt : Expr) (upd : V → Option (List (Nat × V))) : Prop :=
  ∀ (n : Nat) (c : Cx), At z n c fx → ∀ (v : V) (x : Value) (l : List (Nat × V)) (m : Str → Option Value) (Φ : Fz) (σ : AH) (ls : Ls) (s : Shared), upd v = some l → Lm fx z c m Φ ls → Inv z c m Φ σ s → Rv z.K Φ v x →
    ∀ (Q : Unit → Shared → Prop) (E : Value → Shared → Prop), (∀ m' s', Lm fx z c m' Φ (setMany ls l) → Inv z c m' Φ σ s' → Q () s') → wpAny (model z.prog z.w) c.A (assign tgt c.env x) Q E s
noncomputable def namesOk (fx : Fx) : List Nat → List Expr → Prop
  | [], es => es = []
  | i :: is, es => ∃ x p r, es = .Name x p :: r ∧ fx.names[i]? = some x ∧ fx.kinds.lookup x = some .local ∧ namesOk fx is r
section
variable {z : Z} {n : Nat} {c c' : Cx} {m m' : Str → Option Value} {fx : Fx} {ls : Ls} {X : AH → Prop} {Φ Φ' : Fz} {σ σ' : AH} {s : Shared}
theorem sa_name {i : Nat} {x : Str} {pos : Pos} (nd : fx.names.Nodup) (hx : fx.names[i]? = some x) (hk : fx.kinds.lookup x = some .local) : SA z fx (.Name x pos) (fun v => some [(i, v)]) := fun n c a v x' l m Φ σ ls s e lm I hv Q E k => by
  cases e
  exact wpAny_assign_Name (store_ok a nd hx hk lm I hv fun s' l' I' => k _ s' l' I')
theorem assign_names (a : At z n c fx) (nd : fx.names.Nodup) {Q : Unit → Shared → Prop} {E : Value → Shared → Prop} (is : List Nat) : ∀ (elts : List Expr) (vs : List V) (xs : List Value) (m : Str → Option Value) (ls : Ls) (s : Shared), namesOk fx is elts → vs.length = is.length → Rvs z.K Φ vs xs →
    Lm fx z c m Φ ls → Inv z c m Φ σ s → (∀ m' s', Lm fx z c m' Φ (setMany ls (is.zip vs)) → Inv z c m' Φ σ s' → Q () s') → wpAny (model z.prog z.w) c.A (assignInOrder ((assignEach elts c.env).map (·.2)) xs) Q E s := by
  induction is with
  | nil =>
    intro elts vs xs m ls s h hl hv lm I k
    obtain rfl : elts = [] := h
    exact wpAny_pure (k m s lm I)
  | cons i is ih =>
    intro elts vs xs m ls s h hl hv lm I k
    revert h; refine yEEEAAA fun x pos es u8 h1 h2 h3 => ?_; obtain rfl := u8
    cases vs with
    | nil => cases hl
    | cons v vs =>
      revert hv; refine yEEAA fun x' xs u9 hv hvs => ?_; obtain rfl := u9
      show wpAny _ _ (do holding xs (assign (.Name x pos) c.env x'); assignInOrder ((assignEach es c.env).map (·.2)) xs) _ _ _
      refine wpAny_bind (wpAny_holding (wpAny_assign_Name (store_ok a nd h1 h2 lm I hv fun s' l' I' => ?_)))
      exact ih es vs xs _ _ _ h3 (Nat.succ.inj hl) hvs l' I' k
theorem assignEach_names {env : Env} {is : List Nat} : ∀ {elts : List Expr}, namesOk fx is elts → (assignEach elts env).length = is.length ∧ (assignEach elts env).findIdx? (·.1) = none := by
  induction is with
  | nil => intro elts h; obtain rfl : elts = [] := h; exact ⟨rfl, rfl⟩
  | cons i is ih =>
    intro elts h
    revert h; refine yEEEAAA fun x pos es u10 _ _ h => ?_; obtain rfl := u10
    obtain ⟨h1, h2⟩ := ih h
    refine ⟨congrArg (· + 1) h1, ?_⟩
    show ((false, assign (.Name x pos) env) :: assignEach es env).findIdx? (·.1) = none
    rw [List.findIdx?_cons, h2]; rfl
theorem tup_isTuple (I : Inv z c m Φ σ s) {a : Addr} {ws : Array Value} {k : Nat} (e : Φ a = some (tupOf ws k)) : s.heap.IsTuple a ws := ⟨_, I.froAt e, rfl, _, rfl⟩
theorem Inv.grow (I : Inv z c m Φ σ s) {h' : Heap} (k : Heap.ExtBut s.heap.objs.size s.heap h') : Inv z c m Φ σ { s with heap := h' } :=
  I.keeps (fun b o e => k b o (Nat.ne_of_lt (Heap.lt_size e)) e) rfl rfl rfl
theorem sa_tup {is : List Nat} {elts : List Expr} {k : Nat} {pos : Pos} (nd : fx.names.Nodup) (h : namesOk fx is elts) : SA z fx (.Tuple elts k pos) (tupU is) := fun n c a v x' l m Φ σ ls s e lm I hv Q E kk => by
  cases v with
  | tup vs =>
    revert hv; refine yEEEAAA fun ad ws k' u11 h1 h2 h3 => ?_; obtain rfl := u11
    simp only [tupU] at e
    split at e
    · rename_i hl
      cases e
      obtain ⟨e1, e2⟩ := assignEach_names (env := c.env) h
      have hsz : ws.size = vs.length := by have := h3.length; simpa using this
      exact wpAny_assign_Tuple a.o.hd (tup_isTuple I h1) (by rw [e1, hsz, hl]) e2 fun h' hx' => assign_names a nd is elts vs ws.toList m ls _ h hl h3 lm (I.grow hx') kk
    · cases e
  | _ => cases e
theorem bind_names (a : At z n c fx) (nd : fx.names.Nodup) {Q : Unit → Shared → Prop} {E : Value → Shared → Prop} (ps : List (Nat × Str)) : ∀ (vs : List V) (xs : List Value) (m : Str → Option Value) (ls : Ls) (s : Shared), (∀ p ∈ ps, fx.names[p.1]? = some p.2 ∧ fx.kinds.lookup p.2 = some .local) → vs.length = ps.length → Rvs z.K Φ vs xs →
    Lm fx z c m Φ ls → Inv z c m Φ σ s → (∀ m' s', Lm fx z c m' Φ (setMany ls ((ps.map (·.1)).zip vs)) → Inv z c m' Φ σ s' → Q () s') → wpAny (model z.prog z.w) c.A (assignInOrder (ps.map fun p => bindName c.env p.2) xs) Q E s := by
  induction ps with
  | nil =>
    intro vs xs m ls s h hl hv lm I k
    exact wpAny_pure (k m s lm I)
  | cons p ps ih =>
    intro vs xs m ls s h hl hv lm I k
    cases vs with
    | nil => cases hl
    | cons v vs =>
      revert hv; refine yEEAA fun x' xs u12 hv hvs => ?_; obtain rfl := u12
      obtain ⟨h1, h2⟩ := h p (.head _)
      show wpAny _ _ (do holding xs (bindName c.env p.2 x'); assignInOrder (ps.map fun p => bindName c.env p.2) xs) _ _ _
      refine wpAny_bind (wpAny_holding (wpAny_bindName (store_ok a nd h1 h2 lm I hv fun s' l' I' => ?_)))
      exact ih vs xs _ _ _ (fun p hp => h p (.tail _ hp)) (Nat.succ.inj hl) hvs l' I' k
noncomputable def swapNames (fx : Fx) (ts : List Expr) : List Str :=
  let line := (ts.head?.map (·.pos.line)).getD 0
  ts.filterMap fun
    | .Name id pos => if fx.kinds.lookup id == some .local && pos.line == line then some id else none
    | _ => none
noncomputable def isStarred : Expr → Bool
  | .Starred .. => true
  | _ => false
noncomputable def swapOk (fx : Fx) (ts vs : List Expr) : Bool := (ts.length == 2 || ts.length == 3) && vs.length == ts.length && !(vs.any isStarred) && (swapNames fx ts).length == ts.length && (swapNames fx ts).eraseDups.length == (swapNames fx ts).length && !(vs.all (foldedForSure 8)) && !(vs.all (constantsAlone 8))
theorem swapped_some (a : At z n c fx) {ts vs : List Expr} {k k' : Nat} {p p' : Pos} (h : swapOk fx ts vs = true) : swappedStores [.Tuple ts k p] (.Tuple vs k' p') c.env = pure (some (swapNames fx ts)) := by
  unfold swapOk at h
  simp only [Bool.and_eq_true, beq_iff_eq, Bool.not_eq_true'] at h
  obtain ⟨⟨⟨⟨⟨⟨h1, h2⟩, h3⟩, h4⟩, h5⟩, h6⟩, h7⟩ := h
  have bk : c.env.blockKind = .function := by unfold Env.blockKind; rw [a.o.ek]; rfl
  have hs : vs.any (fun | .Starred .. => true | _ => false) = false := h3
  have hn : (ts.filterMap fun
      | .Name id pos => if c.env.kindOf id == some .local && pos.line == (ts.head?.map (·.pos.line)).getD 0 then some id else none
      | _ => none) = swapNames fx ts := by
    unfold swapNames
    congr 1
    funext e
    cases e <;> first | rfl | (simp only [a.kind])
  unfold swappedStores
  simp only [h1, h2, bk, bne_self_eq_false, Bool.not_true, Bool.or_self, Bool.false_eq_true, if_false]
  erw [hs]
  simp only [Bool.false_eq_true, if_false]
  erw [hn]
  simp only [h4, h5, bne_self_eq_false, Bool.or_self, Bool.false_eq_true, if_false, h6, h7]
noncomputable def notTup : Expr → Bool
  | .Tuple .. => false
  | _ => true
theorem swapped_none {ts : List Expr} {k : Nat} {p : Pos} {e : Expr} {env : Env} (h : notTup e = true) : swappedStores [.Tuple ts k p] e env = pure none := by
  cases e <;> first | rfl | cases h
theorem swapsTup_none {ts : List Expr} {k : Nat} {p : Pos} {e : Expr} {l : Nat} {env : Env} (h : notComp e = true) : swapsWithSole [.Tuple ts k p] e l env = pure false := by
  cases e <;> first | rfl | cases h
theorem s_unpack (a : At z n c fx) {e : Expr} {is : List Nat} {elts : List Expr} {k : Nat} {pos pos' : Pos} {W : Ls → (V → AH → Prop) → AH → Prop} (h : ∀ m ls, SE z c m fx ls X e (W ls)) (hc : notComp e = true) (ht : notTup e = true) (nd : fx.names.Nodup) (hn : namesOk fx is elts) :
    SS z c fx X (.Assign [.Tuple elts k pos'] e pos) (fun _ N ls σ => W ls (fun v σ => match tupU is v with | some l => N (setMany ls l) σ | none => False) σ) := fun R N Φ σ m ls s l I w =>
  Assign_Tuple ((h m ls).bind l I w fun Φ₁ v' v σ₁ s₁ le l₁ hv I₁ q => by
    split at q
    · rename_i l' e'
      exact sa_tup nd hn n c a v v' l' m Φ₁ σ₁ ls s₁ e' l₁ I₁ hv _ _ fun m' s' l₂ I₂ => FL.up le (FL.now l₂ I₂ q)
    · exact q.elim) (swapsTup_none hc) (swapped_none ht)
theorem s_unpackR (a : At z n c fx) {vs : List Expr} {is : List Nat} {ts : List Expr} {k k' : Nat} {pos pos' pos'' : Pos} {W : Ls → (V → AH → Prop) → AH → Prop} (h : ∀ m ls, SE z c m fx ls X (.Tuple vs k' pos'') (W ls)) (nd : fx.names.Nodup) (hs : swapOk fx ts vs = true)
    (hl : is.length = (swapNames fx ts).length) (hn : ∀ p ∈ is.zip (swapNames fx ts), fx.names[p.1]? = some p.2 ∧ fx.kinds.lookup p.2 = some .local) :
    SS z c fx X (.Assign [.Tuple ts k pos'] (.Tuple vs k' pos'') pos) (fun _ N ls σ => W ls (fun v σ => match tupR is v with | some l => N (setMany ls l) σ | none => False) σ) := fun R N Φ σ m ls s l I w =>
  Assign_Tuple_swapped (names := swapNames fx ts) ((h m ls).bind l I w fun Φ₁ v' v σ₁ s₁ le l₁ hv I₁ q => by
    cases v with
    | tup us =>
      revert hv; refine yEEEAAA fun ad ws k' u13 h1 h2 h3 => ?_; obtain rfl := u13
      simp only [tupR] at q
      by_cases hlen : us.length = is.length
      · rw [if_pos hlen] at q
        have hsz : ws.size = us.length := by have := h3.length; simpa using this
        rw [show (swapNames fx ts).length = ws.size by rw [hsz, hlen, hl]]
        refine wpAny_unpackItems_tuple a.o.hd (tup_isTuple I₁ h1) fun h' hx' => ?_
        have e1 : ((swapNames fx ts).reverse.map fun n => bindName c.env n) = (is.zip (swapNames fx ts)).reverse.map fun p => bindName c.env p.2 := by
          have : swapNames fx ts = (is.zip (swapNames fx ts)).map (·.2) := (List.map_snd_zip (by omega)).symm
          conv => lhs; rw [this]
          rw [← List.map_reverse, List.map_map]; rfl
        have e2 : ((is.zip (swapNames fx ts)).reverse.map (·.1)) = is.reverse := by rw [List.map_reverse, List.map_fst_zip (by omega)]
        rw [e1]
        refine bind_names a nd _ us.reverse ws.toList.reverse m ls _ (fun p hp => hn p (List.mem_reverse.mp hp)) (by simp [hlen, hl]) h3.reverse l₁ (I₁.grow hx') fun m' s' l₂ I₂ => ?_
        rw [e2] at l₂
        exact FL.up le (FL.now l₂ I₂ q)
      · rw [if_neg hlen] at q; exact q.elim
    | _ => exact q.elim) rfl (swapped_some a hs)
end
end Mine
end
noncomputable section
namespace Mine
structure Turn (z : Z) (A : Around) (tgt : Expr) (it : Addr) (wr : List Addr) (items : List V) (St : Fz → Nat → Heap → Prop) : Prop where
  many : items.length ≤ 1000001
  frame : ∀ (Φ Φ' : Fz) (i : Nat) (h h' : Heap), Φ.le Φ' → (∀ a ∈ wr, ∀ o, h.get? a = some o → h'.get? a = some o) → (∀ a o, Φ a = some o → h'.get? a = some o) → St Φ i h → St Φ' i h'
  ex : ∀ (Φ : Fz) (i : Nat) (h : Heap), St Φ i h → ExN wr h
  item : ∀ (n : Nat) (c : Cx) (m : Str → Option Value) (Φ : Fz) (σ : AH) (s : Shared) (i : Nat) (v : V), c.Ok z n → c.A = A → Apart c wr → items[i]? = some v → InvH z c wr m Φ σ s → St Φ i s.heap → ∀ (P : Value → Shared → Prop) (E : Value → Shared → Prop),
    (∀ Φ' x s', Φ.le Φ' → Rv z.K Φ' v x → InvH z c wr m Φ' σ s' → St Φ' (i + 1) s'.heap → P x s') →
    wpAny (model z.prog z.w) A (pyNext (.ref it)) (fun r s₁ => ∃ x, r = some x ∧ wpAny (model z.prog z.w) A (letOwnedTupleGo tgt (.ref it) x) (fun _ s₂ => P x s₂) E s₁) E s
  done : ∀ (n : Nat) (c : Cx) (m : Str → Option Value) (Φ : Fz) (σ : AH) (s : Shared) (i : Nat), c.Ok z n → c.A = A → Apart c wr → items.length ≤ i → InvH z c wr m Φ σ s → St Φ i s.heap → ∀ (Q : Option Value → Shared → Prop) (E : Value → Shared → Prop),
    (∀ s', Inv z c m Φ σ s' → Q none s') → wpAny (model z.prog z.w) A (pyNext (.ref it)) Q E s
  self : ∀ (Φ : Fz) (i : Nat) (s : Shared) (Q : Value → Shared → Prop) (E : Value → Shared → Prop), St Φ i s.heap → Q (.ref it) s → wpAny (model z.prog z.w) A (pyIter (.ref it)) Q E s
noncomputable def SI (z : Z) (c : Cx) (fx : Fx) (m : Str → Option Value) (ls : Ls) (X : AH → Prop) (tgt iter : Expr) (W : (List V → AH → Prop) → AH → Prop) : Prop :=
  ∀ (Q : List V → AH → Prop) (Φ : Fz) (σ : AH) (s : Shared), Lm fx z c m Φ ls → Inv z c m Φ σ s → W Q σ → wpAny (model z.prog z.w) c.A (eval iter c.env) (fun xv s₁ => wpAny (model z.prog z.w) c.A (pyIter xv) (fun itv s₂ =>
    ∃ it wr items St Φ' σ', itv = .ref it ∧ Φ.le Φ' ∧ Turn z c.A tgt it wr items St ∧ Apart c wr ∧ InvH z c wr m Φ' σ' s₂ ∧ St Φ' 0 s₂.heap ∧ Q items σ') (ERR z c Φ X) s₁) (ERR z c Φ X) s
section
variable {z : Z} {n : Nat} {c c' : Cx} {m m' : Str → Option Value} {fx : Fx} {ls : Ls} {X : AH → Prop} {Φ Φ' : Fz} {σ σ' : AH} {s s' : Shared} {obs : List (Addr × Obj)} {wr : List Addr}
theorem Inv.hidAt (I : Inv z (c.hid obs) m Φ σ s) {p : Addr × Obj} (hp : p ∈ obs) : s.heap.get? p.1 = some p.2 := by
  obtain ⟨G, L⟩ := I.led
  have := L.ok p.1
  rw [L.hid p (List.mem_append_left _ hp)] at this
  exact this
theorem hid_frame (I : Inv z (c.hid obs) m Φ σ s) (I' : Inv z (c.hid obs) m' Φ' σ' s') (e : obs.map (·.1) = wr) : ∀ a ∈ wr, ∀ o, s.heap.get? a = some o → s'.heap.get? a = some o := fun a ha o h => by
  rw [← e] at ha; refine xEA (List.mem_map.mp ha) fun p hp u1 => ?_; obtain rfl := u1
  rw [I.hidAt hp] at h; cases h
  exact I'.hidAt hp
noncomputable def notSet : Expr → Bool
  | .Name .. => true
  | .Call .. => true
  | .Subscript .. => true
  | .Attribute .. => true
  | _ => false
theorem notSet_ok {e : Expr} (h : notSet e = true) (env : Env) (x : Value) : foldedSetIterable e env x = pure x := by
  cases e <;> first | rfl | cases h
theorem s_for (a : At z n c fx) (cf : c.Fun) {tgt iter : Expr} {body : List Stmt} {pos : Pos} {Wi : Ls → (List V → AH → Prop) → AH → Prop} {Wb : WSt} {upd : V → Option (List (Nat × V))} (hi : ∀ m ls, SI z c fx m ls X tgt iter (Wi ls)) (hs : notSet iter = true) (ha : SA z fx tgt upd)
    (hb : ∀ obs, SB z (c.hid obs) fx X body Wb) : SS z c fx X (.For tgt iter body [] pos) (fun R N ls σ => Wi ls (fun items σ => forN (fun k v ls σ => match upd v with | some l => Wb R k (setMany ls l) σ | none => False) N items ls σ) σ) := fun R N Φ σ m ls s l I w => by
  refine wpAny_For (wpAny_mono (hi m ls _ Φ σ s l I w) (fun xv s₁ h₁ => wpAny_mono h₁ (fun itv s₂ h₂ => ?_) fun _ _ e => e) fun _ _ e => e) (fun x => notSet_ok hs _ x)
  revert h₂; refine yEEEEEEAAAAAA fun it wr items St Φ₁ σ₁ u2 le T ap IH st q => ?_; obtain rfl := u2
  refine codeAny_forLoop_any (fun k s' => ∃ i Φ' σ' m' ls', k = items.length - i ∧ Φ.le Φ' ∧ Lm fx z c m' Φ' ls' ∧ InvH z c wr m' Φ' σ' s' ∧ St Φ' i s'.heap ∧
    forN (fun k v ls σ => match upd v with | some l => Wb R k (setMany ls l) σ | none => False) N (items.drop i) ls' σ') ?_ items.length ⟨0, Φ₁, σ₁, m, ls, rfl, le, l.mono le, IH, st, q⟩
  rintro k s' ⟨i, Φ₂, σ₂, m₂, ls₂, rfl, le₂, l₂, IH₂, st₂, q₂⟩
  cases hv : items[i]? with
  | none =>
    have hlen : items.length ≤ i := by simpa using hv
    refine T.done n c m₂ Φ₂ σ₂ s' i a.o rfl ap hlen IH₂ st₂ _ _ fun s₃ I₃ => ?_
    rw [List.drop_eq_nil_of_le hlen] at q₂
    exact wpAny_execs_nil (FL.up le₂ (FL.now l₂ I₃ q₂))
  | some v =>
    have hlt : i < items.length := (List.getElem?_eq_some_iff.mp hv).1
    have hd : items.drop i = v :: items.drop (i + 1) := by
      rw [List.drop_eq_getElem_cons hlt, (List.getElem?_eq_some_iff.mp hv).2]
    rw [hd] at q₂
    simp only [forN] at q₂
    cases hu : upd v with
    | none => rw [hu] at q₂; exact q₂.elim
    | some pl =>
    rw [hu] at q₂
    refine wpAny_mono (T.item n c m₂ Φ₂ σ₂ s' i v a.o rfl ap hv IH₂ st₂ ?P _ ?k) (fun r s₃ h₃ => ?c) fun _ _ e => e
    case c =>
      revert h₃; refine yEA fun x u3 h₃ => ?_; obtain rfl := u3
      exact h₃
    intro Φ₃ x s₃ le₃ hx IH₃ st₃
    revert IH₃; refine yEAA fun obs eo nc I₃ => ?_
    refine ha n (c.hid obs) (a.hid obs) v x pl m₂ Φ₃ σ₂ ls₂ s₃ hu ((l₂.mono le₃).hid obs) I₃ hx _ _ fun m₄ s₄ l₄ I₄ => ?_
    refine wpAny_mono (hb obs R _ Φ₃ σ₂ m₄ _ s₄ l₄ I₄ q₂) (fun f s₅ h₅ => ?_) fun _ _ e => err_pass a.o cf ((e.unhid).up (le₂.trans le₃))
    cases f with
    | next =>
      revert h₅; refine yEEEEAAA fun Φ₅ σ₅ m₅ ls₅ le₅ l₅ I₅ q₅ => ?_
      refine ⟨items.length - (i + 1), by omega, i + 1, Φ₅, σ₅, m₅, ls₅, rfl, (le₂.trans le₃).trans le₅, l₅.unhid nc, ⟨obs, eo, nc, I₅⟩, ?_, q₅⟩
      exact T.frame Φ₃ Φ₅ (i + 1) s₃.heap s₅.heap le₅ (hid_frame I₃ I₅ eo) (fun a o e => I₅.froAt (le₅ _ _ e)) st₃
    | ret v => exact RETV.up (le₂.trans le₃) (RETV.unhid h₅)
    | _ => exact h₅.elim
theorem turn_list {l it : Addr} {ws : Array Value} {k : Nat} {vs : List V} {A : Around} {x : Str} {pos : Pos} (hne : l ≠ it) (hm : vs.length ≤ 1000000) :
    Turn z A (.Name x pos) it [it] vs (fun Φ i h => Φ l = some (listOf ws k) ∧ Rvs z.K Φ vs ws.toList ∧ h.IsListIter it l i ∧ h.get? l = some (listOf ws k)) where
  many := by omega
  frame := fun Φ Φ' i h h' le hw hf ⟨a1, a2, a3, a4⟩ => ⟨le _ _ a1, a2.mono le, a3.at fun o e => hw it (by simp) o e, hf _ _ a1⟩
  ex := fun Φ i h ⟨a1, a2, ⟨o, e1, e2, e3⟩, a4⟩ a ha => by
    rw [List.mem_singleton.mp ha]
    exact ⟨o, e1, fun v => by rw [e3]; exact Data.noConfusion⟩
  item := fun n c m Φ σ s i v o eA ap hv IH ⟨a1, a2, a3, a4⟩ P E k => by
    subst eA
    refine xEA (a2.get i v hv) fun x hx hr => ?_
    refine wpAny_pyNext_list_item a3 ⟨_, a4, rfl, _, rfl⟩ (x := x) (by simpa using hx) fun h' hit' hs' => ⟨x, rfl, wpAny_pure ?_⟩
    refine k Φ x _ (Fz.le.refl _) hr (IH.step ap (fun b o hb e => hs'.extBut b o (by simpa using hb) e) fun b hb => ?_) ⟨a1, a2, hit', hs'.extBut _ _ hne a4⟩
    rw [List.mem_singleton.mp hb]
    revert hit'; refine yEAA fun o e1 e2 e3 => ?_
    exact ⟨o, e1, fun v => by rw [e3]; exact Data.noConfusion⟩
  done := fun n c m Φ σ s i o eA ap hlen IH ⟨a1, a2, a3, a4⟩ Q E k => by
    subst eA
    have hsz := a2.length
    refine wpAny_pyNext_list_end o.hd a3 ⟨_, a4, rfl, _, rfl⟩ (by simp at hsz ⊢; omega) fun h' he' => k _ (IH.stop ap fun b o hb e => he' b o (by simpa using hb) e)
  self := fun Φ i s Q E ⟨a1, a2, a3, a4⟩ hQ => wpAny_pyIter_listiter a3 hQ
theorem si_seq (a : At z n c fx) {x : Str} {pos : Pos} {iter : Expr} {W : (V → AH → Prop) → AH → Prop} (h : SE z c m fx ls X iter W) :
    SI z c fx m ls X (.Name x pos) iter (fun Q σ => W (fun v σ => match v with | .lst vs => Q vs σ | _ => False) σ) := fun Q Φ σ s l I w => by
  refine h.bind l I w fun Φ₁ v' v σ₁ s₁ le l₁ hv I₁ q => ?_
  cases v with
  | lst vs =>
    revert hv; refine yEEEAAA fun ad ws k u4 h1 h2 h3 => ?_; obtain rfl := u4
    refine wpAny_pyIter_list ⟨_, I₁.froAt h1, rfl, _, rfl⟩ ?_
    have hx : (s₁.heap.push { cls := .type "list_iterator", data := .fields #[.ref ad, .int 0 0] }).get? s₁.heap.objs.size = some { cls := .type "list_iterator", data := .fields #[.ref ad, .int 0 0] } := Heap.get?_push_size _ rfl
    have st := InvH.start (wr := [s₁.heap.objs.size]) (t := s₁.toks) (h' := s₁.heap.push { cls := .type "list_iterator", data := .fields #[.ref ad, .int 0 0] }) a.o I₁ (fun b hb => by rw [List.mem_singleton.mp hb]; exact Nat.le_refl _) (Kp.of_keeps fun b o e => Heap.get?_push_of_some _ e) (fun b hb => by
      rw [List.mem_singleton.mp hb]
      exact ⟨_, hx, fun v => Data.noConfusion⟩)
    exact ⟨_, [s₁.heap.objs.size], vs, _, Φ₁, σ₁, rfl, le, turn_list (ws := ws) (k := k) (l := ad) (Nat.ne_of_lt (Heap.lt_size (I₁.froAt h1))) h2, st.2, st.1, ⟨h1, h3, ⟨_, hx, rfl, rfl⟩, Heap.get?_push_of_some _ (I₁.froAt h1)⟩, q⟩
  | _ => exact q.elim
theorem turn_range {it : Addr} {a0 st : Int} {N : Nat} {A : Around} {x : Str} {pos : Pos} {items : List V} (hlen : items.length = N) (hm : N ≤ 1000001) (hi : ∀ (i : Nat) (v : V), items[i]? = some v → v = V.int (a0 + (i : Int) * st)) :
    Turn z A (.Name x pos) it [it] items (fun Φ i h => i ≤ N ∧ IsRangeIter h it (a0 + (i : Int) * st) ((N : Int) - (i : Int)) st) where
  many := by omega
  frame := fun Φ Φ' i h h' le hw hf ⟨a0, a1⟩ => ⟨a0, hw it (by simp) _ a1⟩
  ex := fun Φ i h ⟨_, a1⟩ a ha => by
    rw [List.mem_singleton.mp ha]
    exact ⟨_, a1, fun v => Data.noConfusion⟩
  item := fun n c m Φ σ s i v o eA ap hv IH ⟨_, a1⟩ P E k => by
    subst eA
    have hlt : i < items.length := (List.getElem?_eq_some_iff.mp hv).1
    rw [hi i v hv] at *
    refine wpAny_pyNext_range_item a1 (by omega) fun h' hit' hs' => ⟨_, rfl, wpAny_pure ?_⟩
    refine k Φ _ _ (Fz.le.refl _) ⟨_, rfl⟩ (IH.step ap (fun b o hb e => hs'.extBut b o (by simpa using hb) e) fun b hb => ?_) ⟨by omega, ?_⟩
    · rw [List.mem_singleton.mp hb]
      exact ⟨_, hit', fun v => Data.noConfusion⟩
    · have e1 : a0 + ((i + 1 : Nat) : Int) * st = a0 + (i : Int) * st + st := by push_cast; rw [Int.add_mul, Int.one_mul, Int.add_assoc]
      have e2 : (N : Int) - ((i + 1 : Nat) : Int) = (N : Int) - (i : Int) - 1 := by push_cast; omega
      rw [e1, e2]; exact hit'
  done := fun n c m Φ σ s i o eA ap hl IH ⟨hle, a1⟩ Q E k => by
    subst eA
    exact wpAny_pyNext_range_end o.hd a1 (by omega) fun h' he' => k _ (IH.stop ap fun b o hb e => he' b o (by simpa using hb) e)
  self := fun Φ i s Q E ⟨_, a1⟩ hQ => by
    exact wpAny_pyIter_rangeiter a1 hQ
theorem upV_get {a N i : Nat} {v : V} (h : (upV a N)[i]? = some v) : v = V.int ((a : Int) + (i : Int) * 1) := by
  unfold upV at h
  rw [List.getElem?_map] at h
  cases q : (List.range N)[i]? with
  | none => rw [q] at h; cases h
  | some j =>
    rw [q] at h
    have : j = i := by
      have := List.getElem?_eq_some_iff.mp q
      obtain ⟨h1, h2⟩ := this
      simpa using h2.symm
    subst this
    simp only [Option.map_some, Option.some.injEq] at h
    rw [← h]; congr 1; push_cast; omega
theorem downV_get : ∀ {N i : Nat} {v : V}, (downV N)[i]? = some v → v = V.int (((N : Int) - 1) + (i : Int) * (-1))
  | 0, i, v, h => by simp [downV] at h
  | N + 1, 0, v, h => by simp [downV] at h; subst h; simp
  | N + 1, i + 1, v, h => by
    have := downV_get (N := N) (i := i) (v := v) (by simpa [downV] using h)
    rw [this]; congr 1; push_cast; omega
theorem upV_length {a N : Nat} : (upV a N).length = N := by simp [upV]
theorem downV_length : ∀ {N : Nat}, (downV N).length = N
  | 0 => rfl
  | N + 1 => by simp [downV, downV_length]
theorem small_down {i : Int} (h1 : -1 ≤ i) (h2 : i ≤ 1000000) : Builtin.Range.small i (-1) (-1) = true ∧ Builtin.Range.rangeSize i (-1) (-1) = i + 1 := by
  have hs : Builtin.Range.rangeSize i (-1) (-1) = i + 1 := by
    unfold Builtin.Range.rangeSize
    rw [if_neg (by decide)]
    split
    · simp
    · omega
  refine ⟨?_, hs⟩
  unfold Builtin.Range.small
  rw [hs]
  simp only [Builtin.Range.rangeFitsLong, Bool.and_eq_true, Bool.or_eq_true, decide_eq_true_eq, beq_iff_eq, show ¬ ((-1 : Int) > 0) by decide, if_false]
  omega
theorem range_it (a : At z n c fx) {x : Str} {pos : Pos} (I : Inv z c m Φ σ s) {a0 b0 st : Int} {N : Nat} {items : List V} {Q : List V → AH → Prop} {tk1 tk2 tk3 t : Nat} {h' : Heap} {r : Addr} (hr : IsRange h' r a0 b0 st tk1 tk2 tk3) (hk : Kp [] s.heap h') (hsm : Builtin.Range.small a0 b0 st = true) (hsz : Builtin.Range.rangeSize a0 b0 st = N)
    (hlen : items.length = N) (hm : N ≤ 1000001) (hi : ∀ (i : Nat) (v : V), items[i]? = some v → v = V.int (a0 + (i : Int) * st)) (q : Q items σ) {E : Value → Shared → Prop} (le : Φ'.le Φ) :
    wpAny (model z.prog z.w) c.A (pyIter (.ref r)) (fun itv s₂ =>
    ∃ it wr items St Φ₂ σ', itv = .ref it ∧ Φ'.le Φ₂ ∧ Turn z c.A (.Name x pos) it wr items St ∧ Apart c wr ∧ InvH z c wr m Φ₂ σ' s₂ ∧ St Φ₂ 0 s₂.heap ∧ Q items σ') E { s with heap := h', toks := t } := by
  have I₁ : Inv z c m Φ σ { s with heap := h', toks := t } := I.keeps (fun b o e => hk.nil _ _ e) rfl rfl rfl
  refine wpAny_pyIter_range hr hsm ?_
  dsimp only
  have hx := Heap.get?_push_size h' (o := { cls := .type "range_iterator", data := .fields #[rawInt a0, rawInt (Builtin.Range.rangeSize a0 b0 st), rawInt st] }) rfl
  have stt := InvH.start (wr := [h'.objs.size]) (t := t) (h' := h'.push { cls := .type "range_iterator", data := .fields #[rawInt a0, rawInt (Builtin.Range.rangeSize a0 b0 st), rawInt st] }) a.o I₁ (fun b hb => by rw [List.mem_singleton.mp hb]; exact Nat.le_refl _) (Kp.of_keeps fun b o e => Heap.get?_push_of_some _ e) (fun b hb => by
    rw [List.mem_singleton.mp hb]
    exact ⟨_, hx, fun v => Data.noConfusion⟩)
  refine ⟨_, [h'.objs.size], items, _, Φ, σ, rfl, le, turn_range (a0 := a0) (st := st) hlen hm hi, stt.2, stt.1, ⟨Nat.zero_le _, ?_⟩, q⟩
  show (h'.push _).get? _ = _
  rw [hx, hsz]; simp
theorem si_range1 (a : At z n c fx) {x : Str} {pos p pos' : Pos} {y : Expr} {W : (V → AH → Prop) → AH → Prop} (h : SE z c m fx ls X y W) (hy : ∀ e p, y ≠ .Starred e p) (b : Bi z.K fx "range" (.type "range")) :
    SI z c fx m ls X (.Name x pos) (.Call (.Name "range" p) [y] [] pos') (fun Q σ => W (fun u σ => match u with
    | .int i => 0 ≤ i ∧ i ≤ 1000000 ∧ Q (upV 0 i.toNat) σ
    | _ => False) σ) := fun Q Φ σ s l I w => by
  rw [call_name]
  refine wpAny_bind (b.here a I (bt1 h hy l I w fun Φ₁ v' v σ₁ s₁ le l₁ hv I₁ q => ?_))
  cases v with
  | int i =>
    obtain ⟨tk, rfl⟩ := rv_int hv
    refine call_range_1 ?_
    revert q; refine yAA fun q0 q1 q2 => ?_
    exact range_it a I₁ (IsRange.new ..) (Kp.of_keeps fun b o e => Heap.get?_push_of_some _ e) (small_one (by omega) (by omega) (by omega) (by omega)) (N := i.toNat) (by rw [rangeSize_one]; split <;> omega) upV_length (by omega) (fun i v hv => by have := upV_get hv; simpa using this) q2 le
  | _ => exact q.elim
theorem si_down (a : At z n c fx) {x : Str} {pos p pos' q1 q2 q3 q4 : Pos} {k1 k2 : Nat} {y : Expr} {W : (V → AH → Prop) → AH → Prop} (h : SE z c m fx ls X y W) (hy : ∀ e p, y ≠ .Starred e p) (b : Bi z.K fx "range" (.type "range")) :
    SI z c fx m ls X (.Name x pos) (.Call (.Name "range" p) [y, .UnaryOp .USub (.Constant (.int 1) k1 q1) q2, .UnaryOp .USub (.Constant (.int 1) k2 q3) q4] [] pos') (fun Q σ => W (fun u σ => match u with
    | .int i => -1 ≤ i ∧ i ≤ 1000000 ∧ Q (downV (i + 1).toNat) σ
    | _ => False) σ) := fun Q Φ σ s l I w => by
  rw [call_name]
  refine wpAny_bind (b.here a I ?_)
  have hb : backTo pos' (starEach [y, .UnaryOp .USub (.Constant (.int 1) k1 q1) q2, .UnaryOp .USub (.Constant (.int 1) k2 q3) q4] c.env) = [(false, eval y c.env), (false, eval (.UnaryOp .USub (.Constant (.int 1) k1 q1) q2) c.env), (false, eval (.UnaryOp .USub (.Constant (.int 1) k2 q3) q4) c.env)] := by
    rw [starEach_cons hy]; rfl
  rw [hb]
  refine PySem.callWith_type rfl (evalArgs_any rfl (Calls.spliced_cons (h.bind l I w fun Φ₁ v' v σ₁ s₁ le l₁ hv I₁ q => ?_)))
  cases v with
  | int i =>
    obtain ⟨tk, rfl⟩ := rv_int hv
    revert q; refine yAA fun q0 q1 q2 => ?_
    refine Calls.spliced_cons (err_up le ((s_neg s_int).bind (Q := fun v σ => v = .int (-1) ∧ Q (downV (i + 1).toNat) σ) l₁ I₁ ⟨rfl, q2⟩ fun Φ₂ v₂' v₂ σ₂ s₂ le₂ l₂ hv₂ I₂ q₂ => ?_))
    obtain ⟨rfl, q₂⟩ := q₂
    obtain ⟨tk2, rfl⟩ := rv_int hv₂
    refine Calls.spliced_cons (err_up (le.trans le₂) ((s_neg s_int).bind (Q := fun v σ => v = .int (-1) ∧ Q (downV (i + 1).toNat) σ) l₂ I₂ ⟨rfl, q₂⟩ fun Φ₃ v₃' v₃ σ₃ s₃ le₃ l₃ hv₃ I₃ q₃ => Calls.spliced_nil ?_))
    obtain ⟨rfl, q₃⟩ := q₃
    obtain ⟨tk3, rfl⟩ := rv_int hv₃
    obtain ⟨sm1, sm2⟩ := small_down q0 q1
    refine call_range_3 (by decide) ?_ (Or.inl (PyProof.noPylong_small (by decide)))
    exact range_it a I₃ (IsRange.new ..) (Kp.of_keeps fun b o e => Heap.get?_push_of_some _ e) sm1 (N := (i + 1).toNat) (by rw [sm2]; omega) downV_length (by omega) (fun j v hv => by
      have := downV_get hv
      rw [this]; congr 1; omega) q₃ ((le.trans le₂).trans le₃)
  | _ => exact q.elim
theorem Led.freezeFree {G : Addr → Cell} {h : Heap} {a : Addr} {ob : Obj} (L : Led z c m Φ σ G h) (fG : G a = .free) (ha' : z.h₀.get? a = none) (hx : h.get? a = some ob) :
    Φ.le (Fz.set Φ a ob) ∧ Led z c m (Fz.set Φ a ob) σ (gset G a (.fro ob)) h := by
  have keep : ∀ {b : Addr} {y : Cell}, G b = y → y ≠ .free → gset G a (.fro ob) b = y := fun {b y} e p => by
    rw [gset_ne]; exact e; rintro rfl; rw [fG] at e; exact p e.symm
  have le : Φ.le (Fz.set Φ a ob) := fun b x q => by
    unfold Fz.set; rw [if_neg]; exact q; rintro rfl; have := L.fro _ _ q; rw [fG] at this; cases this
  refine ⟨le, fun b => ?_, fun b q => ?_, keep L.cur Cell.noConfusion, fun p hp => keep (L.outs p hp) Cell.noConfusion,
    fun p hp => keep (L.hid p hp) Cell.noConfusion, fun b x q => ?_, fun b x q => keep (L.own b x q) Cell.noConfusion⟩
  · by_cases w : b = a
    · subst w; rw [gset_self]; exact hx
    · rw [gset_ne w]
      have q := L.ok b
      cases e4 : G b with
      | free => trivial
      | fro o => rw [e4] at q; exact q
      | hid o => rw [e4] at q; exact q
      | frm m => rw [e4] at q; exact q
      | own o =>
        rw [e4] at q
        cases o with
        | list vs => revert q; refine yEEAA fun ws n e b r => ?_; exact ⟨ws, n, e, b, Rvs.mono le r⟩
        | inst C2 ks2 vs2 => revert q; refine yEEEAAAAA fun d2 es2 n2 f1 f2 f3 hC2 r1 r2 => ?_; exact ⟨d2, es2, n2, f1, f2, keep f3 Cell.noConfusion, hC2, r1, Rvs.mono le r2⟩
        | dictS ks vs => revert q; refine yEEAAA fun o kvs e r1 r2 r3 => ?_; exact ⟨o, kvs, e, r1, r2, Rvs.mono le r3⟩
        | dictI ks vs => revert q; refine yEEAAA fun o kvs e r1 r2 r3 => ?_; exact ⟨o, kvs, e, r1, r2, Rvs.mono le r3⟩
      | sub b2 => rw [e4] at q; exact q
  · by_cases w : b = a
    · rw [w]; exact ha'
    · rw [gset_ne w] at q; exact L.new _ q
  · unfold Fz.set at q
    by_cases w : b = a
    · subst w; rw [if_pos rfl] at q; cases q; exact gset_self ..
    · rw [if_neg w] at q; exact keep (L.fro b x q) Cell.noConfusion
theorem InvH.stepNew {t : Nat} {h' : Heap} {T : Addr} {ob : Obj} (I : InvH z c wr m Φ σ s) (hs : z.h₀.objs.size ≤ s.heap.objs.size) (ap : Apart c wr) (k : Kp wr s.heap h') (ex : ExN wr h') (hT : s.heap.objs.size ≤ T) (hx : h'.get? T = some ob) :
    ∃ Φ', Φ.le Φ' ∧ Φ' T = some ob ∧ InvH z c wr m Φ' σ { s with heap := h', toks := t } := by
  revert I; refine yEAA fun obs e nc I => ?_
  refine xAA (hidObs wr h' ex) fun h1 h2 h3 => ?_
  obtain ⟨G, L⟩ := I.led
  have hG : ∀ a ∈ wr, ∃ o, G a = .hid o := fun a ha => by
    rw [← e] at ha; refine xEA (List.mem_map.mp ha) fun p hp u5 => ?_; obtain rfl := u5
    exact ⟨_, L.hid p (List.mem_append_left _ hp)⟩
  have hz : ∀ a ∈ wr, z.h₀.get? a = none := fun a ha => by
    obtain ⟨o, q⟩ := hG a ha
    exact L.new _ (by rw [q]; exact Cell.noConfusion)
  have fT : G T = .free := L.free_of_none (none_of_size hT)
  have L₁ := L.put (wr := wr) (h' := h') (c' := c.hid (wr.map fun a => (a, getO h' a))) (x := fun a => match h'.get? a with | some o => .hid o | none => .free) rfl rfl (fun a ha => .inr (hG a ha)) hz k (fun a ha => by
    cases e : h'.get? a with
    | none => exact .inl rfl
    | some o => exact .inr ⟨o, rfl, rfl⟩) (fun p hp => by
    rcases List.mem_append.mp hp with hp | hp
    · refine .inl ⟨(h3 p hp).1, ?_⟩
      simp only [(h3 p hp).2]
    · exact .inr ⟨ap p hp, List.mem_append_right _ hp⟩)
  have nT : T ∉ wr := fun q => by obtain ⟨o, q⟩ := hG T q; rw [fT] at q; cases q
  obtain ⟨le, L₂⟩ := L₁.freezeFree (a := T) (ob := ob) (by simp only [if_neg nT]; exact fT) (none_of_size (Nat.le_trans hs hT)) hx
  exact ⟨_, le, by simp [Fz.set], _, h1, h2, I.gens, I.drawn, I.os, fun b o q => k _ _ (fun w => by rw [hz b w] at q; cases q) (I.base b o q), _, L₂⟩
theorem enumV_get : ∀ {vs : List V} {j i : Nat} {v : V}, (enumV j vs)[i]? = some v → ∃ u, vs[i]? = some u ∧ v = .tup [.int ((j + i : Nat) : Int), u]
  | [], j, i, v, h => by simp [enumV] at h
  | u :: r, j, 0, v, h => by simp [enumV] at h; subst h; exact ⟨u, rfl, rfl⟩
  | u :: r, j, i + 1, v, h => by
    refine xEA (enumV_get (vs := r) (j := j + 1) (i := i) (v := v) (by simpa [enumV] using h)) fun x h1 h2 => ?_
    exact ⟨x, by simpa using h1, by rw [h2]; congr 4; push_cast; omega⟩
theorem enumV_length : ∀ {vs : List V} {j : Nat}, (enumV j vs).length = vs.length
  | [], _ => rfl
  | _ :: r, j => by simp [enumV, enumV_length]
theorem sizeH (o : c.Ok z n) (I : InvH z c wr m Φ σ s) : z.h₀.objs.size ≤ s.heap.objs.size := let ⟨obs, _, _, I⟩ := I; I.size (o.hid obs)
theorem turn_enum {e it l : Addr} {ws : Array Value} {k : Nat} {vs : List V} {A : Around} {elts : List Expr} {kk : Nat} {pos : Pos} (hei : e ≠ it) (hle : l ≠ e) (hli : l ≠ it) (hm : vs.length ≤ 1000000) :
    Turn z A (.Tuple elts kk pos) e [e, it] (enumV 0 vs) (fun Φ i h => Φ l = some (listOf ws k) ∧ Rvs z.K Φ vs ws.toList ∧ (∃ old, IsEnum h e it (i : Nat) old) ∧ h.IsListIter it l i ∧ h.get? l = some (listOf ws k)) where
  many := by rw [enumV_length]; omega
  frame := fun Φ Φ' i h h' le hw hf ⟨a1, a2, ⟨old, a5⟩, a3, a4⟩ => ⟨le _ _ a1, a2.mono le, ⟨old, hw e (by simp) _ a5⟩, a3.at fun o e => hw it (by simp) o e, hf _ _ a1⟩
  ex := fun Φ i h ⟨a1, a2, ⟨old, a5⟩, ⟨o, e1, e2, e3⟩, a4⟩ a ha => by
    rcases List.mem_cons.mp ha with rfl | ha
    · exact ⟨_, a5, fun v => Data.noConfusion⟩
    · rw [List.mem_singleton.mp ha]
      exact ⟨o, e1, fun v => by rw [e3]; exact Data.noConfusion⟩
  item := fun n c m Φ σ s i v o eA ap hv IH ⟨a1, a2, ⟨old, a5⟩, a3, a4⟩ P E kf => by
    subst eA
    refine xEA (enumV_get hv) fun u hu u6 => ?_; obtain rfl := u6
    refine xEA (a2.get i u hu) fun x hx hr => ?_
    refine wpAny_pyNext_enum_item a5 a3 ⟨_, a4, rfl, _, rfl⟩ (x := x) (by simpa using hx) hei fun h' b1 b2 b3 b4 b5 => ⟨_, rfl, ?_⟩
    refine xEAA (id b2) fun oi oi1 oi2 oi3 => ?_
    obtain ⟨Φ₁, le, eT, IH₁⟩ := IH.stepNew (t := s.toks + 1) (h' := h') (T := s.heap.objs.size) (sizeH o IH) ap (fun b o hb e => b5 b o (fun q => hb (by simp [q])) (fun q => hb (by simp [q])) e) (fun b hb => by
      rcases List.mem_cons.mp hb with rfl | hb
      · exact ⟨_, b1, fun v => Data.noConfusion⟩
      · rw [List.mem_singleton.mp hb]
        exact ⟨oi, oi1, fun v => by rw [oi3]; exact Data.noConfusion⟩) (Nat.le_refl _) b3
    refine wpAny_letOwnedTupleGo_enum b1 fun h₂ c1 c2 => ?_
    replace c2 : Heap.SameBut e h' h₂ := c2
    have b2' : h₂.IsListIter it l (i + 1) := b2.extBut c2.extBut (Ne.symm hei)
    refine xEAA (id b2') fun oj oj1 oj2 oj3 => ?_
    have IH₂ := IH₁.step (t := s.toks + 1) (h' := h₂) ap (fun b o hb e => c2.extBut b o (fun q => hb (by simp [q])) e) (fun b hb => by
      rcases List.mem_cons.mp hb with rfl | hb
      · exact ⟨_, c1, fun v => Data.noConfusion⟩
      · rw [List.mem_singleton.mp hb]
        exact ⟨oj, oj1, fun v => by rw [oj3]; exact Data.noConfusion⟩)
    refine kf Φ₁ _ _ le ⟨_, #[.int (i : Int) s.toks, x], 0, rfl, eT, by simp, ?_⟩ IH₂ ⟨le _ _ a1, a2.mono le, ⟨x, ?_⟩, b2', ?_⟩
    · exact ⟨_, _, rfl, ⟨_, by rw [Nat.zero_add]⟩, _, _, rfl, hr.mono le, rfl⟩
    · have : ((i + 1 : Nat) : Int) = (i : Int) + 1 := by push_cast; rfl
      rw [this]; exact c1
    · exact c2.extBut _ _ hle (b5 _ _ hle hli a4)
  done := fun n c m Φ σ s i o eA ap hlen IH ⟨a1, a2, ⟨old, a5⟩, a3, a4⟩ Q E kf => by
    subst eA
    have hsz := a2.length
    rw [enumV_length] at hlen
    exact wpAny_pyNext_enum_end o.hd a5 a3 ⟨_, a4, rfl, _, rfl⟩ (by simp at hsz ⊢; omega) fun h' he' => kf _ (IH.stop ap fun b o hb e => he' b o (fun q => hb (by simp [q])) e)
  self := fun Φ i s Q E ⟨a1, a2, ⟨old, a5⟩, a3, a4⟩ hQ => wpAny_pyIter_enum a5 hQ
theorem si_enum (a : At z n c fx) {elts : List Expr} {kk : Nat} {pos p pos' : Pos} {y : Expr} {W : (V → AH → Prop) → AH → Prop} (h : SE z c m fx ls X y W) (hy : ∀ e p, y ≠ .Starred e p) (b : Bi z.K fx "enumerate" (.type "enumerate")) :
    SI z c fx m ls X (.Tuple elts kk pos) (.Call (.Name "enumerate" p) [y] [] pos') (fun Q σ => W (fun v σ => match v with
    | .lst vs => Q (enumV 0 vs) σ
    | _ => False) σ) := fun Q Φ σ s l I w => by
  rw [call_name]
  refine wpAny_bind (b.here a I (bt1 h hy l I w fun Φ₁ v' v σ₁ s₁ le l₁ hv I₁ q => ?_))
  cases v with
  | lst vs =>
    revert hv; refine yEEEAAA fun ad ws k u7 h1 h2 h3 => ?_; obtain rfl := u7
    have g1 := I₁.froAt h1
    refine call_enumerate_1 g1 fun h' e1 e2 e3 e4 => wpAny_pyIter_enum e1 ?_
    refine xEAA (id e2) fun oi oi1 oi2 oi3 => ?_
    have lt := Heap.lt_size g1
    have stt := InvH.start (wr := [s₁.heap.objs.size + 1, s₁.heap.objs.size]) (t := s₁.toks) (h' := h') a.o I₁ (fun b hb => by
      rcases List.mem_cons.mp hb with rfl | hb
      · exact Nat.le_succ _
      · rw [List.mem_singleton.mp hb]; exact Nat.le_refl _) (Kp.of_keeps e4) (fun b hb => by
      rcases List.mem_cons.mp hb with rfl | hb
      · exact ⟨_, e1, fun v => Data.noConfusion⟩
      · rw [List.mem_singleton.mp hb]
        exact ⟨oi, oi1, fun v => by rw [oi3]; exact Data.noConfusion⟩)
    exact ⟨_, [s₁.heap.objs.size + 1, s₁.heap.objs.size], _, _, Φ₁, σ₁, rfl, le, turn_enum (ws := ws) (k := k) (l := ad) (vs := vs) (Nat.succ_ne_self _) (Nat.ne_of_lt (Nat.lt_succ_of_lt lt)) (Nat.ne_of_lt lt) h2, stt.2, stt.1, ⟨h1, h3, ⟨_, e1⟩, e2, e4 _ _ g1⟩, q⟩
  | _ => exact q.elim
end
end Mine
end
noncomputable section
namespace Mine
section
variable {prog : Program} {w : World} {A : Around} {R : Result → Shared → Prop} {s : Shared}
theorem codeAny_compLoop_any {elt target iter : Expr} {scope : Scope} {pos : Pos} {it acc : Value} {env : Env} (I : Nat → Shared → Prop)
    (turn : ∀ n s, I n s → wpAny (model prog w) A (pyNext it) (fun r s₁ => match r with
      | none => R (.ok .next) s₁
      | some v => wpAny (model prog w) A (letOwnedTupleGo target it v) (fun _ s₁' => wpAny (model prog w) A (assign target env v) (fun _ s₂ => wpAny (model prog w) A (eval elt env) (fun x s₃ =>
          wpAny (model prog w) A (call (.builtin "list.append") [acc, x]) (fun _ s₄ => ∃ m, m < n ∧ I m s₄) (notedBy (model prog w) A env fun e s' => R (.error e) s') s₃)
          (notedBy (model prog w) A env fun e s' => R (.error e) s') s₂) (notedBy (model prog w) A env fun e s' => R (.error e) s') s₁') (notedBy (model prog w) A env fun e s' => R (.error e) s') s₁) (notedBy (model prog w) A env fun e s' => R (.error e) s') s)
    (n : Nat) (h : I n s) :
    codeAny (model prog w) A (.compLoop (.ListComp elt [⟨target, iter, [], 0⟩] scope pos) 0 it acc env) R s := by
  refine codeAny_loop rfl I (fun n s hI => ?_) n h
  show wpAny _ _ ((compTurn (.ListComp elt [⟨target, iter, [], 0⟩] scope pos) 0 it acc env).onRaise (fun x => do noteFrame x env; theTreesLotGoes x)) _ _ s
  refine wpAny_noted ?_
  rw [compTurn_list1]
  refine wpAny_bind (wpAny_standAt (wpAny_bind (wpAny_mono (turn n s hI) (fun r s₁ h₁ => ?_) fun _ _ h' => h')))
  cases r with
  | none => exact wpAny_pure h₁
  | some v =>
    refine wpAny_bind (wpAny_mono h₁ (fun _ s₁' h₁' => ?_) fun _ _ h' => h')
    exact wpAny_bind (wpAny_mono h₁' (fun _ s₂ h₂ => wpAny_bind (wpAny_bind (wpAny_mono h₂ (fun x s₃ h₃ => wpAny_bind (wpAny_mono h₃
      (fun _ s₄ h₄ => wpAny_pure (wpAny_pure ⟨rfl, h₄⟩)) fun _ _ h' => h')) fun _ _ h' => h'))) fun _ _ h' => h')
end
noncomputable def closeL (env : Env) : List (Str × NameKind) → List (Str × Addr) → List (Str × Addr)
  | [], cs => cs
  | (x, k) :: r, cs => closeL env r (if k == .free then (x, (env.cells.lookup x).getD 0) :: cs else cs)
theorem closureFor_eq {scope : Scope} {env : Env} (h : ∀ x, (x, NameKind.free) ∈ scope.names → ∃ a, env.cells.lookup x = some a) : closureFor scope env = pure (closeL env scope.names []) := by
  unfold closureFor
  suffices H : ∀ (l : List (Str × NameKind)) (cs : List (Str × Addr)), (∀ x, (x, NameKind.free) ∈ l → ∃ a, env.cells.lookup x = some a) →
      (forIn l cs fun x cs => (match x with | (name, kind) => if (kind == NameKind.free) = true then do let a ← cellOf env name; pure (ForInStep.yield ((name, a) :: cs)) else pure (ForInStep.yield cs) : Sem (ForInStep (List (Str × Addr))))) = pure (closeL env l cs) by
    exact congrArg (fun (t : Sem (List (Str × Addr))) => t >>= fun cs => pure cs) (H scope.names [] h)
  intro l
  induction l with
  | nil => intro cs _; rfl
  | cons p r ih =>
    intro cs h
    obtain ⟨x, k⟩ := p
    rw [List.forIn_cons]
    by_cases hk : k = .free
    · subst hk
      obtain ⟨a, e⟩ := h x (.head _)
      have : cellOf env x = pure a := by unfold cellOf; rw [e]
      simp only [beq_self_eq_true, if_true, this]
      show (forIn r ((x, a) :: cs) _ : Sem _) = _
      rw [ih _ fun y hy => h y (.tail _ hy)]
      simp [closeL, e]
    · have hb : (k == NameKind.free) = false := by simpa using hk
      simp only [hb, Bool.false_eq_true, if_false]
      show (forIn r cs _ : Sem _) = _
      rw [ih _ fun y hy => h y (.tail _ hy)]
      simp [closeL, hb]
theorem closeL_lookup {env : Env} {x : Str} {a : Addr} (e : env.cells.lookup x = some a) : ∀ {l : List (Str × NameKind)} {cs : List (Str × Addr)}, ((x, NameKind.free) ∈ l ∨ cs.lookup x = some a) → (closeL env l cs).lookup x = some a
  | [], cs, h => by
    rcases h with h | h
    · cases h
    · exact h
  | (y, k) :: r, cs, h => by
    unfold closeL
    refine closeL_lookup e ?_
    by_cases hk : k = .free
    · subst hk
      simp only [beq_self_eq_true, if_true]
      by_cases hy : x = y
      · subst hy; right; simp [List.lookup_cons, e]
      · rcases h with h | h
        · rcases List.mem_cons.mp h with h | h
          · cases h; exact absurd rfl hy
          · exact .inl h
        · right; rw [List.lookup_cons]
          have : (x == y) = false := by simpa using hy
          rw [this]; exact h
    · have hb : (k == NameKind.free) = false := by simpa using hk
      simp only [hb, Bool.false_eq_true, if_false]
      rcases h with h | h
      · rcases List.mem_cons.mp h with h | h
        · cases h; exact absurd rfl hk
        · exact .inl h
      · exact .inr h
noncomputable def compOk (fx : Fx) (scope : Scope) : Bool := scope.kind == .function && scope.names.all fun y => y.2 != .cell && (y.2 != .free || fx.kinds.lookup y.1 == some .cell) && (y.2 != .local || scope.names.lookup y.1 == some .local)
noncomputable def fxC (fx : Fx) (scope : Scope) : Fx := ⟨fx.names, scope.names.map fun p => if (p.2 == .free && fx.kinds.lookup p.1 == some .cell) then (p.1, .cell) else (p.1, p.2)⟩
noncomputable def tgtsOk (fx : Fx) (scope : Scope) (is : List Nat) : Bool := (List.range fx.names.length).all fun i => match fx.names[i]? with
  | some x => (fxC fx scope).kinds.lookup x != some .local || is.contains i
  | none => true
section
variable {z : Z} {n : Nat} {c c' : Cx} {m m' : Str → Option Value} {fx : Fx} {ls : Ls} {X : AH → Prop} {Φ Φ' : Fz} {σ σ' : AH} {s s' : Shared} {obs : List (Addr × Obj)} {wr : List Addr}
theorem fxC_cell {fx : Fx} {x : Str} : ∀ {l : List (Str × NameKind)}, (∀ y ∈ l, y.2 ≠ .cell) → (l.map fun p => if (p.2 == .free && fx.kinds.lookup p.1 == some .cell) = true then (p.1, NameKind.cell) else (p.1, p.2)).lookup x = some .cell → (x, NameKind.free) ∈ l ∧ fx.kinds.lookup x = some .cell
  | [], _, h => by simp at h
  | (y, k) :: r, hc, h => by
    rw [List.map_cons] at h
    by_cases q : (k == .free && fx.kinds.lookup y == some .cell) = true
    · rw [if_pos q, List.lookup_cons] at h
      by_cases e : x = y
      · subst e
        simp only [Bool.and_eq_true, beq_iff_eq] at q
        exact ⟨by rw [← q.1]; exact .head _, q.2⟩
      · have : (x == y) = false := by simpa using e
        rw [this] at h
        obtain ⟨a, b⟩ := fxC_cell (fun y hy => hc y (.tail _ hy)) h
        exact ⟨.tail _ a, b⟩
    · rw [if_neg q, List.lookup_cons] at h
      by_cases e : x = y
      · subst e
        simp only [beq_self_eq_true, Option.some.injEq] at h
        exact absurd h (hc _ (.head _))
      · have : (x == y) = false := by simpa using e
        rw [this] at h
        obtain ⟨a, b⟩ := fxC_cell (fun y hy => hc y (.tail _ hy)) h
        exact ⟨.tail _ a, b⟩
structure CompK (fx : Fx) (scope : Scope) : Prop where
  kind : scope.kind = .function
  ncell : ∀ y ∈ scope.names, y.2 ≠ .cell
  free : ∀ x, (x, NameKind.free) ∈ scope.names → fx.kinds.lookup x = some .cell
  loc : ∀ y ∈ scope.names, y.2 = .local → scope.names.lookup y.1 = some .local
theorem compK_of {scope : Scope} (h : compOk fx scope = true) : CompK fx scope := by
  unfold compOk at h
  simp only [Bool.and_eq_true, beq_iff_eq, List.all_eq_true, Bool.or_eq_true, bne_iff_ne, ne_eq] at h
  obtain ⟨h1, h2⟩ := h
  exact ⟨h1, fun y hy => (h2 y hy).1.1, fun x hx => by
    rcases (h2 _ hx).1.2 with q | q
    · exact absurd rfl q
    · exact q, fun y hy q => by
    rcases (h2 _ hy).2 with q' | q'
    · exact absurd q q'
    · exact q'⟩
noncomputable def Cx.comp (c : Cx) (m : Str → Option Value) (scope : Scope) (cl : List (Str × Addr)) (C : Addr) : Cx := ⟨compEnvC scope cl C c.env, c.A, c.envs, (c.L, m) :: c.outs, c.H⟩
theorem Cx.Ok.comp {scope : Scope} {cl : List (Str × Addr)} {C : Addr} (o : c.Ok z n) (hk : scope.kind = .function) (hne : ∀ a ∈ c.L :: c.outs.map (·.1), a ≠ C) (habv : z.h₀.objs.size ≤ C) : (c.comp m scope cl C).Ok z n where
  hA := o.hA
  fr := fun e he => by
    refine xAEA (o.fr e he) fun a1 a a2 a3 => ?_
    refine ⟨a1, a, a2, .inr ?_⟩
    show a ∈ c.L :: c.outs.map (·.1)
    rcases a3 with rfl | a3
    · exact .head _
    · exact .tail _ a3
  ne := fun p hp => hne p.1 (List.mem_map_of_mem (f := (·.1)) hp)
  abv := habv
  hd := o.hd
  depth := o.depth
  units := o.units
  ek := by show scope.kind = _; exact hk
  eg := o.eg
  eb := o.eb
  ef := by
    refine xEA (o.ef) fun a a2 a3 => ?_
    refine ⟨a, a2, .inr ?_⟩
    show a ∈ c.L :: c.outs.map (·.1)
    rcases a3 with rfl | a3
    · exact .head _
    · exact .tail _ a3
  top := o.top
theorem relabel_names (a : At z n c fx) (scope : Scope) : (relabel scope c.env).names = (fxC fx scope).kinds := by
  unfold relabel fxC
  simp only
  refine List.map_congr_left fun p hp => ?_
  obtain ⟨x, k⟩ := p
  simp only [a.o.ek, a.kind, beq_self_eq_true, Bool.and_true]
theorem At.comp {scope : Scope} {C : Addr} (a : At z n c fx) (ck : CompK fx scope) (hne : ∀ b ∈ c.L :: c.outs.map (·.1), b ≠ C) (habv : z.h₀.objs.size ≤ C) : At z n (c.comp m scope (closeL c.env scope.names []) C) (fxC fx scope) where
  zo := a.zo
  o := a.o.comp ck.kind hne habv
  hs := relabel_names a scope
  hc := fun x hx => by
    obtain ⟨h1, h2⟩ := fxC_cell ck.ncell hx
    obtain ⟨b, e⟩ := a.hc x h2
    exact ⟨b, closeL_lookup e (.inl h1)⟩
theorem setMany_in : ∀ {l : List (Nat × V)} {ls ls' : Ls} {i : Nat}, i ∈ l.map (·.1) → ls.length = ls'.length → (setMany ls l)[i]? = (setMany ls' l)[i]?
  | [], _, _, _, h, _ => by cases h
  | p :: r, ls, ls', i, h, e => by
    show (setMany (ls.set p.1 (some p.2)) r)[i]? = (setMany (ls'.set p.1 (some p.2)) r)[i]?
    by_cases q : i ∈ r.map (·.1)
    · exact setMany_in q (by simp [e])
    · rw [List.map_cons] at h
      rcases List.mem_cons.mp h with h | h
      · subst h
        have out : ∀ {r : List (Nat × V)} {ls : Ls} {i : Nat}, i ∉ r.map (·.1) → (setMany ls r)[i]? = ls[i]? := by
          intro r
          induction r with
          | nil => intro ls i _; rfl
          | cons p r ih =>
            intro ls i h
            show (setMany (ls.set p.1 (some p.2)) r)[i]? = _
            rw [List.map_cons, List.mem_cons, not_or] at h
            rw [ih h.2, List.getElem?_set_ne (Ne.symm h.1)]
        rw [out q, out q, List.getElem?_set_self', List.getElem?_set_self']
        by_cases hl : p.1 < ls.length
        · rw [List.getElem?_eq_getElem hl, List.getElem?_eq_getElem (e ▸ hl)]; rfl
        · rw [List.getElem?_eq_none (by omega), List.getElem?_eq_none (by omega)]
      · exact absurd h q
theorem setMany_out : ∀ {r : List (Nat × V)} {ls : Ls} {i : Nat}, i ∉ r.map (·.1) → (setMany ls r)[i]? = ls[i]?
  | [], _, _, _ => rfl
  | p :: r, ls, i, h => by
    show (setMany (ls.set p.1 (some p.2)) r)[i]? = _
    rw [List.map_cons, List.mem_cons, not_or] at h
    rw [setMany_out h.2, List.getElem?_set_ne (Ne.symm h.1)]
theorem Lm.comp {scope : Scope} {C : Addr} (a : At z n c fx) (ck : CompK fx scope) {is : List Nat} (ti : tgtsOk fx scope is = true) (l : Lm fx z c m Φ ls) {pl : List (Nat × V)} (hp : pl.map (·.1) = is) {H : List (Addr × Obj)} (le : Φ.le Φ')
    (h : Lm (fxC fx scope) z ((c.comp m scope (closeL c.env scope.names []) C).hid H) m' Φ' (setMany (ls.map fun _ => none) pl)) : Lm (fxC fx scope) z ((c.comp m scope (closeL c.env scope.names []) C).hid H) m' Φ' (setMany ls pl) := fun i v x h1 h2 h3 => by
  by_cases hi : i ∈ pl.map (·.1)
  · refine h i v x ?_ h2 h3
    rw [setMany_in hi (ls' := ls) (by simp)]; exact h1
  · rw [setMany_out hi] at h1
    have hx : (fxC fx scope).kinds.lookup x = some .cell := by
      unfold Fx.isVar at h3
      simp only [Bool.or_eq_true, beq_iff_eq] at h3
      rcases h3 with h3 | h3
      · have h2' : fx.names[i]? = some x := h2
        have := List.all_eq_true.mp ti i (List.mem_range.mpr (List.getElem?_eq_some_iff.mp h2').1)
        rw [h2'] at this
        simp only [h3, bne_self_eq_false, Bool.false_or, List.contains_iff_mem] at this
        rw [hp] at hi
        exact absurd this hi
      · exact h3
    obtain ⟨g1, g2⟩ := fxC_cell ck.ncell hx
    refine xEA (l i v x h1 h2 (by unfold Fx.isVar; rw [g2]; rfl)) fun val hr hv => ?_
    refine ⟨val, .inr ?_, hv.mono le⟩
    rcases hr with ⟨k1, _⟩ | ⟨_, ad, o, k2, k3, k4⟩
    · rw [a.kind, g2] at k1; cases k1
    · refine ⟨?_, ad, o, closeL_lookup k2 (.inl g1), List.mem_append_right _ k3, k4⟩
      show (relabel scope c.env).names.lookup x = _
      rw [relabel_names a]; exact hx
end
end Mine
end
noncomputable section
namespace Mine
section
variable {z : Z} {n : Nat} {c c' : Cx} {m m' : Str → Option Value} {fx : Fx} {ls : Ls} {X : AH → Prop} {Φ Φ' : Fz} {σ σ' : AH} {s s' : Shared} {obs : List (Addr × Obj)} {wr : List Addr}
theorem comp_enter (o : c.Ok z n) (IH : InvH z c wr m Φ σ s) (ap : Apart c wr) {scope : Scope} {cl : List (Str × Addr)} {h₁ : Heap} {m0 : Str → Option Value} {t : Nat} {cn : String}
    (hns : h₁.Ns (s.heap.push (listOf #[] 0)).objs.size m0) (hsb : Heap.SameBut (s.heap.push (listOf #[] 0)).objs.size ((s.heap.push (listOf #[] 0)).push { cls := .type cn, data := .dict #[] }) h₁) :
    InvH z ((c.comp m scope cl (s.heap.push (listOf #[] 0)).objs.size).hid [(s.heap.objs.size, listOf #[] 0)]) wr m0 Φ σ { s with heap := h₁, toks := t } ∧ s.heap.objs.size ∉ wr ∧ Apart ((c.comp m scope cl (s.heap.push (listOf #[] 0)).objs.size).hid [(s.heap.objs.size, listOf #[] 0)]) wr ∧
      (∀ p ∈ c.H, p.1 ≠ s.heap.objs.size) ∧ (∀ a ∈ c.L :: c.outs.map (·.1), a ≠ (s.heap.push (listOf #[] 0)).objs.size) ∧ z.h₀.objs.size ≤ (s.heap.push (listOf #[] 0)).objs.size := by
  have hz := sizeH o IH
  revert IH; refine yEAA fun obs e nc I => ?_
  obtain ⟨G, L⟩ := I.led
  have hC : (s.heap.push (listOf #[] 0)).objs.size = s.heap.objs.size + 1 := Heap.size_push ..
  have hD : (s.heap.push (listOf #[] 0)).get? s.heap.objs.size = some (listOf #[] 0) := Heap.get?_push_size _ rfl
  have lt : ∀ a, G a ≠ .free → a < s.heap.objs.size := fun a q => L.lt q
  have ltH : ∀ p ∈ obs ++ c.H, p.1 < s.heap.objs.size := fun p hp => lt _ (by rw [L.hid p hp]; exact Cell.noConfusion)
  have dw : s.heap.objs.size ∉ wr := fun q => by
    rw [← e] at q; refine xEA (List.mem_map.mp q) fun p hp q => ?_
    exact absurd (ltH p (List.mem_append_left _ hp)) (by rw [q]; exact Nat.lt_irrefl _)
  have L₁ := L.put (wr := [s.heap.objs.size]) (h' := s.heap.push (listOf #[] 0)) (c' := { c with H := obs ++ ((s.heap.objs.size, listOf #[] 0) :: c.H) }) (x := fun _ => .hid (listOf #[] 0)) rfl rfl
    (fun a ha => .inl (by rw [List.mem_singleton.mp ha]; exact L.free_of_none (none_of_size (Nat.le_refl _)))) (fun a ha => by rw [List.mem_singleton.mp ha]; exact none_of_size hz)
    (Kp.mono (Kp.of_keeps fun b o e => Heap.get?_push_of_some _ e) fun _ q => nomatch q) (fun a ha => .inr ⟨_, rfl, by rw [List.mem_singleton.mp ha]; exact hD⟩) (fun p hp => by
      rcases List.mem_append.mp hp with hp | hp
      · exact .inr ⟨by simp only [List.mem_singleton]; exact Nat.ne_of_lt (ltH p (List.mem_append_left _ hp)), List.mem_append_left _ hp⟩
      · rcases List.mem_cons.mp hp with rfl | hp
        · exact .inl ⟨.head _, rfl⟩
        · exact .inr ⟨by simp only [List.mem_singleton]; exact Nat.ne_of_lt (ltH p (List.mem_append_right _ hp)), List.mem_append_right _ hp⟩)
  have kp : Kp [] (s.heap.push (listOf #[] 0)) h₁ := Kp.of_keeps fun b o e => hsb.extBut b o (Nat.ne_of_lt (Heap.lt_size e)) (Heap.get?_push_of_some _ e)
  have hzC : z.h₀.objs.size ≤ (s.heap.push (listOf #[] 0)).objs.size := by rw [hC]; omega
  have L₂ := L₁.call (c' := ((c.comp m scope cl (s.heap.push (listOf #[] 0)).objs.size).hid [(s.heap.objs.size, listOf #[] 0)]).hid obs) (h' := h₁) kp hns (Nat.le_refl _) (none_of_size hzC) rfl rfl rfl
  refine ⟨⟨obs, e, nc, I.gens, I.drawn, I.os, fun b x q => kp.nil _ _ (Heap.get?_push_of_some _ (I.base b x q)), _, L₂⟩, dw, fun p hp q => ?_, fun p hp => Nat.ne_of_lt (ltH p (List.mem_append_right _ hp)), fun a ha => ?_, hzC⟩
  · rcases List.mem_append.mp hp with hp | hp
    · rw [List.mem_singleton.mp hp] at q; exact dw q
    · exact ap p hp q
  · have hl : a < s.heap.objs.size := by
      rcases List.mem_cons.mp ha with rfl | ha
      · exact lt _ (by rw [show G c.L = _ from L.cur]; exact Cell.noConfusion)
      · refine xEA (List.mem_map.mp ha) fun p hp u1 => ?_; obtain rfl := u1
        exact lt _ (by rw [L.outs p hp]; exact Cell.noConfusion)
    rw [hC]; exact Nat.ne_of_lt (Nat.lt_succ_of_lt hl)
theorem comp_append {D : Addr} {ws ws' : Array Value} {k k' : Nat} {h' : Heap} {t : Nat} (I : Inv z ((c'.hid [(D, listOf ws k)]).hid obs) m Φ σ s) (e : obs.map (·.1) = wr) (dw : D ∉ wr) (dh : ∀ p ∈ c'.H, p.1 ≠ D) (hs : Heap.SameBut D s.heap h') (hx : h'.get? D = some (listOf ws' k')) :
    Inv z ((c'.hid [(D, listOf ws' k')]).hid obs) m Φ σ { s with heap := h', toks := t } := by
  have hD : ∀ G, Led z ((c'.hid [(D, listOf ws k)]).hid obs) m Φ σ G s.heap → G D = .hid (listOf ws k) := fun G L => L.hid (D, listOf ws k) (List.mem_append_right _ (List.mem_append_left _ (.head _)))
  refine I.hidG (c' := (c'.hid [(D, listOf ws' k')]).hid obs) (t := t) [D] (fun G L a ha => .inr ⟨listOf ws k, by rw [List.mem_singleton.mp ha]; exact hD G L⟩) (fun a ha => ?_) (fun b o hb ex => hs.extBut b o (by simpa using hb) ex) rfl rfl fun p hp => ?_
  · rw [List.mem_singleton.mp ha]
    obtain ⟨G, L⟩ := I.led
    exact L.new _ (by rw [hD G L]; exact Cell.noConfusion)
  · rcases List.mem_append.mp hp with hp | hp
    · refine .inr ⟨fun q => ?_, List.mem_append_left _ hp⟩
      rw [List.mem_singleton] at q
      exact dw (by rw [← e, ← q]; exact List.mem_map_of_mem (f := (·.1)) hp)
    · rcases List.mem_append.mp hp with hp | hp
      · rw [List.mem_singleton.mp hp]; exact .inl ⟨.head _, hx⟩
      · exact .inr ⟨by simp only [List.mem_singleton]; exact dh p hp, List.mem_append_right _ (List.mem_append_right _ hp)⟩
theorem comp_end {scope : Scope} {cl : List (Str × Addr)} {C D : Addr} {ws : Array Value} {k : Nat} {acc : List V} (I : Inv z ((c.comp m scope cl C).hid [(D, listOf ws k)]) m' Φ σ s) (dh : ∀ p ∈ c.H, p.1 ≠ D) (ne : ∀ a ∈ c.L :: c.outs.map (·.1), a ≠ C) (r : Rvs z.K Φ acc ws.toList) (hl : acc.length ≤ 1000000) :
    σ D = none ∧ s.heap.Ns C m' ∧ ∃ o, s.heap.get? C = some o ∧ (∀ v, o.data ≠ .cell v) ∧ Inv z (c.hid [(C, o)]) m Φ (σ.set D (some (.list acc))) s ∧ Apart c [C] := by
  obtain ⟨G, L⟩ := I.led
  have gC : G C = .frm m' := L.cur
  have gD : G D = .hid (listOf ws k) := L.hid (D, listOf ws k) (List.mem_append_left _ (.head _))
  have hCD : C ≠ D := by rintro rfl; rw [gC] at gD; cases gD
  have nsC : s.heap.Ns C m' := by have := L.ok C; rw [gC] at this; exact this
  refine xEEEAA (id nsC) fun o es ep ho hd _ => ?_
  have hDx : s.heap.get? D = some (listOf ws k) := by have := L.ok D; rw [gD] at this; exact this
  have keep : ∀ {b : Addr} {y : Cell}, G b = y → (∀ m, y ≠ .frm m) → (∀ o, y ≠ .hid o) → gset (gset G D (.own (.list acc))) C (.hid o) b = y := fun {b y} e p q => by
    rw [gset_ne, gset_ne]
    · exact e
    · rintro rfl; rw [gD] at e; exact q _ e.symm
    · rintro rfl; rw [gC] at e; exact p _ e.symm
  have keepF : ∀ {b : Addr} {y : Cell}, G b = y → b ≠ C → b ≠ D → gset (gset G D (.own (.list acc))) C (.hid o) b = y := fun {b y} e p q => by
    rw [gset_ne p, gset_ne q]; exact e
  have sD : σ D = none := by
    cases q : σ D with
    | none => rfl
    | some x => have := L.own _ _ q; rw [gD] at this; cases this
  have outs : ∀ p ∈ (c.L, m) :: c.outs, G p.1 = .frm p.2 ∧ p.1 ≠ D := fun p hp => by
    have := L.outs p hp
    exact ⟨this, by rintro q; rw [q, gD] at this; cases this⟩
  refine ⟨sD, nsC, o, ho, fun v => by rw [hd]; exact Data.noConfusion, ?_, fun p hp q => ?_⟩
  · refine ⟨I.gens, I.drawn, I.os, I.base, gset (gset G D (.own (.list acc))) C (.hid o), fun b => ?_, fun b q => ?_, ?_, fun p hp => ?_, fun p hp => ?_, fun b x q => keep (L.fro b x q) (fun _ => Cell.noConfusion) (fun _ => Cell.noConfusion), fun b x q => ?_⟩
    · by_cases q1 : b = C
      · subst q1; rw [gset_self]; exact ho
      · by_cases q2 : b = D
        · subst q2; rw [gset_ne q1, gset_self]; exact ⟨ws, k, hDx, hl, r⟩
        · rw [gset_ne q1, gset_ne q2]
          have q := L.ok b
          cases e4 : G b with
          | free => trivial
          | fro o => rw [e4] at q; exact q
          | hid o => rw [e4] at q; exact q
          | frm m => rw [e4] at q; exact q
          | own o =>
            rw [e4] at q
            cases o with
            | list vs => exact q
            | inst C2 ks2 vs2 => revert q; refine yEEEAAA fun d2 es2 n2 f1 f2 f3 r2 => ?_; exact ⟨d2, es2, n2, f1, f2, keep f3 (fun _ => Cell.noConfusion) (fun _ => Cell.noConfusion), r2⟩
            | dictS ks vs => exact q
            | dictI ks vs => exact q
          | sub b2 => rw [e4] at q; exact q
    · by_cases q1 : b = C
      · rw [q1]; exact L.new _ (by rw [gC]; exact Cell.noConfusion)
      · by_cases q2 : b = D
        · rw [q2]; exact L.new _ (by rw [gD]; exact Cell.noConfusion)
        · rw [gset_ne q1, gset_ne q2] at q; exact L.new _ q
    · exact keepF (outs (c.L, m) (.head _)).1 (ne _ (.head _)) (outs (c.L, m) (.head _)).2
    · exact keepF (outs p (.tail _ hp)).1 (ne _ (.tail _ (List.mem_map_of_mem (f := (·.1)) hp))) (outs p (.tail _ hp)).2
    · rcases List.mem_append.mp hp with hp | hp
      · rw [List.mem_singleton.mp hp]; exact gset_self ..
      · have := L.hid p (List.mem_append_right _ hp)
        exact keepF this (by rintro q; rw [q, gC] at this; cases this) (dh p hp)
    · by_cases q2 : b = D
      · subst q2; rw [AH.set_self] at q; cases q
        rw [gset_ne (Ne.symm hCD), gset_self]
      · rw [AH.set_ne q2] at q
        exact keep (L.own b x q) (fun _ => Cell.noConfusion) (fun _ => Cell.noConfusion) |> fun e => e
  · rw [List.mem_singleton] at q
    have := L.hid p (List.mem_append_right _ hp)
    rw [q, gC] at this; cases this
theorem no_err {e : Value} (x : ERR z c Φ (fun _ => False) e s) : False := by revert x; refine yEEEEEAAA fun _ _ _ _ _ _ _ _ y => ?_; exact y
theorem comp_run (a : At z n c fx) {elt tgt iter : Expr} {scope : Scope} {pos : Pos} {We : Ls → (V → AH → Prop) → AH → Prop} {upd : V → Option (List (Nat × V))} {is : List Nat} (ck : CompK fx scope) (ti : tgtsOk fx scope is = true)
    (hu : ∀ v l, upd v = some l → l.map (·.1) = is) (ha : SA z (fxC fx scope) tgt upd) (he : ∀ c', At z n c' (fxC fx scope) → ∀ m ls, SE z c' m (fxC fx scope) ls (fun _ => False) elt (We ls))
    {it : Addr} {items : List V} {St : Fz → Nat → Heap → Prop} {Q : List V → AH → Prop} (T : Turn z c.A tgt it wr items St) (ap : Apart c wr) (IH : InvH z c wr m Φ σ s) (st : St Φ 0 s.heap) (l : Lm fx z c m Φ ls)
    (q : compN (fun v Q σ => match upd v with | some l => We (setMany ls l) Q σ | none => False) Q items [] σ) {RR : Value → Addr → Result → Shared → Prop} {E : Value → Shared → Prop}
    (hR : ∀ (D C : Addr) (k : Nat) (ws : Array Value) (acc : List V) (Φ' : Fz) (σ' : AH) (m' : Str → Option Value) (s' : Shared), Φ.le Φ' → Rvs z.K Φ' acc ws.toList → Q acc σ' → (∀ p ∈ c.H, p.1 ≠ D) → (∀ a ∈ c.L :: c.outs.map (·.1), a ≠ C) →
      Inv z ((c.comp m scope (closeL c.env scope.names []) C).hid [(D, listOf ws k)]) m' Φ' σ' s' → RR (.ref D) C (.ok .next) s') :
    wpAny (model z.prog z.w) c.A (newList []) (fun acc s₃ => wpAny (model z.prog z.w) c.A (newFunctionEnv scope c.env.globals (closeL c.env scope.names []) [] c.env.qual none .none (some c.env)) (fun cenv s₄ =>
      codeAny (model z.prog z.w) c.A (.compStart (.ListComp elt [⟨tgt, iter, [], 0⟩] scope pos) 0 (.ref it) acc { cenv with scope := relabel scope c.env }) (RR acc cenv.locals) s₄) E s₃) E s := by
  refine wpAny_newObj_type (wpAny_newFunctionEnv ck.ncell (by intro y hy; simp at hy) (fun h₁ hns hsb => ?_) ck.kind)
  dsimp only at hns hsb ⊢
  refine xAAAAA (comp_enter (m := m) (scope := scope) (cl := closeL c.env scope.names []) (t := s.toks + ([] : List (Str × Value)).length) (cn := if (some c.env).isSome then "dict" else "frame") a.o IH ap hns hsb) fun IH₁ dw ap₁ dh ne hz => ?_
  generalize hC : (s.heap.push (listOf #[] 0)).objs.size = C at IH₁ ap₁ ne hz
  have ac := a.comp (m := m) ck ne hz
  have loop : ∀ s₃ : Shared, s₃ = { s with heap := h₁, toks := s.toks + ([] : List (Str × Value)).length } → codeAny (model z.prog z.w) c.A (.compLoop (.ListComp elt [⟨tgt, iter, [], 0⟩] scope pos) 0 (.ref it) (.ref s.heap.objs.size) (compEnvC scope (closeL c.env scope.names []) C c.env)) (RR (.ref s.heap.objs.size) C) s₃ := by
    rintro s₃ rfl
    have st₁ : St Φ 0 h₁ := T.frame Φ Φ 0 s.heap h₁ (Fz.le.refl _) (fun b hb o e => by
      have hlt := Heap.lt_size e
      have hn : b ≠ (s.heap.push (listOf #[] 0)).objs.size := by rw [Heap.size_push]; exact Nat.ne_of_lt (Nat.lt_succ_of_lt hlt)
      exact hsb.extBut b o hn (Heap.get?_push_of_some _ (Heap.get?_push_of_some _ e))) (fun b o e => IH₁.froAt e) st
    refine codeAny_compLoop_any (fun kk s' => ∃ i acc ws k Φ' σ' m', kk = items.length - i ∧ Φ.le Φ' ∧ InvH z ((c.comp m scope (closeL c.env scope.names []) C).hid [(s.heap.objs.size, listOf ws k)]) wr m' Φ' σ' s' ∧ St Φ' i s'.heap ∧ Rvs z.K Φ' acc ws.toList ∧ acc.length = i ∧
      compN (fun v Q σ => match upd v with | some l => We (setMany ls l) Q σ | none => False) Q (items.drop i) acc σ') ?_ items.length ⟨0, [], #[], 0, Φ, σ, _, rfl, Fz.le.refl _, IH₁, st₁, rfl, rfl, q⟩
    rintro kk s' ⟨i, acc, ws, k, Φ₂, σ₂, m₂, rfl, le₂, IH₂, st₂, hacc, hlen, q₂⟩
    have ap₂ : Apart ((c.comp m scope (closeL c.env scope.names []) C).hid [(s.heap.objs.size, listOf ws k)]) wr := fun p hp w => by
      rcases List.mem_append.mp hp with hp | hp
      · rw [List.mem_singleton.mp hp] at w; exact dw w
      · exact ap p hp w
    have oc := ac.o.hid [(s.heap.objs.size, listOf ws k)]
    cases hv : items[i]? with
    | none =>
      have hle : items.length ≤ i := by simpa using hv
      refine T.done n _ m₂ Φ₂ σ₂ s' i oc rfl ap₂ hle IH₂ st₂ _ _ fun s₃ I₃ => ?_
      rw [List.drop_eq_nil_of_le hle] at q₂
      exact hR _ _ _ _ _ _ _ _ _ le₂ hacc q₂ dh ne I₃
    | some v =>
      have hlt : i < items.length := (List.getElem?_eq_some_iff.mp hv).1
      have hd : items.drop i = v :: items.drop (i + 1) := by
        rw [List.drop_eq_getElem_cons hlt, (List.getElem?_eq_some_iff.mp hv).2]
      rw [hd] at q₂
      simp only [compN] at q₂
      cases hup : upd v with
      | none => rw [hup] at q₂; exact q₂.elim
      | some pl =>
      rw [hup] at q₂
      refine wpAny_mono (T.item n _ m₂ Φ₂ σ₂ s' i v oc rfl ap₂ hv IH₂ st₂ ?P _ ?k) (fun r s₃ h₃ => ?c) fun _ _ e => e
      case c =>
        revert h₃; refine yEA fun x u2 h₃ => ?_; obtain rfl := u2
        exact h₃
      intro Φ₃ x s₃ le₃ hx IH₃ st₃
      revert IH₃; refine yEAA fun obs eo nc I₃ => ?_
      have aobs := (ac.hid [(s.heap.objs.size, listOf ws k)]).hid obs
      refine ha n _ aobs v x pl m₂ Φ₃ σ₂ (ls.map fun _ => none) s₃ hup (fun j u y h1 _ _ => ?_) I₃ hx _ _ fun m₄ s₄ l₄ I₄ => ?_
      · rw [List.getElem?_map] at h1
        cases e : ls[j]? with
        | none => rw [e] at h1; cases h1
        | some _ => rw [e] at h1; cases h1
      have l₅ := Lm.comp a ck ti l (hu v pl hup) (H := obs ++ [(s.heap.objs.size, listOf ws k)]) (m' := m₄) (C := C) (le₂.trans le₃) (by
        have : ((c.comp m scope (closeL c.env scope.names []) C).hid [(s.heap.objs.size, listOf ws k)]).hid obs = (c.comp m scope (closeL c.env scope.names []) C).hid (obs ++ [(s.heap.objs.size, listOf ws k)]) := by
          simp only [Cx.hid, List.append_assoc]
        rw [this] at l₄; exact l₄)
      rw [show (c.comp m scope (closeL c.env scope.names []) C).hid (obs ++ [(s.heap.objs.size, listOf ws k)]) = ((c.comp m scope (closeL c.env scope.names []) C).hid [(s.heap.objs.size, listOf ws k)]).hid obs by simp only [Cx.hid, List.append_assoc]] at l₅
      refine wpAny_mono ((he _ aobs m₄ (setMany ls pl)).bind l₅ I₄ q₂ fun Φ₅ u' u σ₅ s₅ le₅ _ hu₅ I₅ q₅ => ?c2) (fun _ _ h => h) fun e s₉ h => (no_err h).elim
      case c2 =>
        have hsz := hacc.length
        rw [Array.length_toList] at hsz
        have gD : s₅.heap.get? s.heap.objs.size = some (listOf ws k) := by
          obtain ⟨G, L⟩ := I₅.led
          have := L.ok s.heap.objs.size
          rw [L.hid (s.heap.objs.size, listOf ws k) (List.mem_append_right _ (List.mem_append_left _ (.head _)))] at this
          exact this
        refine wpAny_list_append_plain ⟨k, gD⟩ (fun h₆ hx₆ hs₆ => ?_) (by rw [hsz, hlen, sizeLine_eq]; have := T.many; omega)
        obtain ⟨k', hx₆⟩ := hx₆
        have I₆ := comp_append (c' := c.comp m scope (closeL c.env scope.names []) C) (t := s₅.toks) I₅ eo dw dh hs₆ hx₆
        refine ⟨items.length - (i + 1), by omega, i + 1, acc ++ [u], ws.push u', k', Φ₅, σ₅, m₄, rfl, (le₂.trans le₃).trans le₅, ⟨obs, eo, nc, I₆⟩, ?_, ?_, by rw [List.length_append, hlen]; rfl, q₅⟩
        · refine T.frame Φ₃ Φ₅ (i + 1) s₃.heap h₆ le₅ (fun b hb o e => ?_) (fun b o e => I₆.froAt (le₅ _ _ e)) st₃
          have e5 := hid_frame I₃ I₅ eo b hb o e
          exact hs₆.extBut b o (fun q => dw (q ▸ hb)) e5
        · rw [Array.toList_push]; exact (hacc.mono (le₃.trans le₅)).append (.one hu₅)
  exact codeAny_compStart_list (loop _ rfl) (T.self Φ 0 _ _ _ (T.frame Φ Φ 0 s.heap h₁ (Fz.le.refl _) (fun b hb o e => by
      have hlt := Heap.lt_size e
      have hn : b ≠ (s.heap.push (listOf #[] 0)).objs.size := by rw [Heap.size_push]; exact Nat.ne_of_lt (Nat.lt_succ_of_lt hlt)
      exact hsb.extBut b o hn (Heap.get?_push_of_some _ (Heap.get?_push_of_some _ e))) (fun b o e => IH₁.froAt e) st) (loop _ rfl))
end
end Mine
end
noncomputable section
namespace Mine
section
variable {z : Z} {n : Nat} {c c' : Cx} {m m' : Str → Option Value} {fx : Fx} {ls : Ls} {X : AH → Prop} {Φ Φ' : Fz} {σ σ' : AH} {s s' : Shared} {obs : List (Addr × Obj)} {wr : List Addr}
abbrev compW (We : Ls → (V → AH → Prop) → AH → Prop) (upd : V → Option (List (Nat × V))) (Wi : Ls → (List V → AH → Prop) → AH → Prop) (ls : Ls) (Q : V → AH → Prop) (σ : AH) : Prop :=
  Wi ls (fun items σ => compN (fun v Q σ => match upd v with | some l => We (setMany ls l) Q σ | none => False) (newL Q) items [] σ) σ
theorem s_comp (a : At z n c fx) {elt tgt iter : Expr} {scope : Scope} {pos : Pos} {We : Ls → (V → AH → Prop) → AH → Prop} {Wi : Ls → (List V → AH → Prop) → AH → Prop} {upd : V → Option (List (Nat × V))} {is : List Nat} (ck : CompK fx scope) (ti : tgtsOk fx scope is = true)
    (hu : ∀ v l, upd v = some l → l.map (·.1) = is) (ha : SA z (fxC fx scope) tgt upd) (he : ∀ c', At z n c' (fxC fx scope) → ∀ m ls, SE z c' m (fxC fx scope) ls (fun _ => False) elt (We ls)) (hs : notSet iter = true) (hi : SI z c fx m ls X tgt iter (Wi ls)) :
    SE z c m fx ls X (.ListComp elt [⟨tgt, iter, [], 0⟩] scope pos) (compW We upd Wi ls) := fun Q Φ σ s l I w => by
  rw [eval_ListComp]
  refine wpAny_comprehension_free (use := none) rfl (fun x => notSet_ok hs _ x) (closureFor_eq fun x hx => a.hc x (ck.free x hx)) ck.kind ck.loc ?_
  refine wpAny_mono (hi _ Φ σ s l I w) (fun xv s₁ h₁ => wpAny_mono h₁ (fun itv s₂ h₂ => ?_) fun _ _ e => e) fun _ _ e => e
  revert h₂; refine yEEEEEEAAAAAA fun it wr items St Φ₁ σ₁ u1 le T ap IH st q => ?_; obtain rfl := u1
  refine comp_run a ck ti hu ha he T ap IH st (l.mono le) q (RR := fun acc C => compPost (model z.prog z.w) c.A _ none _ acc C) fun D C k ws acc Φ' σ' m' s' le' hacc hq dh ne I' => ?_
  refine xAAEAAA (comp_end I' dh ne hacc hq.1) fun sD ns o ho nc I₂ apC => ?_
  refine ⟨m', ns, fun h' hs' => ?_⟩
  have I₃ : Inv z c m Φ' (σ'.set D (some (.list acc))) { s' with heap := h', toks := s'.toks } := InvH.stop ⟨[(C, o)], rfl, fun p hp v => by rw [List.mem_singleton.mp hp]; exact nc v, I₂⟩ apC fun b ob hb e => hs'.extBut b ob (by simpa using hb) e
  exact ⟨Φ', .ref D, _, le.trans le', rfl, I₃, hq.2 D sD⟩
theorem swapsComp (a : At z n c fx) {e : Expr} {scope : Scope} {x : Str} {py : Pos} {l : Nat} (he : ∃ elt gens pos, e = .ListComp elt gens scope pos) (hk : fx.kinds.lookup x = some .local) (hl : py.line = e.pos.line)
    (hn : (scope.names.any fun p => p.1 == x && (p.2 == .local || p.2 == .cell)) = false) : swapsWith e (some (.Name x py)) l c.env = pure true := by
  revert he; refine yEEE fun elt gens pos u2 => ?_; obtain rfl := u2
  have bk : c.env.blockKind = .function := by unfold Env.blockKind; rw [a.o.ek]; rfl
  unfold swapsWith
  simp only [bk, a.kind, hk, hl, beq_self_eq_true, Bool.true_and]
  erw [hn]
  rfl
theorem s_setComp (a : At z n c fx) {elt tgt iter : Expr} {scope : Scope} {pos py spos : Pos} {y : Str} {i : Nat} {We : Ls → (V → AH → Prop) → AH → Prop} {Wi : Ls → (List V → AH → Prop) → AH → Prop} {upd : V → Option (List (Nat × V))} {is : List Nat} (ck : CompK fx scope) (ti : tgtsOk fx scope is = true)
    (hu : ∀ v l, upd v = some l → l.map (·.1) = is) (ha : SA z (fxC fx scope) tgt upd) (he : ∀ c', At z n c' (fxC fx scope) → ∀ m ls, SE z c' m (fxC fx scope) ls (fun _ => False) elt (We ls)) (hs : notSet iter = true) (hi : ∀ m ls, SI z c fx m ls X tgt iter (Wi ls))
    (nd : fx.names.Nodup) (hx : fx.names[i]? = some y) (hk : fx.kinds.lookup y = some .local) (hl : py.line = pos.line) (hn : (scope.names.any fun p => p.1 == y && (p.2 == .local || p.2 == .cell)) = false) :
    SS z c fx X (.Assign [.Name y py] (.ListComp elt [⟨tgt, iter, [], 0⟩] scope pos) spos) (fun _ N ls σ => compW We upd Wi ls (fun v σ => N (ls.set i (some v)) σ) σ) := fun R N Φ σ m ls s l I w => by
  rw [exec_Assign_Name_used _ _ _ _ (swapsComp a ⟨_, _, _, rfl⟩ hk hl hn)]
  refine wpAny_bind (wpAny_standAt (wpAny_bind ?_))
  show wpAny _ c.A (do let _ ← comprehension (.ListComp elt [⟨tgt, iter, [], 0⟩] scope pos) scope c.env _ (newList []) false (eval iter c.env) (some (assign (.Name y py) c.env))) _ _ s
  refine wpAny_bind (wpAny_mono (wpAny_comprehension_free (use := some (assign (.Name y py) c.env)) (Q := fun _ s' => FL z c fx Φ R N .next s') rfl (fun x => notSet_ok hs _ x) (closureFor_eq fun x hx => a.hc x (ck.free x hx)) ck.kind ck.loc
    (wpAny_mono (hi m ls _ Φ σ s l I w) (fun xv s₁ h₁ => wpAny_mono h₁ (fun itv s₂ h₂ => ?_) fun _ _ e => e) fun _ _ e => e)) (fun _ s' hq => wpAny_pure (wpAny_pure hq)) fun _ _ e => e)
  revert h₂; refine yEEEEEEAAAAAA fun it wr items St Φ₁ σ₁ u3 le T ap IH st q => ?_; obtain rfl := u3
  refine comp_run a ck ti hu ha he T ap IH st (l.mono le) q (RR := fun acc C => compPost (model z.prog z.w) c.A _ (some (assign (.Name y py) c.env)) _ acc C) fun D C k ws acc Φ' σ' m' s' le' hacc hq dh ne I' => ?_
  refine xAAEAAA (comp_end I' dh ne hacc hq.1) fun sD ns o ho nc I₂ apC => ?_
  have nC : NoCell [(C, o)] := fun p hp v => by rw [List.mem_singleton.mp hp]; exact nc v
  show wpAny _ c.A (assign (.Name y py) c.env (.ref D)) _ _ _
  refine wpAny_assign_Name (store_ok (a.hid [(C, o)]) nd hx hk ((l.mono (le.trans le')).hid [(C, o)]) I₂ (v := .ref D) rfl fun s'' l'' I'' => ?_)
  have hC'' : s''.heap.get? C = some o := I''.hidAt (p := (C, o)) (.head _)
  revert ns; refine yEEEA fun o2 es ep e1 e2 => ?_
  rw [ho] at e1; cases e1
  refine ⟨m', ⟨o, es, ep, hC'', e2⟩, fun h' hs' => ?_⟩
  have I₃ : Inv z c (frmSet m y (.ref D)) Φ' (σ'.set D (some (.list acc))) { s'' with heap := h', toks := s''.toks } := InvH.stop ⟨[(C, o)], rfl, nC, I''⟩ apC fun b ob hb e => hs'.extBut b ob (by simpa using hb) e
  exact FL.up (le.trans le') (FL.now (l''.unhid nC) I₃ (hq.2 D sD))
theorem bt2 {T : String} {x y : Expr} {pos : Pos} {W1 W2 : (V → AH → Prop) → AH → Prop} {Q : V → V → AH → Prop} {P : Value → Shared → Prop} (h1 : SE z c m fx ls X x W1) (h2 : SE z c m fx ls X y W2) (hx : ∀ e p, x ≠ .Starred e p) (hy : ∀ e p, y ≠ .Starred e p)
    (l : Lm fx z c m Φ ls) (I : Inv z c m Φ σ s) (w : W1 (fun u σ => W2 (Q u) σ) σ)
    (k : ∀ (Φ' : Fz) (u' v' : Value) (u v : V) (σ' : AH) (s' : Shared), Φ.le Φ' → Lm fx z c m Φ' ls → Rv z.K Φ' u u' → Rv z.K Φ' v v' → Inv z c m Φ' σ' s' → Q u v σ' → wpAny (model z.prog z.w) c.A (call (.type T) [u', v']) P (ERR z c Φ X) s') :
    wpAny (model z.prog z.w) c.A (callWith pos (.type T) [] (backTo pos (starEach [x, y] c.env)) (backToKw pos (keywordEach [] c.env))) P (ERR z c Φ X) s := by
  rw [starEach_two hx hy]
  exact PySem.callWith_type rfl (evalArgs_any rfl (Calls.spliced_cons (h1.bind l I w fun Φ₁ u' u σ₁ s₁ le l₁ hu I₁ q => err_up le (Calls.spliced_cons (h2.bind l₁ I₁ q fun Φ₂ v' v σ₂ s₂ le₂ l₂ hv I₂ q₂ =>
    Calls.spliced_nil (err_up' le (k Φ₂ u' v' u v σ₂ s₂ (le.trans le₂) l₂ (hu.mono le₂) hv I₂ q₂)))))))
theorem zipV_get : ∀ {us vs : List V} {i : Nat} {v : V}, (zipV us vs)[i]? = some v → ∃ u w, us[i]? = some u ∧ vs[i]? = some w ∧ v = .tup [u, w]
  | [], _, i, v, h => by simp [zipV] at h
  | _ :: _, [], i, v, h => by simp [zipV] at h
  | u :: r, w :: t, 0, v, h => by simp [zipV] at h; subst h; exact ⟨u, w, rfl, rfl, rfl⟩
  | u :: r, w :: t, i + 1, v, h => by
    refine xEEAA (zipV_get (us := r) (vs := t) (i := i) (v := v) (by simpa [zipV] using h)) fun x y h1 h2 h3 => ?_
    exact ⟨x, y, by simpa using h1, by simpa using h2, h3⟩
theorem zipV_length : ∀ {us vs : List V}, (zipV us vs).length = min us.length vs.length
  | [], _ => by simp [zipV]
  | _ :: _, [] => by simp [zipV]
  | _ :: r, _ :: t => by simp [zipV, zipV_length (us := r) (vs := t)]
@[elab_as_elim] theorem mem5 {P : Addr → Prop} {a1 a2 a3 a4 a5 b : Addr} (h : b ∈ [a1, a2, a3, a4, a5]) (p1 : P a1) (p2 : P a2) (p3 : P a3) (p4 : P a4) (p5 : P a5) : P b := by
  simp only [List.mem_cons, List.not_mem_nil, or_false] at h
  rcases h with rfl | rfl | rfl | rfl | rfl
  · exact p1
  · exact p2
  · exact p3
  · exact p4
  · exact p5
structure ZSt (K : Frag) (zz TI TO i1 i2 l1 l2 : Addr) (ws1 ws2 : Array Value) (k1 k2 : Nat) (us vs : List V) (Φ : Fz) (i : Nat) (h : Heap) : Prop where
  a1 : Φ l1 = some (listOf ws1 k1)
  a2 : Rvs K Φ us ws1.toList
  a3 : Φ l2 = some (listOf ws2 k2)
  a4 : Rvs K Φ vs ws2.toList
  a5 : IsZip h zz TI TO .none
  a6 : IsPair h TI (.ref i1) (.ref i2)
  a7 : ∃ a b, IsPair h TO a b
  a8 : h.IsListIter i1 l1 i
  a9 : h.IsListIter i2 l2 i
  a10 : h.get? l1 = some (listOf ws1 k1)
  a11 : h.get? l2 = some (listOf ws2 k2)
theorem turn_zip {zz TI TO i1 i2 l1 l2 : Addr} {ws1 ws2 : Array Value} {k1 k2 : Nat} {us vs : List V} {A : Around} {elts : List Expr} {kk : Nat} {pos : Pos} (D : ZipApart zz TI TO i1 i2 l1 l2) (hl1 : l1 ≠ TI) (hl2 : l2 ≠ TI) (hm : us.length ≤ 1000000) :
    Turn z A (.Tuple elts kk pos) zz [zz, TI, TO, i1, i2] (zipV us vs) (ZSt z.K zz TI TO i1 i2 l1 l2 ws1 ws2 k1 k2 us vs) where
  many := by rw [zipV_length]; omega
  frame := fun Φ Φ' i h h' le hw hf S => ⟨le _ _ S.a1, S.a2.mono le, le _ _ S.a3, S.a4.mono le, hw zz (by simp) _ S.a5, hw TI (by simp) _ S.a6, xEE S.a7 fun x y a7 => ⟨x, y, hw TO (by simp) _ a7⟩, S.a8.at fun o e => hw i1 (by simp) o e, S.a9.at fun o e => hw i2 (by simp) o e, hf _ _ S.a1, hf _ _ S.a3⟩
  ex := fun Φ i h S a ha => by
    refine xEE S.a7 fun x y a7 => xEAA (id S.a8) fun o e1 e2 e3 => xEAA (id S.a9) fun o' e1' e2' e3' => ?_
    refine mem5 ha ?_ ?_ ?_ ?_ ?_
    · exact ⟨_, S.a5, fun v => Data.noConfusion⟩
    · exact ⟨_, S.a6, fun v => Data.noConfusion⟩
    · exact ⟨_, a7, fun v => Data.noConfusion⟩
    · exact ⟨o, e1, fun v => by rw [e3]; exact Data.noConfusion⟩
    · exact ⟨o', e1', fun v => by rw [e3']; exact Data.noConfusion⟩
  item := fun n c m Φ σ s i v o eA ap hv IH S P E kf => by
    subst eA
    refine xEE S.a7 fun x y a7 => ?_
    have a10 := S.a10
    have a11 := S.a11
    refine xEEAA (zipV_get hv) fun u w hu hw u4 => ?_; obtain rfl := u4
    refine xEA (S.a2.get i u hu) fun xu hxu hru => ?_
    refine xEA (S.a4.get i w hw) fun xw hxw hrw => ?_
    refine wpAny_pyNext_zip_item D S.a5 S.a6 a7 S.a8 S.a9 ⟨_, a10, rfl, _, rfl⟩ ⟨_, a11, rfl, _, rfl⟩ (x := xu) (y := xw) (by simpa using hxu) (by simpa using hxw) fun h' b1 b2 b3 b4 b5 b6 b7 => ⟨_, rfl, ?_⟩
    have b8 : IsPair h' TI (.ref i1) (.ref i2) := b7 _ _ D.TIz D.TITO D.TIi1 D.TIi2 S.a6
    refine xEAA (id b3) fun oi oi1 oi2 oi3 => ?_
    refine xEAA (id b4) fun oj oj1 oj2 oj3 => ?_
    obtain ⟨Φ₁, le, eT, IH₁⟩ := IH.stepNew (t := s.toks) (h' := h') (T := s.heap.objs.size) (sizeH o IH) ap (fun b o hb e => b7 b o (fun q => hb (by simp [q])) (fun q => hb (by simp [q])) (fun q => hb (by simp [q])) (fun q => hb (by simp [q])) e) (fun b hb => by
      refine mem5 hb ?_ ?_ ?_ ?_ ?_
      · exact ⟨_, b1, fun v => Data.noConfusion⟩
      · exact ⟨_, b8, fun v => Data.noConfusion⟩
      · exact ⟨_, b2, fun v => Data.noConfusion⟩
      · exact ⟨oi, oi1, fun v => by rw [oi3]; exact Data.noConfusion⟩
      · exact ⟨oj, oj1, fun v => by rw [oj3]; exact Data.noConfusion⟩) (Nat.le_refl _) b5
    refine wpAny_letOwnedTupleGo_zip b1 fun h₂ c1 c2 => ?_
    replace c2 : Heap.SameBut zz h' h₂ := c2
    have d2 := c2.extBut _ _ D.TOz b2
    have d8 := c2.extBut _ _ D.TIz b8
    have d3 : h₂.IsListIter i1 l1 (i + 1) := b3.extBut c2.extBut D.i1z
    have d4 : h₂.IsListIter i2 l2 (i + 1) := b4.extBut c2.extBut D.i2z
    refine xEAA (id d3) fun pi pi1 pi2 pi3 => ?_
    refine xEAA (id d4) fun pj pj1 pj2 pj3 => ?_
    have IH₂ := IH₁.step (t := s.toks) (h' := h₂) ap (fun b o hb e => c2.extBut b o (fun q => hb (by simp [q])) e) (fun b hb => by
      refine mem5 hb ?_ ?_ ?_ ?_ ?_
      · exact ⟨_, c1, fun v => Data.noConfusion⟩
      · exact ⟨_, d8, fun v => Data.noConfusion⟩
      · exact ⟨_, d2, fun v => Data.noConfusion⟩
      · exact ⟨pi, pi1, fun v => by rw [pi3]; exact Data.noConfusion⟩
      · exact ⟨pj, pj1, fun v => by rw [pj3]; exact Data.noConfusion⟩)
    refine kf Φ₁ _ _ le ⟨_, #[xu, xw], 0, rfl, eT, by simp, ?_⟩ IH₂ ⟨le _ _ S.a1, S.a2.mono le, le _ _ S.a3, S.a4.mono le, c1, d8, ⟨_, _, d2⟩, d3, d4, ?_, ?_⟩
    · exact ⟨_, _, rfl, hru.mono le, _, _, rfl, hrw.mono le, rfl⟩
    · exact c2.extBut _ _ D.l1z (b7 _ _ D.l1z D.l1TO D.l1i1 D.l1i2 a10)
    · exact c2.extBut _ _ D.l2z (b7 _ _ D.l2z D.l2TO D.l2i1 D.l2i2 a11)
  done := fun n c m Φ σ s i o eA ap hlen IH S Q E kf => by
    refine xEE S.a7 fun x y a7 => ?_
    have a10 := S.a10
    have a11 := S.a11
    subst eA
    have hsz1 := S.a2.length
    have hsz2 := S.a4.length
    rw [zipV_length] at hlen
    refine wpAny_pyNext_zip_end o.hd D S.a5 S.a6 a7 S.a8 S.a9 ⟨_, a10, rfl, _, rfl⟩ ⟨_, a11, rfl, _, rfl⟩ ?_ fun h' he' => kf _ (IH.stop ap fun b o hb e => he' b o (fun q => hb (by simp [q])) (fun q => hb (by simp [q])) (fun q => hb (by simp [q])) (fun q => hb (by simp [q])) e)
    simp only [Array.length_toList] at hsz1 hsz2
    rcases Nat.le_total us.length vs.length with h | h
    · exact .inl (by simp; omega)
    · exact .inr (by simp; omega)
  self := fun Φ i s Q E S hQ => wpAny_pyIter_zip S.a5 hQ
theorem si_zip (a : At z n c fx) {elts : List Expr} {kk : Nat} {pos p pos' : Pos} {x y : Expr} {W1 W2 : (V → AH → Prop) → AH → Prop} (h1 : SE z c m fx ls X x W1) (h2 : SE z c m fx ls X y W2) (hx : ∀ e p, x ≠ .Starred e p) (hy : ∀ e p, y ≠ .Starred e p) (b : Bi z.K fx "zip" (.type "zip")) :
    SI z c fx m ls X (.Tuple elts kk pos) (.Call (.Name "zip" p) [x, y] [] pos') (fun Q σ => W1 (fun u σ => W2 (fun v σ => match u, v with
    | .lst us, .lst vs => Q (zipV us vs) σ
    | _, _ => False) σ) σ) := fun Q Φ σ s l I w => by
  rw [call_name]
  refine wpAny_bind (b.here a I (bt2 h1 h2 hx hy l I w fun Φ₁ u' v' u v σ₁ s₁ le l₁ hu hv I₁ q => ?_))
  · refine eLL q fun us vs ru rv q => ?_
    subst ru rv
    revert hu; refine yEEEAAA fun ad1 ws1 k1 u5 f1 f2 f3 => ?_; obtain rfl := u5
    revert hv; refine yEEEAAA fun ad2 ws2 k2 u6 g1 g2 g3 => ?_; obtain rfl := u6
    have e1 := I₁.froAt f1
    have e2 := I₁.froAt g1
    have lt1 := Heap.lt_size e1
    have lt2 := Heap.lt_size e2
    refine call_zip_2 ⟨_, e1, rfl, _, rfl⟩ ⟨_, e2, rfl, _, rfl⟩ fun h' b1 b2 b3 b4 b5 b6 b7 => wpAny_pyIter_zip b1 ?_
    refine xEAA (id b4) fun oi oi1 oi2 oi3 => ?_
    refine xEAA (id b5) fun oj oj1 oj2 oj3 => ?_
    have stt := InvH.start (wr := [s₁.heap.objs.size + 4, s₁.heap.objs.size + 2, s₁.heap.objs.size + 3, s₁.heap.objs.size, s₁.heap.objs.size + 1]) (t := s₁.toks) (h' := h') a.o I₁ (fun b hb => by
      simp only [List.mem_cons, List.not_mem_nil, or_false] at hb
      rcases hb with rfl | rfl | rfl | rfl | rfl <;> first | exact Nat.le_refl _ | exact Nat.le_add_right _ _) (Kp.of_keeps b7) (fun b hb => by
      simp only [List.mem_cons, List.not_mem_nil, or_false] at hb
      rcases hb with rfl | rfl | rfl | rfl | rfl
      · exact ⟨_, b1, fun v => Data.noConfusion⟩
      · exact ⟨_, b2, fun v => Data.noConfusion⟩
      · exact ⟨_, b3, fun v => Data.noConfusion⟩
      · exact ⟨oi, oi1, fun v => by rw [oi3]; exact Data.noConfusion⟩
      · exact ⟨oj, oj1, fun v => by rw [oj3]; exact Data.noConfusion⟩)
    have lts : ∀ {b : Addr} (k : Nat), b < s₁.heap.objs.size → b ≠ s₁.heap.objs.size + k := fun k h q => by rw [q] at h; exact absurd h (Nat.not_lt.mpr (Nat.le_add_right _ _))
    have D : ZipApart (s₁.heap.objs.size + 4) (s₁.heap.objs.size + 2) (s₁.heap.objs.size + 3) s₁.heap.objs.size (s₁.heap.objs.size + 1) ad1 ad2 := by
      refine ⟨?_, ?_, ?_, ?_, ?_, ?_, ?_, ?_, ?_, ?_, lts 4 lt1, lts 3 lt1, lts 0 lt1, lts 1 lt1, lts 4 lt2, lts 3 lt2, lts 0 lt2, lts 1 lt2⟩ <;> (intro q; have q : (_ : Nat) = _ := q; omega)
    exact ⟨_, _, _, _, Φ₁, σ₁, rfl, le, turn_zip (ws1 := ws1) (ws2 := ws2) (k1 := k1) (k2 := k2) (us := us) (vs := vs) D (lts 2 lt1) (lts 2 lt2) f2, stt.2, stt.1, ⟨f1, f3, g1, g3, b1, b2, ⟨_, _, b3⟩, b4, b5, b7 _ _ e1, b7 _ _ e2⟩, q⟩
end
end Mine
end
noncomputable section
set_option maxHeartbeats 1000000
namespace Mine
abbrev excObj (C t : Addr) (dd : Option Addr) : Obj := { cls := .ref C, dict := dd, data := .fields #[.ref t, .none, .none, .none, .bool false, .none] }
abbrev tup0 (rest : List Value) : Obj := { cls := .type "tuple", data := .seq rest.toArray }
section
variable {M : Model} {A : Around} {E : Value → Shared → Prop} {h : Heap} {g : Array GenState} {d : Drawn} {t : Nat} {os : OsState}
variable {nm q : Str} {C N : Addr} {bs bm : List Value} {hdct : Bool} {sn : List Str} {sub : List Value} {ab : Bool} {col : Option Bool} {dd : Option Addr} {k0 k1 k2 k3 k5 : Option Value}
theorem exc_check_new (hcont : (Value.ref C :: bm).contains (.type "Exception") = true) {rest : List Value} {Q : Unit → Shared → Prop} (hC : h.get? C = some (excClassObj nm q C N bs bm hdct sn sub ab col dd k0 k1 k2 k3 k5 "Exception.__new__"))
    (hq : Q () ⟨h, g, d, t, os⟩) : wpAny M A (checkBuiltinCall "Exception.__new__" ⟨.ref C :: rest, []⟩) Q E ⟨h, g, d, t, os⟩ := by
  have Fn := F.excBase_Exception
  have hstar := Fn.noStar
  simp only [checkBuiltinCall, Fn.newKind, Fn.newSplit, Fn.newRow]
  repeat (first | refine wpAny_loadPart_at hC ?_ | (refine wpAny_isSubtype_exc hC ?_; rw [hcont]) | refine wpAny_staticBase_exc hC ?_ | refine wpAny_madeBy_exc hC ?_ | simp only [bne_self_eq_false, Bool.false_eq_true, if_false] | wp_step)
  exact hq
end
section
variable {prog : Program} {w : World} {A : Around} {R : Result → Shared → Prop} {h : Heap} {g : Array GenState} {d : Drawn} {t : Nat} {os : OsState}
variable {nm q : Str} {C N : Addr} {bs bm : List Value} {hdct : Bool} {sn : List Str} {sub : List Value} {ab : Bool} {col : Option Bool} {dd : Option Addr} {k0 k1 k2 k3 k5 : Option Value}
theorem exc_new (hcB : (Value.ref C :: bm).contains (.type "Exception") = true) (hcA : (Value.ref C :: bm).contains (.type "AttributeError") = false) (hcN : (Value.ref C :: bm).contains (.type "NameError") = false) {rest : List Value} (hC : h.get? C = some (excClassObj nm q C N bs bm hdct sn sub ab col dd k0 k1 k2 k3 k5 "Exception.__new__"))
    (hq : R (.ok (.ret (.ref (h.objs.size + 1)))) ⟨(h.push (tup0 rest)).push (excObj C h.objs.size none), g, d, t, os⟩) (hrest : rest.length ≤ sizeLine) :
    codeAny (model prog w) A (.builtin "Exception.__new__" ⟨.ref C :: rest, []⟩) R ⟨h, g, d, t, os⟩ := by
  have Fn := F.excBase_Exception
  have hends := Fn.ends
  refine PySem.codeAny_builtinAt Fn.entry ?_
  unfold Builtin.«BaseException.__new__»
  refine PySem.wpAt_bind ?_
  show PySem.wpAt _ _ _ (stack >>= _) _ _ _
  refine PySem.wpAt_bind (PySem.wpAt_stack fun p below => PySem.wpAt_of_wpAny ?_)
  wp_walk
  refine PySem.wpAt_of_wpAny ?_
  rw [Fn.owner]
  repeat (first | with_reducible refine wpAny_madeHere_exc Fn.canon hC ?_ | with_reducible refine wpAny_loadPart_at hC ?_ | (with_reducible refine wpAny_isSubtype_exc hC ?_; first | rw [hcB] | rw [hcA] | rw [hcN]) | wp_step)
  show R _ _
  rw [Heap.size_push]
  exact hq
theorem exc_call (hcB : (Value.ref C :: bm).contains (.type "Exception") = true) (hcA : (Value.ref C :: bm).contains (.type "AttributeError") = false) (hcN : (Value.ref C :: bm).contains (.type "NameError") = false) {rest : List Value} {init : Value} (hC : h.get? C = some (excClassObj nm q C N bs bm hdct sn sub ab col dd k0 k1 k2 k3 k5 "Exception.__new__"))
    (hi : Looks (model prog w) h (typeLookup (.ref C) "__init__") (some init)) (hb : ∀ self, Looks (model prog w) h (bindSpecial init self) (init, [self])) (hrest : rest.length ≤ sizeLine)
    (hq : codeAny (model prog w) (A.under (.builtin "type.__call__" ⟨.ref C :: rest, []⟩)) (.call init ⟨.ref (h.objs.size + 1) :: rest, []⟩) (InitBack (h.objs.size + 1) R) ⟨(h.push (tup0 rest)).push (excObj C h.objs.size none), g, d, t, os⟩) :
    codeAny (model prog w) A (.call (.ref C) ⟨rest, []⟩) R ⟨h, g, d, t, os⟩ := by
  have Fn := F.excBase_Exception
  have f1 := tc_lookup
  have f2 := tc_bind (.ref C)
  have hT : (⟨h, g, d, t, os⟩ : Shared).TypeIs (.ref C) "type" := ⟨_, hC, rfl⟩
  refine codeAny_of_tree ?_
  show wpAny _ _ (callAny (.ref C) _) _ _ _
  repeat (any_goals (first | assumption | with_reducible refine wpAny_loadPart_at hC ?_ | wp_step))
  refine ⟨rfl, ?_⟩
  refine codeAny_call_builtin_at (Code.quiet_builtin _ (by decide +kernel)) entry_typeCall (wpAny_check_type_call_sub hC ?_)
  repeat (first | with_reducible refine wpAny_loadPart_at hC ?_ | with_reducible refine wpAny_madeBy_exc hC ?_ | wp_step)
  refine codeAny_call_builtin_code (Code.quiet_builtin _ Fn.quiet) (exc_check_new hcB hC ?_)
  refine exc_new hcB hcA hcN hC ?_ hrest
  show wpAny _ _ _ _ _ _
  have k : ∀ b o, h.get? b = some o → ((h.push (tup0 rest)).push (excObj C h.objs.size none)).get? b = some o := fun b o e => Heap.get?_push_of_some _ (Heap.get?_push_of_some _ e)
  have hC₁ := k _ _ hC
  have hget : ((h.push (tup0 rest)).push (excObj C h.objs.size none)).get? (h.objs.size + 1) = some { cls := .ref C, data := .fields #[.ref h.objs.size, .none, .none, .none, .bool false, .none] } := by heap_get
  have hcC : (Value.ref C :: bm).contains (.ref C) = true := by simp
  unfold isInstance
  repeat (first | with_reducible refine wpAny_loadPart_at hget ?_ | wp_step)
  show wpAny _ _ (isSubtype (.ref C) (.ref C)) _ _ _
  refine wpAny_isSubtype_exc hC₁ ?_
  rw [hcC]
  repeat (first | with_reducible refine wpAny_loadPart_at hget ?_ | wp_step)
  show wpAny _ _ (typeLookup (.ref C) _) _ _ _
  refine (hi.keeps k).here ?_
  refine wpAny_holding (wpAny_bind (((hb _).keeps k).here ?_))
  refine wpAny_bind (wpAny_call (codeAny_mono hq fun r s' z => ?_))
  rcases r with e | (v | _ | _ | _) <;> first | exact z | exact z.elim | skip
  obtain ⟨rfl, z⟩ := z
  exact wpAny_pure (wpAny_pure z)
end
end Mine
end
noncomputable section
open PySem PySem.W PySem.Calls PyProof.Rows Builtin Builtin.ObjectAttr
set_option maxHeartbeats 1000000
namespace Mine
theorem refuse_exc (self : Value) (C D : Addr) : refuseLoop self "__setattr__" [.ref C, .ref D, .type "Exception", .type "BaseException", .type "object"] = pure () := by
  rw [refuseLoop_ref, refuseLoop_ref]; kernel_rfl
noncomputable def excMro (K : Frag) (C : Addr) : Bool := (clsIn K C).any fun cd => cd.hasDict && cd.mro == [.ref C, .ref 206, .type "Exception", .type "BaseException", .type "object"]
section
variable {prog : Program} {w : World} {A : Around} {E : Value → Shared → Prop} {K : Frag} {C e : Addr} {s : Shared} {R : Result → Shared → Prop}
noncomputable def ExcD (h : Heap) : Option Addr → Prop
  | none => True
  | some d => ∃ es n, h.get? d = some (dictOf es n) ∧ es.length ≤ 20 ∧ ∀ x ∈ es, x.refKey = false
theorem putL_keys {name : Str} {hsh : Int} {tk : Tok} {v : Value} : ∀ {es : List DictEntry}, (∀ x ∈ es, x.refKey = false) → ∀ x ∈ putL name hsh (.str name tk) v es, x.refKey = false
  | [], _, x, hx => by
    rw [show putL name hsh (.str name tk) v [] = [⟨hsh, .str name tk, v⟩] from rfl, List.mem_singleton] at hx
    subst hx; rfl
  | e :: r, h, x, hx => by
    unfold putL at hx
    split at hx
    · rcases List.mem_cons.mp hx with rfl | hx
      · have := h e (.head _); exact this
      · exact h x (.tail _ hx)
    · rcases List.mem_cons.mp hx with rfl | hx
      · exact h x (.head _)
      · exact putL_keys (fun y hy => h y (.tail _ hy)) x hx
theorem exc_store {d : Addr} {es : List DictEntry} {n : Nat} {name : Str} {tk : Tok} {v : Value} {Q : PySem.Fin → Shared → Prop} (D : s.heap.get? d = some (dictOf es n)) (hl : es.length ≤ 900) (hk : ∀ x ∈ es, x.refKey = false)
    (h : ∀ h' n' hsh, Heap.SameBut d s.heap h' → h'.get? d = some (dictOf (putL name hsh (.str name s.toks) v es) n') → Q (.done (.ret .none)) { s with heap := h', toks := s.toks + 1 }) :
    wpAny (model prog w) A (storeInDict d (.str name tk) name v) Q E s := by
  unfold storeInDict
  refine wpAny_bind (wpAny_pure (wpAny_bind ?_))
  unfold nsSet
  refine wpAny_bind (wpAny_bind (wpAny_askSetting (wpAny_pure (wpAny_bind (wpAny_mkText (wpAny_bind (wpAny_loadPart D ?_)))))))
  dsimp only
  have c : (!es.toArray.any (·.key.isStr name) && es.toArray.any (·.refKey)) = false := by
    have : es.toArray.any (·.refKey) = false := by
      rw [← Array.any_toList]
      rw [Bool.eq_false_iff]
      intro q
      refine xEA (List.any_eq_true.mp q) fun x hx hr => ?_
      rw [hk x (by simpa using hx)] at hr; cases hr
    rw [this, Bool.and_false]
  rw [aRefKeyMayBeTheName_at, c]
  refine wpAny_updatePart D ?_
  have e1 : (s.heap.update d (Obj.putName name (PyData.keyHash w.params name) (.str name s.toks) v)).get? d = some (dictOf (putL name (PyData.keyHash w.params name) (.str name s.toks) v es) (putN name es n)) := by
    rw [Heap.get?_update_self _ D (by rw [putName_dict]; rfl), putName_dict]
  refine wpAny_bind (wpAny_lookBehind e1 (pastItsLine_dict (by have := putL_length (nm := name) (hsh := PyData.keyHash w.params name) (key := .str name s.toks) (v := v) (es := es); rw [List.size_toArray, sizeLine_eq]; omega)) ?_)
  exact wpAny_pure (h _ _ _ (Heap.SameBut.update ..) e1)
theorem exc_osa {name : Str} {tk : Tok} {v : Value} {t : Addr} {dd : Option Addr} (X : K.In s.heap) (hx : s.heap.get? e = some (excObj C t dd)) (hd : ExcD s.heap dd) (hne : dd ≠ some e)
    (ht : takerIn K C name = some none) (hm : excMro K C = true) (hroom : ∀ d es n, dd = some d → s.heap.get? d = some (dictOf es n) → es.length ≤ 15)
    (h : ∀ h' d es n, (∀ b o, b ≠ e → some b ≠ dd → s.heap.get? b = some o → h'.get? b = some o) → (dd = some d ∨ dd = none ∧ d = s.heap.objs.size) → h'.get? e = some (excObj C t (some d)) →
      h'.get? d = some (dictOf es n) → (∀ x ∈ es, x.refKey = false) → (∀ es₀ n₀, dd = some d → s.heap.get? d = some (dictOf es₀ n₀) → es.length ≤ es₀.length + 1) → (dd = none → es.length ≤ 1) → R (.ok (.ret .none)) { s with heap := h', toks := s.toks + 1 }) :
    codeAny (model prog w) A (.call (.builtin "object.__setattr__") ⟨[.ref e, .str name tk, v], []⟩) R s := by
  refine xEA (any_some hm) fun cd hc hm => ?_
  simp only [Bool.and_eq_true, beq_iff_eq] at hm
  obtain ⟨hdict, hmro⟩ := hm
  have I : InstAt s.heap e (excObj C t dd) C (dd.bind s.heap.get?) := ⟨hx, rfl, rfl, by
    cases dd with
    | none => trivial
    | some d => revert hd; refine yEEA fun es n q _ => ?_; simp only [Option.bind_some, q]⟩
  have SF := PySem.F.store_object
  have sub : Looks (model prog w) s.heap (isInstance (.ref e) (.type "object")) true := I.type.andThen (looks_mroIn X (by unfold mroIn; rw [hc, Option.bind_some, hmro]; rfl))
  refine codeAny_call_builtin SF.slot.plain SF.entry (@check_slot (model prog w) _ _ _ "object.__setattr__" "object" "__setattr__" (.ref e) [.str name tk, v] [] _ SF.kind SF.split sub (SF.args (.ref e) (.str name tk) v) ?_)
  refine xEA (Option.bind_eq_some_iff.mp ht) fun attr ha hr => ?_
  have hmm : Looks (model prog w) s.heap (mroOf (.ref C)) cd.mro := (looks_clsIn X hc).andThen .now
  have L3 : Looks (model prog w) s.heap (storeTaker? attr) none := by
    cases attr with
    | none => cases hr; exact .now
    | some a =>
      refine xEA (Option.map_eq_some_iff.mp hr) fun b hb hr => ?_
      refine (looks_takesIn X hb).andThen ?_
      cases b
      · exact .now
      · cases hr
  rw [osa_eq, refuse_eq]
  refine wpAny_bind (wpAny_bind (I.type.here (wpAny_bind (hmm.here ?_))))
  rw [hmro, refuse_exc]
  refine wpAny_pure (wpAny_bind (I.type.here (wpAny_bind ((looks_findIn X ha).here (wpAny_bind (L3.here ?_))))))
  dsimp only
  refine wpAny_bind (wpAny_pure (wpAny_bind (wpAny_bind (wpAny_loadPart hx (wpAny_bind ((looks_clsIn X hc).here ?_))))))
  rw [hdict]
  cases dd with
  | some d =>
    revert hd; refine yEEAA fun es n q q1 q2 => ?_
    refine wpAny_pure (a := some d) (wpAny_bind (wpAny_pure ?_))
    refine exc_store (tk := tk) q (by omega) q2 fun h' n' hsh hs' hd' => ?_
    have ne : d ≠ e := fun x => hne (by rw [x])
    refine h h' d _ n' (fun b o _ hb ex => hs'.extBut b o (fun x => hb (by rw [x])) ex) (.inl rfl) (hs'.extBut _ _ (Ne.symm ne) hx) hd' (putL_keys q2) (fun es₀ n₀ _ e₀ => ?_) (fun x => by cases x)
    rw [q] at e₀; cases e₀
    exact putL_length
  | none =>
    simp only [Bool.not_true, Bool.false_eq_true, if_false, typeHasDict, Bool.or_self]
    have hx₁ : (s.heap.push { cls := .type "dict", data := .dict #[] }).get? e = some (excObj C t none) := Heap.get?_push_of_some _ hx
    have lt := Heap.lt_size hx
    refine wpAny_bind (wpAny_alloc (wpAny_bind (wpAny_update hx₁ (wpAny_pure ?_))))
    dsimp only
    have hx₂ : ((s.heap.push { cls := .type "dict", data := .dict #[] }).update e fun o => { cls := o.cls, dict := some s.heap.objs.size, data := o.data, slots := o.slots }).get? e = some (excObj C t (some s.heap.objs.size)) := Heap.get?_update_self _ hx₁ rfl
    have hd₂ : ((s.heap.push { cls := .type "dict", data := .dict #[] }).update e fun o => { cls := o.cls, dict := some s.heap.objs.size, data := o.data, slots := o.slots }).get? s.heap.objs.size = some (dictOf [] 0) := by
      rw [Heap.get?_update_other _ _ (Nat.ne_of_lt lt)]; exact Heap.get?_push_size _ rfl
    refine exc_store (s := { s with heap := (s.heap.push { cls := .type "dict", data := .dict #[] }).update e fun o => { cls := o.cls, dict := some s.heap.objs.size, data := o.data, slots := o.slots } }) (tk := tk) hd₂ (by simp) (fun x hx => nomatch hx) fun h' n' hsh hs' hd' => ?_
    refine h h' s.heap.objs.size _ n' (fun b o hb _ ex => ?_) (.inr ⟨rfl, rfl⟩) (hs'.extBut _ _ (Nat.ne_of_lt lt) hx₂) hd' (putL_keys fun x hx => nomatch hx) (fun es₀ n₀ q _ => by cases q) (fun _ => putL_length)
    refine hs'.extBut b o (Nat.ne_of_lt (Heap.lt_size ex)) ?_
    show (Heap.update _ _ _).get? b = _
    rw [Heap.get?_update_other _ _ (Ne.symm hb)]
    exact Heap.get?_push_of_some _ ex
theorem exc_set {name : Str} {v : Value} {t : Addr} {dd : Option Addr} {Q : Unit → Shared → Prop} (X : K.In s.heap) (hx : s.heap.get? e = some (excObj C t dd)) (hd : ExcD s.heap dd) (hne : dd ≠ some e)
    (hs : findIn K (.ref C) "__setattr__" = some (some (.builtin "object.__setattr__"))) (ht : takerIn K C name = some none) (hm : excMro K C = true) (hroom : ∀ d es n, dd = some d → s.heap.get? d = some (dictOf es n) → es.length ≤ 15)
    (h : ∀ h' d es n, (∀ b o, b ≠ e → some b ≠ dd → s.heap.get? b = some o → h'.get? b = some o) → (dd = some d ∨ dd = none ∧ d = s.heap.objs.size) → h'.get? e = some (excObj C t (some d)) →
      h'.get? d = some (dictOf es n) → (∀ x ∈ es, x.refKey = false) → (∀ es₀ n₀, dd = some d → s.heap.get? d = some (dictOf es₀ n₀) → es.length ≤ es₀.length + 1) → (dd = none → es.length ≤ 1) → Q () { s with heap := h', toks := s.toks + 2 }) :
    wpAny (model prog w) A (setAttr (.ref e) name v) Q E s := by
  have I : InstAt s.heap e (excObj C t dd) C (dd.bind s.heap.get?) := ⟨hx, rfl, rfl, by
    cases dd with
    | none => trivial
    | some d => revert hd; refine yEEA fun es n q _ => ?_; simp only [Option.bind_some, q]⟩
  exact set_plain X I hs (exc_osa (s := { s with toks := s.toks + 1 }) X hx hd hne ht hm hroom fun h' d es n a1 a2 a3 a4 a5 a6 a7 => h h' d es n a1 a2 a3 a4 a5 a6 a7)
end
end Mine
end
noncomputable section
namespace Mine
theorem bindL_out {kd : Str → Option NameKind} {y : Str} : ∀ {l : List (Str × Value)} {m : Str → Option Value}, y ∉ l.map (·.1) → bindL kd l m y = m y
  | [], _, _ => rfl
  | (n, v) :: r, m, h => by
    rw [List.map_cons, List.mem_cons, not_or] at h
    unfold bindL
    rw [bindL_out h.2]
    split
    · exact if_neg h.1
    · rfl
theorem bindL_get {kd : Str → Option NameKind} {y : Str} {v : Value} (hk : kd y = some .local) : ∀ {l : List (Str × Value)} {m : Str → Option Value}, (l.map (·.1)).Nodup → (y, v) ∈ l → bindL kd l m y = some v
  | [], _, _, h => nomatch h
  | (n, u) :: r, m, nd, h => by
    rw [List.map_cons, List.nodup_cons] at nd
    unfold bindL
    rcases List.mem_cons.mp h with h | h
    · cases h
      rw [bindL_out nd.1, if_pos hk]; exact if_pos rfl
    · exact bindL_get hk nd.2 h
theorem bindC_out {kd : Str → Option NameKind} {y : Str} : ∀ {l : List (Str × Value)} {m : Str → Option Value}, y ∉ l.map (·.1) → bindC kd l m y = m y
  | [], _, _ => rfl
  | (n, v) :: r, m, h => by
    rw [List.map_cons, List.mem_cons, not_or] at h
    unfold bindC
    rw [bindC_out h.2]
    split
    · rfl
    · exact if_neg h.1
theorem bindC_get {kd : Str → Option NameKind} {y : Str} {v : Value} (hk : kd y ≠ some .local) : ∀ {l : List (Str × Value)} {m : Str → Option Value}, (l.map (·.1)).Nodup → (y, v) ∈ l → bindC kd l m y = some v
  | [], _, _, h => nomatch h
  | (n, u) :: r, m, nd, h => by
    rw [List.map_cons, List.nodup_cons] at nd
    unfold bindC
    rcases List.mem_cons.mp h with h | h
    · cases h
      rw [bindC_out nd.1, if_neg hk]; exact if_pos rfl
    · exact bindC_get hk nd.2 h
theorem cellsFrom_keep {x : Str} : ∀ {l : List (Str × NameKind)} {n : Nat} {acc : List (Str × Addr)}, (acc.lookup x).isSome = true → ((cellsFrom n l acc).lookup x).isSome = true
  | [], _, _, h => h
  | (y, k) :: r, n, acc, h => by
    unfold cellsFrom
    split
    · refine cellsFrom_keep ?_
      rw [List.lookup_cons]
      split
      · rfl
      · exact h
    · exact cellsFrom_keep h
theorem cellsFrom_some {x : Str} : ∀ {l : List (Str × NameKind)} {n : Nat} {acc : List (Str × Addr)}, (x, NameKind.cell) ∈ l → ((cellsFrom n l acc).lookup x).isSome = true
  | [], _, _, h => nomatch h
  | (y, k) :: r, n, acc, h => by
    unfold cellsFrom
    rcases List.mem_cons.mp h with h | h
    · cases h
      show ((cellsFrom (n + 1) r ((x, n) :: acc)).lookup x).isSome = true
      exact cellsFrom_keep (by rw [List.lookup_cons, beq_self_eq_true]; rfl)
    · split
      · exact cellsFrom_some h
      · exact cellsFrom_some h
theorem zip_keys {names : List Str} {vals : List Value} (h : names.length ≤ vals.length) : (names.zip vals).map (·.1) = names := List.map_fst_zip h
theorem zip_mem {names : List Str} {vals : List Value} {i : Nat} {x : Str} {v : Value} (h1 : names[i]? = some x) (h2 : vals[i]? = some v) : (x, v) ∈ names.zip vals := by
  refine List.mem_of_getElem? (i := i) ?_
  rw [List.getElem?_zip_eq_some]
  exact ⟨h1, h2⟩
noncomputable def start (args : List V) (k : Nat) : Ls := args.map some ++ List.replicate k none
theorem start_get {args : List V} {k i : Nat} {v : V} (h : (start args k)[i]? = some (some v)) : args[i]? = some v := by
  unfold start at h
  by_cases q : i < args.length
  · rw [List.getElem?_append_left (by simpa using q), List.getElem?_map] at h
    cases e : args[i]? with
    | none => rw [e] at h; cases h
    | some u => rw [e] at h; simpa using h
  · rw [List.getElem?_append_right (by simpa using q), List.getElem?_replicate] at h
    split at h <;> cases h
theorem lookup_of_mem {α : Type} {y : Str} {v : α} : ∀ {l : List (Str × α)}, (l.map (·.1)).Nodup → (y, v) ∈ l → l.lookup y = some v
  | [], _, h => nomatch h
  | (n, u) :: r, nd, h => by
    rw [List.map_cons, List.nodup_cons] at nd
    rw [List.lookup_cons]
    rcases List.mem_cons.mp h with h | h
    · cases h; rw [beq_self_eq_true]
    · have : y ≠ n := fun q => nd.1 (q ▸ List.mem_map_of_mem (f := (·.1)) h)
      rw [show (y == n) = false by simpa using this]
      exact lookup_of_mem nd.2 h
inductive DefE (z : Z) (f : Addr) (fx : Fx) (names : List Str) (body : List Stmt) (binds : List Value → List Value → Prop) : Prop where
  | mk oc od osl name qual params scope dV kV doc pm an cdv ct (h1 : z.K.lookup f = some ⟨oc, od, .func (fnOf name qual params body scope dV kV doc pm an cdv ct), osl⟩) (h2 : codeIn z.K cdv qual = true)
    (h3 : scope.kind = .function) (h4 : scope.isCoroutine = false) (h5 : scope.isGenerator = false) (h6 : scope.names = fx.kinds)
    (h7 : ∀ (vals vals' : List Value), binds vals vals' → bindArgs (fnOf name qual params body scope dV kV doc pm an cdv ct) ⟨vals, []⟩ = pure (names.zip vals') ∨
      ((∀ x ∈ scope.names, x.2 ≠ .cell) ∧ ∀ s : Shared, (∀ b o, z.h₀.get? b = some o → s.heap.get? b = some o) → BindsTo s (fnOf name qual params body scope dV kV doc pm an cdv ct) ⟨vals, []⟩ (names.zip vals')))
structure Def (z : Z) (f : Addr) (fx : Fx) (names : List Str) (body : List Stmt) (binds : List Value → List Value → Prop) : Prop where
  ex : DefE z f fx names body binds
  kinds : ∀ x ∈ names, fx.kinds.lookup x = some .local ∨ fx.kinds.lookup x = some .cell
  nd : fx.names.Nodup
  take : fx.names.take names.length = names
section
variable {z : Z} {n : Nat} {fx : Fx} {names : List Str} {body : List Stmt} {f : Addr} {args args' : List V} {σ : AH} {Q : V → AH → Prop} {X : AH → Prop} {W : WSt} {binds : List Value → List Value → Prop} {k : Nat}
theorem Def.names_nd (D : Def z f fx names body binds) : names.Nodup := by rw [← D.take]; exact D.nd.sublist (List.take_sublist _ _)
theorem Def.name_at (D : Def z f fx names body binds) {i : Nat} {x : Str} (h : fx.names[i]? = some x) (hi : i < names.length) : names[i]? = some x := by
  rw [← D.take, List.getElem?_take]
  rw [if_pos hi]; exact h
theorem Def.lm (D : Def z f fx names body binds) {c : Cx} {m : Str → Option Value} {Φ : Fz} {vals' : List Value} (hl : vals'.length = names.length) (hv : Rvs z.K Φ args' vals') (hkd : ∀ x, c.env.kindOf x = fx.kinds.lookup x)
    (h : ∀ x v, (x, v) ∈ names.zip vals' → fx.isVar x = true → Rd c m x v) : Lm fx z c m Φ (start args' k) := fun i v x h1 h2 h3 => by
  refine xEA (hv.get i v (start_get h1)) fun val e hr => ?_
  have hi := (List.getElem?_eq_some_iff.mp e).1
  exact ⟨val, h x val (zip_mem (D.name_at h2 (by omega)) e) h3, hr⟩
theorem sem_def (zo : z.Ok) (D : Def z f fx names body binds) (hb : ∀ c, At z n c fx → c.Fun → SB z c fx X body W) (w : W Q (fun _ σ => Q .none σ) (start args' k) σ)
    (ha : ∀ Φ vals, Rvs z.K Φ args vals → ∃ vals', binds vals vals' ∧ vals'.length = names.length ∧ Rvs z.K Φ args' vals') : SemCall z (n + 1) f args σ Q X := by
  intro c o s m Φ vals hv I
  obtain ⟨oc, od, osl, name, qual, params, scope, dV, kV, doc, pm, an, cdv, ct, ho, hcd, hk, hco, hgen, hsc, hbind⟩ := D.ex
  refine xEAA (ha Φ vals hv) fun vals' hbb hlen hv' => ?_
  have hX := I.base _ _ (zo.X _ _ ho)
  have room : c.A.depth < recursionLimit := by have := o.depth; show c.A.depth < 1000; omega
  obtain ⟨G, L⟩ := I.led
  have hzip : (names.zip vals').map (·.1) = names := zip_keys (by omega)
  have kin : ∀ x ∈ names.zip vals', x.1 ∈ names := fun x hx => (List.of_mem_zip hx).1
  have ne : ∀ (L' : Addr), s.heap.objs.size ≤ L' → ∀ a ∈ c.L :: c.outs.map (·.1), a ≠ L' := fun L' hL a q e => by
    subst e
    rcases List.mem_cons.mp q with rfl | q
    · exact absurd hL (Nat.not_le.mpr (L.lt (by rw [L.cur]; exact Cell.noConfusion)))
    · refine xEA (List.mem_map.mp q) fun p hp u1 => ?_; obtain rfl := u1
      exact absurd hL (Nat.not_le.mpr (L.lt (by rw [L.outs p hp]; exact Cell.noConfusion)))
  have run : ∀ (env : Env) (m₁ : Str → Option Value) (H : List (Addr × Obj)) (s₁ : Shared), env.scope = scope → env.frame = some env.locals → env.globals = mainGlobals → env.builtins = builtinsNs → s.heap.objs.size ≤ env.locals →
      (∀ x, fx.kinds.lookup x = some .cell → ∃ a, env.cells.lookup x = some a) → Inv z (c.call m env H) m₁ Φ σ s₁ → Lm fx z (c.call m env H) m₁ Φ (start args' k) →
      wpAny (model z.prog z.w) (c.A.deeper env) (execs body env) (fun f s' => RES z c m Φ Q X (.ok (.ret (match f with | .ret v => v | _ => .none))) s')
        (fun e s' => wpAny (model z.prog z.w) (c.A.deeper env) (leaving env e) (fun _ s'' => RES z c m Φ Q X (.error e) s'') (fun e' s'' => RES z c m Φ Q X (.error e') s'') s') s₁ := by
    intro env m₁ H s₁ e1 e2 e3 e4 e5 e6 I' l'
    have o' : (c.call m env H).Ok z n := o.call (by rw [e1]; exact hk) e2 e3 e4 (ne _ e5) (Nat.le_trans (I.size o) e5)
    have at' : At z n (c.call m env H) fx := ⟨zo, o', by show env.scope.names = _; rw [e1]; exact hsc, e6⟩
    refine wpAny_mono (hb _ at' ⟨_, rfl⟩ Q _ Φ σ m₁ _ s₁ l' I' w) (fun fl s' h => ?_) fun e s' h => ?_
    · cases fl with
      | next => revert h; refine yEEEEAAA fun Φ' σ' m' ls' h1 h2 h3 h4 => ?_; exact ⟨Φ', .none, σ', h1, rfl, h3.back rfl (fun _ q => List.mem_append_right _ q), h4⟩
      | ret v => revert h; refine yEEEEAAA fun Φ' v' σ' m' h1 h2 h3 h4 => ?_; exact ⟨Φ', v', σ', h1, h2, h3.back rfl (fun _ q => List.mem_append_right _ q), h4⟩
      | _ => exact h.elim
    · revert h; refine yEEEEEAAA fun Φ' σ' m' ea md u2 h1 h2 h3 => ?_; obtain rfl := u2
      refine exc_leave (c := c) (m := m) o'.hA rfl h2 rfl (fun _ q => List.mem_append_right _ q) (let ⟨a, b, _⟩ := o.ef; ⟨a, b⟩) fun h' x => ?_
      exact ⟨Φ', σ', ea, rfl, h1, x, h3⟩
  rcases hbind vals vals' hbb with hbind | ⟨hcell, hbind⟩
  · -- with cells
    refine codeAny_call_cells (fd := fnOf name qual params body scope dV kV doc pm an cdv ct) room hX rfl (zo.T.nolimit.keeps I.base) (codeRec_of (zo.X.keeps I.base) hcd) rfl hbind rfl (fun x hx => ?_) (fun s₁ x => ?_) hco hgen hk
    · rcases D.kinds x.1 (kin x hx) with q | q
      · exact .inl (hsc ▸ q)
      · refine .inr ⟨hsc ▸ q, cellsFrom_some (mem_of_lookup (hsc ▸ q))⟩
    generalize henv : callEnvC (fnOf name qual params body scope dV kV doc pm an cdv ct) s.heap.objs.size f = env at x
    have eL : env.locals = s.heap.objs.size := by rw [← henv]; rfl
    have eS : env.scope = scope := by rw [← henv]; rfl
    have eC : env.cells = cellsFrom (s.heap.objs.size + 1) scope.names [] := by rw [← henv]; rfl
    have ek : ∀ y, env.kindOf y = fx.kinds.lookup y := fun y => by unfold Env.kindOf; rw [eS, hsc]
    refine xEEA (x.done) fun h₁ tk u3 keep => ?_; obtain rfl := u3
    have hsz : ∀ p ∈ env.cells, s.heap.objs.size ≤ p.2 := fun p hp => by have := x.above p.1 p.2 hp; rw [eL] at this; exact Nat.le_of_lt this
    have ns := x.toInCall.ns
    have G' := L.call (c' := c.call m env []) (m' := bindL env.kindOf (names.zip vals') fun x => none) (L' := env.locals) (h' := h₁) (Kp.of_keeps keep) ns (by rw [eL]; exact Nat.le_refl _) (none_of_size (by rw [eL]; exact I.size o)) rfl rfl rfl
    let H : List (Addr × Obj) := fx.kinds.filterMap fun p => if p.2 == .cell then (env.cells.lookup p.1).map fun a => (a, getO h₁ a) else none
    have hH : ∀ p ∈ H, ∃ y, env.cells.lookup y = some p.1 ∧ p.2 = getO h₁ p.1 := fun p hp => by
      refine xEA (List.mem_filterMap.mp hp) fun q hq e => ?_
      split at e
      · refine xEA (Option.map_eq_some_iff.mp e) fun a e1 u4 => ?_; obtain rfl := u4
        exact ⟨q.1, e1, rfl⟩
      · cases e
    have hC : ∀ y a, env.cells.lookup y = some a → s.heap.objs.size < a ∧ ∃ ob, h₁.get? a = some ob ∧ getO h₁ a = ob ∧ ob.data = .cell (bindC env.kindOf (names.zip vals') (fun x => none) y) := fun y a e => by
      refine xEA (x.cell y a e) fun ob h1 h2 => ?_
      refine ⟨?_, ob, h1, getO_of h1, h2⟩
      have := x.above y a (mem_of_lookup e); rw [eL] at this; exact this
    have wrm : ∀ a ∈ H.map (·.1), ∃ y, env.cells.lookup y = some a := fun a ha => by
      refine xEA (List.mem_map.mp ha) fun p hp u5 => ?_; obtain rfl := u5
      refine xEA (hH p hp) fun y e _ => ?_
      exact ⟨y, e⟩
    have P := G'.put (wr := H.map (·.1)) (h' := h₁) (c' := c.call m env H) (x := fun a => .hid (getO h₁ a)) rfl rfl (fun a ha => ?_) (fun a ha => ?_) (fun b ob _ e => e) (fun a ha => ?_) (fun p hp => ?_)
    · refine run env _ H _ eS (by rw [← henv]; rfl) (by rw [← henv]; rfl) (by rw [← henv]; rfl) (by rw [eL]; exact Nat.le_refl _) (fun y hy => ?_) ⟨I.gens, I.drawn, I.os, fun b ob e => keep _ _ (I.base _ _ e), _, P⟩ ?_
      · have := cellsFrom_some (n := s.heap.objs.size + 1) (acc := []) (mem_of_lookup hy)
        rw [← hsc, ← eC] at this
        exact Option.isSome_iff_exists.mp this
      · refine D.lm hlen hv' ek fun y v hm hvar => ?_
        unfold Fx.isVar at hvar
        simp only [Bool.or_eq_true, beq_iff_eq] at hvar
        rcases hvar with q | q
        · exact .inl ⟨(ek y).trans q, bindL_get ((ek y).trans q) (by rw [hzip]; exact D.names_nd) hm⟩
        · have hl := cellsFrom_some (n := s.heap.objs.size + 1) (acc := []) (mem_of_lookup q)
          rw [← hsc, ← eC] at hl
          obtain ⟨a, e⟩ := Option.isSome_iff_exists.mp hl
          refine xAEAA (hC y a e) fun _ ob e1 e2 e3 => ?_
          refine .inr ⟨(ek y).trans q, a, ob, e, List.mem_append_left _ (List.mem_filterMap.mpr ⟨(y, .cell), mem_of_lookup q, ?_⟩), ?_⟩
          · simp only [beq_self_eq_true, if_true, e, Option.map_some, e2]
          · rw [e3, bindC_get (by rw [ek y, q]; nofun) (by rw [hzip]; exact D.names_nd) hm]
    · obtain ⟨y, e⟩ := wrm a ha
      obtain ⟨lt, _⟩ := hC y a e
      refine .inl ?_
      rw [gset_ne (by rintro rfl; rw [eL] at lt; exact Nat.lt_irrefl _ lt)]
      exact L.free_of_none (none_of_size (Nat.le_of_lt lt))
    · obtain ⟨y, e⟩ := wrm a ha
      obtain ⟨lt, _⟩ := hC y a e
      exact none_of_size (Nat.le_trans (I.size o) (Nat.le_of_lt lt))
    · obtain ⟨y, e⟩ := wrm a ha
      refine xAEAA (hC y a e) fun _ ob e1 e2 _ => ?_
      exact .inr ⟨_, rfl, by rw [e2]; exact e1⟩
    · have hp : p ∈ H ++ c.H := hp
      rcases List.mem_append.mp hp with hp | hp
      · refine xEA (hH p hp) fun y e e2 => ?_
        exact .inl ⟨List.mem_map_of_mem (f := (·.1)) hp, by rw [e2]⟩
      · refine .inr ⟨fun q => ?_, hp⟩
        obtain ⟨y, e⟩ := wrm _ q
        obtain ⟨lt, _⟩ := hC y _ e
        exact absurd (L.lt (a := p.1) (by rw [L.hid p hp]; exact Cell.noConfusion)) (Nat.not_lt.mpr (Nat.le_of_lt lt))
  · refine codeAny_call_def (fd := fnOf name qual params body scope dV kV doc pm an cdv ct) (binds := names.zip vals') room hX rfl (zo.T.nolimit.keeps I.base) (codeRec_of (zo.X.keeps I.base) hcd) rfl (hbind s I.base)
      hcell (fun x hx => ?_) (fun h₁ hns hk₁ => ?_) hco hgen hk
    · rcases D.kinds x.1 (kin x hx) with q | q
      · exact hsc ▸ q
      · exact absurd rfl (hcell (x.1, .cell) (hsc ▸ mem_of_lookup q))
    have L' := L.call (c' := c.call m (callEnv (fnOf name qual params body scope dV kV doc pm an cdv ct) s.heap.objs.size f) []) (h' := h₁) (Kp.of_keeps hk₁) hns (Nat.le_refl _) (none_of_size (I.size o)) rfl rfl rfl
    refine run _ _ [] _ rfl rfl rfl rfl (Nat.le_refl _) (fun y hy => absurd rfl (hcell (y, .cell) (hsc ▸ mem_of_lookup hy))) ⟨I.gens, I.drawn, I.os, fun b x e => hk₁ _ _ (I.base _ _ e), _, L'⟩ ?_
    refine D.lm hlen hv' (fun y => by show scope.names.lookup y = _; rw [hsc]) fun y v hm hvar => ?_
    unfold Fx.isVar at hvar
    simp only [Bool.or_eq_true, beq_iff_eq] at hvar
    rcases hvar with q | q
    · refine .inl ⟨by show scope.names.lookup y = _; rw [hsc]; exact q, ?_⟩
      have nd : ((names.zip vals').reverse.map (·.1)).Nodup := by rw [List.map_reverse, hzip]; unfold List.Nodup; rw [List.pairwise_reverse]; exact D.names_nd.imp fun h => Ne.symm h
      exact lookup_of_mem nd (List.mem_reverse.mpr hm)
    · exact absurd rfl (hcell (y, .cell) (hsc ▸ mem_of_lookup q))
end
end Mine
end
noncomputable section
namespace Mine
theorem Inv.forget {z : Z} {c : Cx} {m : Str → Option Value} {Φ : Fz} {σ σ₁ : AH} {s : Shared} (I : Inv z c m Φ σ₁ s) (h : ∀ a o, σ a = some o → σ₁ a = some o) : Inv z c m Φ σ s :=
  let ⟨G, L⟩ := I.led; ⟨I.gens, I.drawn, I.os, I.base, G, { L with own := fun a o e => L.own a o (h a o e), cur := L.cur, outs := L.outs }⟩
noncomputable def EX (z : Z) (c : Cx) (C ea t : Addr) (k : Nat) (m : Str → Option Value) (Φ : Fz) (σ : AH) (s : Shared) : Prop :=
  ∃ dd : Option Addr, InvH z c (ea :: dd.toList) m Φ σ s ∧ Apart c (ea :: dd.toList) ∧ s.heap.get? ea = some (excObj C t dd) ∧
    ∀ d, dd = some d → d ≠ ea ∧ ∃ es n, s.heap.get? d = some (dictOf es n) ∧ es.length ≤ k ∧ ∀ x ∈ es, x.refKey = false
noncomputable def exNames (K : Frag) (C : Addr) : List Nat → Bool := fun l => l.all fun k => decide (takerIn K C (strAt k) = some none)
noncomputable def excK (K : Frag) (C : Addr) : Bool := excMro K C && decide (findIn K (.ref C) "__setattr__" = some (some (.builtin "object.__setattr__"))) && exNames K C [41, 42, 43, 44]
section
variable {z : Z} {n k : Nat} {c : Cx} {m : Str → Option Value} {fx : Fx} {ls : Ls} {X : AH → Prop} {Φ : Fz} {σ : AH} {s : Shared} {C ea t : Addr}
theorem EX.led (x : EX z c C ea t k m Φ σ s) : ∃ dd obs, obs.map (·.1) = ea :: dd.toList ∧ NoCell obs ∧ Inv z (c.hid obs) m Φ σ s ∧ Apart c (ea :: dd.toList) ∧ s.heap.get? ea = some (excObj C t dd) ∧
    ∀ d, dd = some d → d ≠ ea ∧ ∃ es n, s.heap.get? d = some (dictOf es n) ∧ es.length ≤ k ∧ ∀ x ∈ es, x.refKey = false := by
  revert x; refine yEAAA fun dd u1 ap h1 h2 => ?_; obtain ⟨obs, e, nc, I⟩ := u1
  exact ⟨dd, obs, e, nc, I, ap, h1, h2⟩
theorem EX.of {Φ' : Fz} {σ' : AH} {m' : Str → Option Value} {s' : Shared} {c' : Cx} {dd : Option Addr} {obs : List (Addr × Obj)} (e : obs.map (·.1) = ea :: dd.toList) (nc : NoCell obs) (I₀ : Inv z (c.hid obs) m Φ σ s) (I : Inv z (c'.hid obs) m' Φ' σ' s') (ap : Apart c' (ea :: dd.toList)) (h1 : s.heap.get? ea = some (excObj C t dd))
    (h2 : ∀ d, dd = some d → d ≠ ea ∧ ∃ es n, s.heap.get? d = some (dictOf es n) ∧ es.length ≤ k ∧ ∀ x ∈ es, x.refKey = false) : EX z c' C ea t k m' Φ' σ' s' := by
  have old : ∀ a ∈ ea :: dd.toList, ∀ o, s.heap.get? a = some o → s'.heap.get? a = some o := fun a ha o h => by
    rw [← e] at ha; refine xEA (List.mem_map.mp ha) fun p hp u2 => ?_; obtain rfl := u2
    rw [I₀.hidAt hp] at h; cases h
    exact I.hidAt hp
  refine ⟨dd, ⟨obs, e, nc, I⟩, ap, old _ (.head _) _ h1, fun d q => ?_⟩
  refine xAEEAA (h2 d q) fun q1 es n' q2 q3 q4 => ?_
  exact ⟨q1, es, n', old _ (by subst q; simp) _ q2, q3, q4⟩
theorem EX.set (zo : z.Ok) (hk : excK z.K C = true) {i : Nat} (hi : i ∈ [41, 42, 43, 44]) (x : EX z c C ea t k m Φ σ s) (hn : k ≤ 10) (hz : z.h₀.objs.size ≤ s.heap.objs.size) {v : Value} {Q : Unit → Shared → Prop} {A : Around} {E : Value → Shared → Prop}
    (h : ∀ s', EX z c C ea t (k + 1) m Φ σ s' → Q () s') : wpAny (model z.prog z.w) A (setAttr (.ref ea) (strAt i) v) Q E s := by
  unfold excK at hk
  simp only [Bool.and_eq_true] at hk
  obtain ⟨⟨k1, k2⟩, k3⟩ := hk
  have k3 := of_decide_eq_true (List.all_eq_true.mp k3 i hi)
  refine xEEAAAAA (x.led) fun dd obs e nc I ap h1 h2 => ?_
  have X := zo.X.keeps I.base
  refine exc_set X h1 ?_ (fun q => (h2 ea q).1 rfl) (of_decide_eq_true k2) k3 k1 (fun d es n' q hd => ?_) fun h' d es n' a1 a2 a3 a4 a5 a6 a7 => h _ ?_
  · cases dd with
    | none => trivial
    | some d => refine xAEEAA (h2 d rfl) fun _ es n' q2 q3 q4 => ?_; exact ⟨es, n', q2, by omega, q4⟩
  · refine xAEEAA (h2 d q) fun _ es' n'' q2 q3 q4 => ?_
    rw [q2] at hd; cases hd; omega
  · have dne : d ≠ ea := by
      rcases a2 with a2 | ⟨_, rfl⟩
      · exact (h2 d a2).1
      · exact Ne.symm (Nat.ne_of_lt (Heap.lt_size h1))
    obtain ⟨o1, o2, o3⟩ := hidObs [ea, d] h' (fun b hb => by
      rcases List.mem_cons.mp hb with rfl | hb
      · exact ⟨_, a3, fun v => Data.noConfusion⟩
      · rw [List.mem_singleton.mp hb]; exact ⟨_, a4, fun v => Data.noConfusion⟩)
    have apd : Apart c [ea, d] := fun p hp q => by
      rcases List.mem_cons.mp q with q | q
      · exact ap p hp (by rw [q]; exact .head _)
      · rw [List.mem_singleton] at q
        rcases a2 with a2 | ⟨_, rfl⟩
        · exact ap p hp (by rw [q, a2]; simp)
        · obtain ⟨G, L⟩ := I.led
          exact absurd (L.lt (a := p.1) (by rw [L.hid p (List.mem_append_right _ hp)]; exact Cell.noConfusion)) (by rw [q]; exact Nat.lt_irrefl _)
    have hidden : ∀ a ∈ ea :: dd.toList, a ∈ [ea, d] := fun a ha => by
      rcases List.mem_cons.mp ha with rfl | ha
      · exact .head _
      · rcases a2 with a2 | ⟨a2, _⟩
        · rw [a2] at ha; simp at ha; simp [ha]
        · rw [a2] at ha; simp at ha
    refine ⟨some d, ⟨_, o1, o2, I.hidG (c' := c.hid ([ea, d].map fun a => (a, getO h' a))) (t := s.toks + 2) [ea, d] (fun G L a ha => ?_) (fun a ha => ?_) (fun b ob hb ex => a1 b ob (fun q => hb (by simp [q])) (fun q => ?_) ex) rfl rfl fun p hp => ?_⟩, apd, a3, fun d' q => ?_⟩
    · have inH : ∀ a ∈ ea :: dd.toList, G a = .free ∨ ∃ o, G a = .hid o := fun a ha => by
        rw [← e] at ha; refine xEA (List.mem_map.mp ha) fun p hp u3 => ?_; obtain rfl := u3
        exact .inr ⟨_, L.hid p (List.mem_append_left _ hp)⟩
      rcases List.mem_cons.mp ha with rfl | ha
      · exact inH _ (.head _)
      · rw [List.mem_singleton.mp ha]
        rcases a2 with a2 | ⟨_, rfl⟩
        · exact inH _ (by rw [a2]; simp)
        · exact .inl (L.free_of_none (none_of_size (Nat.le_refl _)))
    · obtain ⟨G, L⟩ := I.led
      have inH : ∀ a ∈ ea :: dd.toList, z.h₀.get? a = none := fun a ha => by
        rw [← e] at ha; refine xEA (List.mem_map.mp ha) fun p hp u4 => ?_; obtain rfl := u4
        exact L.new _ (by rw [L.hid p (List.mem_append_left _ hp)]; exact Cell.noConfusion)
      rcases List.mem_cons.mp ha with rfl | ha
      · exact inH _ (.head _)
      · rw [List.mem_singleton.mp ha]
        rcases a2 with a2 | ⟨_, rfl⟩
        · exact inH _ (by rw [a2]; simp)
        · exact none_of_size hz
    · rcases a2 with a2 | ⟨a2, _⟩
      · rw [a2] at q; cases q; exact hb (by simp)
      · rw [a2] at q; cases q
    · rcases List.mem_append.mp hp with hp | hp
      · exact .inl (o3 p hp)
      · rcases List.mem_append.mp (show p ∈ obs ++ c.H from List.mem_append_right _ hp) with hq | hq
        · exact .inr ⟨apd p hp, List.mem_append_right _ hp⟩
        · exact .inr ⟨apd p hp, List.mem_append_right _ hp⟩
    · cases q
      refine ⟨dne, es, n', a4, ?_, a5⟩
      cases hdd : dd with
      | none => have := a7 hdd; omega
      | some d₀ =>
        rcases a2 with a2 | ⟨a2, _⟩
        · refine xAEEAA (h2 _ a2) fun _ es' n'' q2 q3 q4 => ?_
          have := a6 _ _ a2 q2
          omega
        · rw [hdd] at a2; cases a2
end
end Mine
end
noncomputable section
namespace Mine
noncomputable def locOk (fx : Fx) (i : Nat) (x : Str) : Bool := fx.names[i]? == some x && fx.isVar x && !(x == ("__debug__" : Str))
theorem locOk_of {fx : Fx} {i : Nat} {x : Str} (h : locOk fx i x = true) : fx.names[i]? = some x ∧ fx.isVar x = true ∧ (x == ("__debug__" : Str)) = false := by
  unfold locOk at h
  simp only [Bool.and_eq_true, beq_iff_eq, Bool.not_eq_true'] at h
  exact ⟨h.1.1, h.1.2, h.2⟩
noncomputable def nmI (fx : Fx) (i : Nat) : Str := fx.names.getD i (strAt 0)
structure Ps where
  a : Pos
  b : Pos
  c : Pos
  d : Pos
noncomputable def asg (fx : Fx) (k i j : Nat) (p : Ps) : Stmt := .Assign [.Attribute (.Name (nmI fx i) p.a) (strAt k) p.b] (.Name (nmI fx j) p.c) p.d
inductive TrC (K : Frag) (C : Addr) : Prop where
  | mk (nm qn : Str) (N : Addr) (bs bm : List Value) (hdct : Bool) (sn : List Str) (sub : List Value) (ab : Bool) (col : Option Bool) (dd : Option Addr) (k0 k1 k2 k3 k5 : Option Value) (h : K.lookup C = some (excClassObj nm qn C N bs bm hdct sn sub ab col dd k0 k1 k2 k3 k5 "Exception.__new__"))
    (b1 : bm.contains (.type "BaseException") = true) (b2 : bm.contains (.type "Exception") = true) (b3 : bm.contains (.type "AttributeError") = false) (b4 : bm.contains (.type "NameError") = false)
noncomputable def same (k : Nat) (vals vals' : List Value) : Prop := vals' = vals ∧ vals.length = k
inductive TrA (z : Z) : Prop where
  | mk (fx : Fx) (names : List Str) (p q : Ps) (D : Def z 203 fx names [asg fx 41 0 1 p, asg fx 42 0 2 q] (same 3)) (hl : names.length = 3) (hc : ∀ p ∈ fx.kinds, p.2 ≠ .cell) (l0 : locOk fx 0 (nmI fx 0) = true) (l1 : locOk fx 1 (nmI fx 1) = true) (l2 : locOk fx 2 (nmI fx 2) = true)
inductive TrB (z : Z) : Prop where
  | mk (fx : Fx) (names : List Str) (sc : Str) (kst : Nat) (psc p2 pa pst pb pd pl p3 pe : Pos) (p q : Ps)
    (D : Def z 223 fx names [.Expr (.Call (.Attribute (.Name sc psc) "__init__" p2) [.Name (nmI fx 0) pa, .Constant (.str (strAt 29)) kst pst, .List [.Name (nmI fx 1) pb, .Name (nmI fx 2) pd] pl] [] p3) pe, asg fx 43 0 1 p, asg fx 44 0 2 q] (same 3))
    (hl : names.length = 3) (hc : ∀ p ∈ fx.kinds, p.2 ≠ .cell) (hp : p2.endLine = p3.line) (q1 : fx.isGlob sc = true) (q2 : nsIn z.K mainGlobals sc = some (some (.ref 206))) (l0 : locOk fx 0 (nmI fx 0) = true) (l1 : locOk fx 1 (nmI fx 1) = true) (l2 : locOk fx 2 (nmI fx 2) = true)
structure Tok (z : Z) : Prop where
  exc : excK z.K z.trouble = true
  cls : TrC z.K z.trouble
  init : findIn z.K (.ref z.trouble) "__init__" = some (some (.ref 223))
  fn : typeIn z.K (.ref 223) = some (.type "function")
  keep : keepIn z.K (.ref z.trouble) = true
  keepA : keepIn z.K (.ref 203) = true
  ga : specialIn z.K (.ref 206) "__getattribute__" = some (some (.builtin "type.__getattribute__"))
  ty : typeIn z.K (.ref 206) = some (.type "type")
  reads : readsIn z.K 206 (.type "type") = true
  find : findCls z.K (.ref 206) (.type "type") "__init__" = some (.val (.ref 203))
  A : TrA z
  B : TrB z
section
variable {z : Z} {n k : Nat} {c : Cx} {m : Str → Option Value} {fx : Fx} {ls : Ls} {X : AH → Prop} {Φ : Fz} {σ : AH} {s : Shared} {C ea t f : Addr} {names : List Str} {body : List Stmt} {args : List V} {vals : List Value}
theorem At.unhid {obs : List (Addr × Obj)} (a : At z n (c.hid obs) fx) : At z n c fx := ⟨a.zo, ⟨a.o.hA, a.o.fr, a.o.ne, a.o.abv, a.o.hd, a.o.depth, a.o.units, a.o.ek, a.o.eg, a.o.eb, a.o.ef, a.o.top⟩, a.hs, a.hc⟩
theorem enter (zo : z.Ok) (D : Def z f fx names body (same names.length)) (hcell : ∀ p ∈ fx.kinds, p.2 ≠ .cell) (o : c.Ok z (n + 1)) (I : Inv z c m Φ σ s) (hv : Rvs z.K Φ args vals) (hlen : args.length = names.length) {R : Result → Shared → Prop}
    (h : ∀ env m₁ h₁ tk, At z n (c.call m env []) fx → (c.call m env []).Fun → Inv z (c.call m env []) m₁ Φ σ { s with heap := h₁, toks := tk } → Lm fx z (c.call m env []) m₁ Φ (start args 0) → (∀ b o, s.heap.get? b = some o → h₁.get? b = some o) →
      wpAny (model z.prog z.w) (c.A.deeper env) (execs body env) (fun f s' => R (.ok (.ret (match f with | .ret v => v | _ => .none))) s') (fun _ _ => False) { s with heap := h₁, toks := tk }) :
    codeAny (model z.prog z.w) c.A (.call (.ref f) ⟨vals, []⟩) R s := by
  obtain ⟨oc, od, osl, name, qual, params, scope, dV, kV, doc, pm, an, cdv, ct, ho, hcd, hk, hco, hgen, hsc, hbind⟩ := D.ex
  have hX := I.base _ _ (zo.X _ _ ho)
  have room : c.A.depth < recursionLimit := by have := o.depth; show c.A.depth < 1000; omega
  obtain ⟨G, L⟩ := I.led
  have hl := hv.length
  have hzip : (names.zip vals).map (·.1) = names := zip_keys (by omega)
  have kin : ∀ x ∈ names.zip vals, x.1 ∈ names := fun x hx => (List.of_mem_zip hx).1
  have ne : ∀ (L' : Addr), s.heap.objs.size ≤ L' → ∀ a ∈ c.L :: c.outs.map (·.1), a ≠ L' := fun L' hL a q e => by
    subst e
    rcases List.mem_cons.mp q with rfl | q
    · exact absurd hL (Nat.not_le.mpr (L.lt (by rw [L.cur]; exact Cell.noConfusion)))
    · refine xEA (List.mem_map.mp q) fun p hp u17 => ?_; obtain rfl := u17
      exact absurd hL (Nat.not_le.mpr (L.lt (by rw [L.outs p hp]; exact Cell.noConfusion)))
  have hb : BindsTo s (fnOf name qual params body scope dV kV doc pm an cdv ct) ⟨vals, []⟩ (names.zip vals) := by
    rcases hbind vals vals ⟨rfl, by omega⟩ with hb | ⟨_, hb⟩
    · exact .of_eq hb
    · exact hb s I.base
  refine codeAny_call_def (fd := fnOf name qual params body scope dV kV doc pm an cdv ct) (binds := names.zip vals) room hX rfl (zo.T.nolimit.keeps I.base) (codeRec_of (zo.X.keeps I.base) hcd) rfl hb
    (fun p hp => hcell p (hsc ▸ hp)) (fun x hx => ?_) (fun h₁ hns hk₁ => ?_) hco hgen hk
  · rcases D.kinds x.1 (kin x hx) with q | q
    · exact hsc ▸ q
    · exact absurd rfl (hcell (x.1, .cell) (mem_of_lookup q))
  have L' := L.call (c' := c.call m (callEnv (fnOf name qual params body scope dV kV doc pm an cdv ct) s.heap.objs.size f) []) (h' := h₁) (Kp.of_keeps hk₁) hns (Nat.le_refl _) (none_of_size (I.size o)) rfl rfl rfl
  have o' : (c.call m (callEnv (fnOf name qual params body scope dV kV doc pm an cdv ct) s.heap.objs.size f) []).Ok z n := o.call hk rfl rfl rfl (ne _ (Nat.le_refl _)) (I.size o)
  refine wpAny_mono (h _ _ h₁ (s.toks + (names.zip vals).length) ⟨zo, o', hsc, fun x hx => absurd rfl (hcell (x, .cell) (mem_of_lookup hx))⟩ ⟨_, rfl⟩ ⟨I.gens, I.drawn, I.os, fun b x e => hk₁ _ _ (I.base _ _ e), _, L'⟩ ?_ hk₁) (fun _ _ h => h) fun _ _ h => h.elim
  refine D.lm (by omega) hv (fun y => by show scope.names.lookup y = _; rw [hsc]) fun y v hm hvar => ?_
  unfold Fx.isVar at hvar
  simp only [Bool.or_eq_true, beq_iff_eq] at hvar
  rcases hvar with q | q
  · refine .inl ⟨by show scope.names.lookup y = _; rw [hsc]; exact q, ?_⟩
    have nd : ((names.zip vals).reverse.map (·.1)).Nodup := by rw [List.map_reverse, hzip]; unfold List.Nodup; rw [List.pairwise_reverse]; exact D.names_nd.imp fun h => Ne.symm h
    exact lookup_of_mem nd (List.mem_reverse.mpr hm)
  · exact absurd rfl (hcell (y, .cell) (mem_of_lookup q))
theorem sees (a : At z n c fx) {i : Nat} {x : Str} {pos : Pos} {v : V} (hx : locOk fx i x = true) (e : ls[i]? = some (some v)) (l : Lm fx z c m Φ ls) (I : Inv z c m Φ σ s) {P : Value → Shared → Prop}
    (h : ∀ (Φ' : Fz) (v' : Value) (s' : Shared), Φ.le Φ' → Lm fx z c m Φ' ls → Rv z.K Φ' v v' → Inv z c m Φ' σ s' → P v' s') : wpAny (model z.prog z.w) c.A (eval (.Name x pos) c.env) P (fun _ _ => False) s := by
  refine xAA (locOk_of hx) fun h1 h2 h3 => ?_
  refine wpAny_mono ((s_loc (X := fun _ => False) a h1 h2 h3).bind (Q := fun u σ' => u = v ∧ σ' = σ) l I (by rw [e]; exact ⟨rfl, rfl⟩) (P := P) fun Φ' v' u σ' s' le l' hv I' q => ?_) (fun _ _ h => h) fun _ _ e => no_err e
  obtain ⟨rfl, rfl⟩ := q
  exact h Φ' v' s' le l' hv I'
theorem exc_assign (hk : excK z.K C = true) (a : At z n c fx) (x : EX z c C ea t k m Φ σ s) (hn : k ≤ 10) (l : Lm fx z c m Φ ls) {i js jv : Nat} (hi : i ∈ [41, 42, 43, 44]) {xs xv : Str} {p p' p'' pos : Pos} {v : V} (hs : locOk fx js xs = true) (hv : locOk fx jv xv = true)
    (es : ls[js]? = some (some (.ref ea))) (ev : ls[jv]? = some (some v)) {Q : Flow → Shared → Prop} (h : ∀ Φ' s', Φ.le Φ' → Lm fx z c m Φ' ls → EX z c C ea t (k + 1) m Φ' σ s' → Q .next s') :
    wpAny (model z.prog z.w) c.A (exec (.Assign [.Attribute (.Name xs p) (strAt i) p'] (.Name xv p'') pos) c.env) Q (fun _ _ => False) s := by
  refine xEEAAAAA (x.led) fun dd obs e nc I ap h1 h2 => ?_
  refine plainObj_wpAny_Assign_Attribute (sees (a.hid obs) hv ev (l.hid obs) I fun Φ₁ v' s₁ le l₁ _ I₁ => sees (a.hid obs) hs es l₁ I₁ fun Φ₂ u' s₂ le₂ l₂ hu I₂ => ?_) rfl
  have hu : u' = .ref ea := hu
  subst hu
  have x₂ : EX z c C ea t k m Φ₂ σ s₂ := EX.of e nc I I₂ ap h1 h2
  exact x₂.set a.zo hk hi hn (I₂.size (a.o.hid obs)) fun s' x' => h Φ₂ s' (le.trans le₂) (l.mono (le.trans le₂)) x'
theorem exc_base (zo : z.Ok) (T : Tok z) (hk : excK z.K C = true) (o : c.Ok z (n + 1)) (x : EX z c C ea t k m Φ σ s) (hn : k ≤ 8) {u v : V} (hv : Rvs z.K Φ [.ref ea, u, v] vals) {R : Result → Shared → Prop}
    (h : ∀ Φ' s', Φ.le Φ' → EX z c C ea t (k + 2) m Φ' σ s' → R (.ok (.ret .none)) s') : codeAny (model z.prog z.w) c.A (.call (.ref 203) ⟨vals, []⟩) R s := by
  obtain ⟨fx, names, p, q, D, hl, hcell, b1, b2, b4⟩ := T.A
  refine xEEAAAAA (x.led) fun dd obs e nc I ap h1 h2 => ?_
  refine enter (c := c.hid obs) (n := n) zo (hl ▸ D) hcell (o.hid obs) I hv (by rw [hl]; rfl) fun env m₁ h₁ tk a₁ _ I₁ l₁ keep => ?_
  have I₁ : Inv z ((c.call m env []).hid obs) m₁ Φ σ { s with heap := h₁, toks := tk } := I₁
  have a₁ : At z n ((c.call m env []).hid obs) fx := a₁
  have a₂ := a₁.unhid
  have l₁ : Lm fx z ((c.call m env []).hid obs) m₁ Φ (start [.ref ea, u, v] 0) := l₁
  have l₂ := l₁.unhid nc
  have x₁ : EX z (c.call m env []) C ea t k m₁ Φ σ { s with heap := h₁, toks := tk } := EX.of (c := c.call m env []) (m := m₁) e nc I₁ I₁ ap (keep _ _ h1) (fun d q => let ⟨q1, es, n', q2, q3⟩ := h2 d q; ⟨q1, es, n', keep _ _ q2, q3⟩)
  clear h1 h2
  refine wpAny_execs_cons (exc_assign hk a₂ x₁ (by omega) l₂ (by simp) b1 b2 rfl rfl fun Φ₂ s₂ le₂ l₃ x₂ => ?_)
  refine wpAny_execs_cons (exc_assign hk a₂ x₂ (by omega) l₃ (by simp) b1 b4 rfl rfl fun Φ₃ s₃ le₃ l₄ x₃ => wpAny_execs_nil ?_)
  refine xEEAAAAA (x₃.led) fun dd' obs' e' nc' I' ap' g1 g2 => ?_
  refine h Φ₃ s₃ (le₂.trans le₃) ?_
  have Ib : Inv z (c.hid obs') m Φ₃ σ s₃ := I'.back (c := c.hid obs') rfl (fun _ q => q)
  exact EX.of e' nc' Ib Ib ap' g1 g2
end
end Mine
end
noncomputable section
namespace Mine
section
variable {z : Z} {n k : Nat} {c : Cx} {m : Str → Option Value} {fx : Fx} {ls : Ls} {X : AH → Prop} {Φ : Fz} {σ : AH} {s : Shared} {C ea t f : Addr} {names : List Str} {body : List Stmt} {args : List V} {vals : List Value}
theorem EX.forget {σ₁ : AH} (x : EX z c C ea t k m Φ σ₁ s) (h : ∀ a o, σ a = some o → σ₁ a = some o) : EX z c C ea t k m Φ σ s := by
  revert x; refine yEA fun dd u1 r => ?_; obtain ⟨obs, e, nc, I⟩ := u1
  exact ⟨dd, ⟨obs, e, nc, I.forget h⟩, r⟩
theorem exc_sub (zo : z.Ok) (T : Tok z) (hk : excK z.K C = true) (o : c.Ok z (n + 2)) (x : EX z c C ea t 0 m Φ σ s) {u v : V} (hv : Rvs z.K Φ [.ref ea, u, v] vals) {R : Result → Shared → Prop}
    (h : ∀ Φ' s', Φ.le Φ' → EX z c C ea t 4 m Φ' σ s' → R (.ok (.ret .none)) s') : codeAny (model z.prog z.w) c.A (.call (.ref 223) ⟨vals, []⟩) R s := by
  obtain ⟨fx, names, sc, kst, psc, p2, pa0, pst, pb0, pd0, pl, p3, pe, p, q, D, hl, hcell, q4, q1, q2, b1, b2, b4⟩ := T.B
  refine xEEAAAAA (x.led) fun dd obs e nc I ap h1 h2 => ?_
  refine enter (c := c.hid obs) (n := n + 1) zo (hl ▸ D) hcell (o.hid obs) I hv (by rw [hl]; rfl) fun env m₁ h₁ tk a₁ _ I₁ l₁ keep => ?_
  have I₁ : Inv z ((c.call m env []).hid obs) m₁ Φ σ { s with heap := h₁, toks := tk } := I₁
  have a₁ : At z (n + 1) ((c.call m env []).hid obs) fx := a₁
  have a₂ := a₁.unhid
  have l₁ : Lm fx z ((c.call m env []).hid obs) m₁ Φ (start [.ref ea, u, v] 0) := l₁
  have g1 := keep _ _ h1
  have g2 : ∀ d, dd = some d → d ≠ ea ∧ ∃ es n, h₁.get? d = some (dictOf es n) ∧ es.length ≤ 0 ∧ ∀ x ∈ es, x.refKey = false := fun d q => let ⟨q1, es, n', q2, q3⟩ := h2 d q; ⟨q1, es, n', keep _ _ q2, q3⟩
  clear h1 h2
  refine xAA (locOk_of b1) fun v1 v2 v3 => ?_
  refine xAA (locOk_of b2) fun w1 w2 w3 => ?_
  refine xAA (locOk_of b4) fun u1 u2 u3 => ?_
  have lt := s_lst (X := fun _ => False) (m := m₁) (ls := start [.ref ea, u, v] 0) (pos := pl) a₁ (sl_cons (s_loc (pos := pb0) a₁ w1 w2 w3) (sl_cons (s_loc (pos := pd0) a₁ u1 u2 u3) sl_nil nofun) nofun) (by simp)
  have sl := sl_cons (s_loc (X := fun _ => False) (m := m₁) (ls := start [.ref ea, u, v] 0) (pos := pa0) a₁ v1 v2 v3) (sl_cons (s_str (k := kst) (pos := pst) (i := 29) (by decide)) (sl_cons lt sl_nil nofun) nofun) nofun
  refine wpAny_execs_cons (wpAny_Expr_any ?_ a₁.o.inter (swaps_none rfl _ _ _))
  refine methodCall_ok rfl q4 (by simp) sl.noStar (glob_any a₁ I₁ q1 q2 (method_of_cls (I₁.fr a₁.o) a₁.zo.X T.ga (cls_val (I₁.fr a₁.o) a₁.zo.X T.ty T.reads T.find rfl ?_)))
  have I₂ := I₁.tok (t := tk + 1)
  refine wpAny_mono (callWith_of_SL (first := []) (X := fun _ => False) (Φ := Φ) (Q := fun vs σ' => ∃ a, σ a = none ∧ vs = [.ref ea, .str 29, .ref a] ∧ σ' = σ.set a (some (.list [u, v]))) a₁ T.keepA sl l₁ I₂ (fun a ha => ⟨a, ha, rfl, rfl⟩) fun Φ₂ vs' vs σ₂ s₂ le₂ l₂ hv₂ I₃ hq => ?_) (fun _ _ h => h) fun _ _ e => no_err e
  revert hq; refine yEAA fun ad hn u6 u7 => ?_; obtain rfl := u6; obtain rfl := u7
  have x₂ : EX z (c.call m env []) C ea t 0 m₁ Φ₂ (σ.set ad (some (.list [u, v]))) s₂ := EX.of (c := c.call m env []) (m := m₁) e nc I₁ I₃ ap g1 g2
  refine wpAny_call (exc_base (n := n) zo T hk a₂.o x₂ (by omega) hv₂ fun Φ₃ s₃ le₃ x₃ => ?_)
  have l₃ := (l₂.unhid nc).mono le₃
  show wpAny _ _ _ _ _ _
  refine wpAny_execs_cons (exc_assign hk a₂ x₃ (by omega) l₃ (by simp) b1 b2 rfl rfl fun Φ₄ s₄ le₄ l₄ x₄ => ?_)
  refine wpAny_execs_cons (exc_assign hk a₂ x₄ (by omega) l₄ (by simp) b1 b4 rfl rfl fun Φ₅ s₅ le₅ l₅ x₅ => wpAny_execs_nil ?_)
  have x₆ := x₅.forget (σ := σ) fun a o q => by rw [AH.set_ne]; exact q; rintro rfl; rw [hn] at q; cases q
  refine xEEAAAAA (x₆.led) fun dd' obs' e' nc' I' ap' f1 f2 => ?_
  refine h Φ₅ s₅ (((le₂.trans le₃).trans le₄).trans le₅) ?_
  have Ib : Inv z (c.hid obs') m Φ₅ σ s₅ := I'.back (c := c.hid obs') rfl (fun _ q => q)
  exact EX.of e' nc' Ib Ib ap' f1 f2
theorem exc_raiseStmt {M : Model} {A : Around} {E : Value → Shared → Prop} {env : Env} {x : Sem Value} {Q : Flow → Shared → Prop} {nm q : Str} {N : Addr} {bs bm : List Value} {hdct : Bool} {sn : List Str} {sub : List Value} {ab : Bool} {col : Option Bool} {dd : Option Addr} {k0 k1 k2 k3 k5 : Option Value} {newId : String}
    (hbase : bm.contains (.type "BaseException") = true) (hh : A.handled = none)
    (h : wpAny M A x (fun v s₁ => ∃ e t d, v = .ref e ∧ s₁.heap.get? C = some (excClassObj nm q C N bs bm hdct sn sub ab col dd k0 k1 k2 k3 k5 newId) ∧ s₁.heap.get? e = some (excObj C t d) ∧ E (.ref e) s₁) E s) :
    wpAny M A (raiseStmt env (some x) none) Q E s := by
  have hcB : (Value.ref C :: bm).contains (.type "BaseException") = true := by rw [List.contains_cons, hbase, Bool.or_true]
  unfold raiseStmt
  refine wpAny_bind (wpAny_mono h (fun v s₁ h₁ => ?_) fun _ _ x => x)
  revert h₁; refine yEEEAAA fun e t d u8 hC he hE => ?_; obtain rfl := u8
  obtain ⟨hp, g, dr, tk, os⟩ := s₁
  repeat (first | with_reducible refine wpAny_loadPart_at he ?_ | with_reducible refine wpAny_loadPart_at hC ?_ | (with_reducible refine wpAny_isSubtype_exc hC ?_; rw [hcB]) | wp_step)
  exact wpAny_raiseNew_none hh hE
theorem EX.made (o : c.Ok z n) (x : EX z c z.trouble ea t k m Φ σ s) : ExcSt z c m Φ σ ea .made s := by
  refine xEEAAAAA (x.led) fun dd obs e nc I ap h1 h2 => ?_
  obtain ⟨G, L⟩ := I.led
  have frmOf : ∀ a, (a = c.L ∨ a ∈ c.outs.map (·.1)) → ∃ m, G a = .frm m := fun a ha => by
    rcases ha with rfl | ha
    · exact ⟨_, L.cur⟩
    · refine xEA (List.mem_map.mp ha) fun p hp u9 => ?_; obtain rfl := u9
      exact ⟨_, L.outs p hp⟩
  have fram : ∀ a, a ∈ c.envs.filterMap (·.frame) → ∃ m, G a = .frm m := fun a ha => by
    refine xEA (List.mem_filterMap.mp ha) fun env he hf => ?_
    refine xAEA (o.fr env he) fun _ b hb hb2 => ?_
    rw [hf] at hb; cases hb
    exact frmOf a hb2
  have gea : ∃ ob, G ea = .hid ob := by
    have : ea ∈ obs.map (·.1) := by rw [e]; exact .head _
    refine xEA (List.mem_map.mp this) fun p hp u10 => ?_; obtain rfl := u10
    exact ⟨_, L.hid p (List.mem_append_left _ hp)⟩
  obtain ⟨obe, gea⟩ := gea
  have L' := L.put (wr := [ea]) (h' := s.heap) (c' := c) (x := fun _ => .free) rfl rfl (fun a ha => by rw [List.mem_singleton.mp ha]; exact .inr ⟨_, gea⟩) (fun a ha => by rw [List.mem_singleton.mp ha]; exact L.new _ (by rw [gea]; exact Cell.noConfusion)) (fun b ob _ e => e) (fun a ha => .inl rfl)
    (fun p hp => .inr ⟨by rw [List.mem_singleton]; intro q; exact ap p hp (by rw [q]; exact .head _), List.mem_append_right _ hp⟩)
  refine xEA (o.ef) fun f hf _ => ?_
  have nfr : ea ∉ c.envs.filterMap (·.frame) := fun q => by obtain ⟨m, q⟩ := fram _ q; rw [gea] at q; cases q
  refine ⟨I.gens, I.drawn, I.os, _, hideAll s.heap (ea :: c.envs.filterMap (·.frame)), .ref t, f, hf, L', fun b ob q => hideAll_get _ (I.base b ob q) fun hm => ?_, fun a ob g1 g2 q => hideAll_get _ q fun hm => ?_, fun b ob q => of_hideAll _ q, hideAll_none _ (.head _), ?_, _, _, h1, rfl, rfl, rfl, rfl⟩
  · rcases List.mem_cons.mp hm with rfl | hm
    · have := L.new b (by rw [gea]; exact Cell.noConfusion); rw [this] at q; cases q
    · obtain ⟨m, g⟩ := fram b hm
      have := L.new b (by rw [g]; exact Cell.noConfusion); rw [this] at q; cases q
  · rcases List.mem_cons.mp hm with rfl | hm
    · exact g1 (by simp)
    · obtain ⟨m, g⟩ := fram a hm
      refine g2 m ?_
      show (if a ∈ [ea] then Cell.free else G a) = _
      rw [if_neg (by rw [List.mem_singleton]; intro q; exact nfr (q ▸ hm))]; exact g
  · have : ∀ l : List Env, (∀ env ∈ l, env ∈ c.envs) → s.heap.FunFrames (hideAll s.heap (ea :: c.envs.filterMap (·.frame))) l := by
      intro l
      induction l with
      | nil => intro _; trivial
      | cons env r ih =>
        intro hin
        refine xAEA (o.fr env (hin _ (.head _))) fun e1 b hb hb2 => ?_
        obtain ⟨m', g⟩ := frmOf b hb2
        have := L.ok b
        rw [g] at this
        revert this; refine yEEEAA fun ob es ep k1 k2 _ => ?_
        exact ⟨by rw [e1]; nofun, ⟨b, ob, hb, hideAll_none _ (.tail _ (List.mem_filterMap.mpr ⟨env, hin _ (.head _), hb⟩)), k1, fun vs q => by rw [k2] at q; cases q⟩, ih fun env' h' => hin _ (.tail _ h')⟩
    exact this _ fun _ h => h
end
end Mine
end
noncomputable section
namespace Mine
section
variable {z : Z} {n k : Nat} {c : Cx} {m : Str → Option Value} {fx : Fx} {ls : Ls} {X : AH → Prop} {Φ : Fz} {σ : AH} {s : Shared} {C ea t f : Addr}
theorem s_raise (g : Gok z) (T : Tok z) (a : At z n c fx) {x : Str} {np cpos pos : Pos} {xs : List Expr} {Ws : Ls → (List V → AH → Prop) → AH → Prop} (h : ∀ m ls, SL z c m fx ls X xs (Ws ls)) (h1 : fx.isGlob x = true) (h2 : nsIn z.K mainGlobals x = some (some (.ref z.trouble))) :
    SS z c fx X (.Raise (some (.Call (.Name x np) xs [] cpos)) none pos) (fun _ _ ls σ => Ws ls (fun vs σ => vs.length = 2 ∧ 3 ≤ n ∧ X σ) σ) := fun R N Φ σ m ls s l I w => by
  obtain ⟨nm, qn, NN, bs, bm, hdct, sn, sub, ab, col, dd, k0, k1, k2, k3, k5, hC, b1, b2, b3, b4⟩ := T.cls
  rw [arm_exec_Raise]
  refine wpAny_bind (wpAny_standAt ?_)
  simp only [evalOpt, Option.map]
  refine exc_raiseStmt (C := z.trouble) (nm := nm) (q := qn) (N := NN) (bs := bs) (bm := bm) (hdct := hdct) (sn := sn) (sub := sub) (ab := ab) (col := col) (dd := dd) (k0 := k0) (k1 := k1) (k2 := k2) (k3 := k3) (k5 := k5) (newId := "Exception.__new__") b1 a.o.hd ?_
  refine wpAny_bind ?_
  show wpAny _ _ (do callWith cpos (← eval (.Name x np) c.env) [] (backTo cpos (starEach xs c.env)) (backToKw cpos (keywordEach [] c.env))) _ _ s
  refine wpAny_bind (glob_any a I h1 h2 ?_)
  refine callWith_of_SL (first := []) a T.keep (h m ls) l I w fun Φ₁ vs' vs σ₁ s₁ le _ hv I₁ q => wpAny_call ?_
  revert q; refine yAA fun q1 q2 q3 => ?_
  obtain ⟨u, v, rfl⟩ : ∃ u v, vs = [u, v] := by
    match vs, q1 with
    | [u, v], _ => exact ⟨u, v, rfl⟩
  have hlen := hv.length
  obtain ⟨hh, gg, d, tk, os⟩ := s₁
  have kp : ∀ b o, hh.get? b = some o → ((hh.push (tup0 vs')).push (excObj z.trouble hh.objs.size none)).get? b = some o := fun b o e => Heap.get?_push_of_some _ (Heap.get?_push_of_some _ e)
  have hx : ((hh.push (tup0 vs')).push (excObj z.trouble hh.objs.size none)).get? (hh.objs.size + 1) = some (excObj z.trouble hh.objs.size none) := by
    have := Heap.get?_push_size (hh.push (tup0 vs')) (o := excObj z.trouble hh.objs.size none) rfl
    rwa [Heap.size_push] at this
  have X₁ := a.zo.X.keeps I₁.base
  refine exc_call (by rw [List.contains_cons, b2, Bool.or_true]) (by rw [List.contains_cons, b3]; rfl) (by rw [List.contains_cons, b4]; rfl) (I₁.base _ _ (a.zo.X _ _ hC)) (looks_findIn X₁ T.init) (fun self => bind_fn X₁ self T.fn) (by rw [List.nil_append, hlen, sizeLine_eq]; simp) ?_
  obtain ⟨n, rfl⟩ : ∃ n', n = n' + 3 := ⟨n - 3, by omega⟩
  have ou : ({ c with A := c.A.under (.builtin "type.__call__" ⟨.ref z.trouble :: vs', []⟩) } : Cx).Ok z (n + 2) := a.o.under (by omega)
  have st := InvH.start (wr := [hh.objs.size + 1]) (t := tk) (h' := (hh.push (tup0 vs')).push (excObj z.trouble hh.objs.size none)) ou (I₁.withA (A := c.A.under (.builtin "type.__call__" ⟨.ref z.trouble :: vs', []⟩))) (fun b hb => by rw [List.mem_singleton.mp hb]; exact Nat.le_succ _) (Kp.of_keeps kp)
    (fun b hb => by rw [List.mem_singleton.mp hb]; exact ⟨_, hx, fun v => Data.noConfusion⟩)
  have ex : EX z { c with A := c.A.under (.builtin "type.__call__" ⟨.ref z.trouble :: vs', []⟩) } z.trouble (hh.objs.size + 1) hh.objs.size 0 m Φ₁ σ₁ ⟨(hh.push (tup0 vs')).push (excObj z.trouble hh.objs.size none), gg, d, tk, os⟩ :=
    ⟨none, st.1, st.2, hx, fun d q => by cases q⟩
  refine exc_sub (n := n) a.zo T T.exc ou ex (vals := .ref (hh.objs.size + 1) :: vs') (u := u) (v := v) ⟨_, _, rfl, rfl, hv⟩ fun Φ₂ s₂ le₂ x₂ => ⟨rfl, ?_⟩
  show wpAny _ _ _ _ _ _
  refine wpAny_bind (wpAny_standAt (wpAny_pure ?_))
  refine xEEAAAAA (x₂.led) fun dd' obs' e' nc' I' ap' f1 f2 => ?_
  have I'' : Inv z (c.hid obs') m Φ₂ σ₁ s₂ := I'.ofA (c := c.hid obs')
  have x₃ : EX z c z.trouble (hh.objs.size + 1) hh.objs.size 4 m Φ₂ σ₁ s₂ := EX.of e' nc' I'' I'' ap' f1 f2
  exact ⟨_, _, _, rfl, I''.base _ _ (a.zo.X _ _ hC), f1, Φ₂, σ₁, m, _, .made, rfl, le.trans le₂, x₃.made a.o, q3⟩
theorem s_try (T : Tok z) (a : At z n c fx) (cf : c.Fun) {e : Expr} {x : Str} {ep np cp rp hp pos : Pos} {b : Bool} {kk : Nat} {W : (AH → Prop) → Ls → (V → AH → Prop) → AH → Prop} (h : ∀ X' m ls, SE z c m fx ls X' e (W X' ls)) (hc : notComp e = true) (h1 : fx.isGlob x = true) (h2 : nsIn z.K mainGlobals x = some (some (.ref z.trouble))) :
    SS z c fx X (.Try [.Expr e ep] [.ExceptHandler (some (.Name x np)) none [.Return (some (.Constant (.bool b) kk cp)) rp] hp] [] [] pos) (fun R N ls σ => W (fun σ => R (.bool b) σ) ls (fun _ σ => N ls σ) σ) := fun R N Φ σ m ls s l I w => by
  have main : wpAny (model z.prog z.w) c.A (execs [.Expr e ep] c.env) (fun f s₁ => f = .next ∧ FL z c fx Φ R N .next s₁) (ERR z c Φ (fun σ => R (.bool b) σ)) s :=
    wpAny_execs_cons (wpAny_Expr_any ((h (fun σ => R (.bool b) σ) m ls).bind l I w fun Φ₁ v' v σ₁ s₁ le l₁ hv I₁ q => wpAny_execs_nil ⟨rfl, FL.up le (FL.now l₁ I₁ q)⟩) a.o.inter (swaps_none hc _ _ _))
  refine wpAny_Try_except (wpAny_mono main (fun f s₁ hf => ?_) fun e s₁ he => ?_)
  · obtain ⟨rfl, hf⟩ := hf; exact wpAny_execs_nil hf
  · revert he; refine yEEEEEAAA fun Φ₁ σ₁ m₁ ea md u1 le xs q => ?_; obtain rfl := u1
    refine exc_note a.o.hA cf xs fun h₁ x₁ => ?_
    refine xEEEEAAAA (x₁.ex) fun G B a0 f hf L hB cov ok => ?_
    refine wpAny_landsW ok fun h₂ k1 u1 => ?_
    obtain ⟨L₂, cov₂⟩ := L.slots cov k1.1 u1
    have B₂ : ∀ b o, z.h₀.get? b = some o → h₂.get? b = some o := fun b o e => k1.1 b o (hB b o e)
    obtain ⟨nm, qn, NN, bs, bm, hdct, sn, sub, ab, col, dd, k0, k1', k2, k3, k5, hC, b1, b2, b3, b4⟩ := T.cls
    refine xEA (k1.there) fun ob hob hobc => ?_
    have h1 := h1
    unfold Fx.isGlob at h1
    simp only [Bool.and_eq_true, beq_iff_eq, bne_iff_ne, ne_eq] at h1
    have hg : h₂.Ns c.env.globals z.mg := by rw [a.o.eg]; exact a.zo.T.g.keeps B₂
    refine wpAny_handleBy_cons (codeAny_handlers_test (Calls.Name_function_global a.o.ek (by rw [a.kind]; exact h1.1) (loadGlobal_global hg (mg_of a.zo.X a.zo.T.g h2) ?_) (by simpa using h1.2))) (by intro q; cases q)
    refine wpAny_excMatches_sub_self (B₂ _ _ (a.zo.X _ _ hC)) hob hobc b1 (codeAny_handlers_suite ?_)
    refine lands_againW k1 fun h₃ k3' u2 => ?_
    obtain ⟨L₃, cov₃⟩ := L₂.slots cov₂ k3'.1 u2
    refine wpAny_execs_cons (wpAny_Return_some (Constant_bool ?_))
    exact ⟨Φ₁, .bool b, σ₁, m₁, le, rfl, ⟨xs.gens, xs.drawn, xs.os, fun b o e => k3'.1 b o (hB b o e), G, L₃⟩, q⟩
end
end Mine
end
noncomputable section
namespace Mine
noncomputable def e0 : Expr := .Constant .none 0 default
noncomputable def s0 : Stmt := .Pass default
noncomputable def kids : Expr → List Expr
  | .BoolOp _ xs _ => xs
  | .BinOp x _ y _ => [x, y]
  | .UnaryOp _ x _ => [x]
  | .IfExp a b c _ => [a, b, c]
  | .ListComp x gs _ _ => x :: gs.flatMap fun g => [g.target, g.iter]
  | .Compare x _ ys _ => x :: ys
  | .Call f xs _ _ => f :: xs
  | .Attribute x _ _ => [x]
  | .Subscript x y _ => [x, y]
  | .List xs _ => xs
  | .Tuple xs _ _ => xs
  | .Slice a b c _ => a.toList ++ (b.toList ++ c.toList)
  | _ => []
noncomputable def kid (i : Nat) (e : Expr) : Expr := (kids e).getD i e0
noncomputable def nmOf : Expr → Str
  | .Name x _ => x
  | _ => strAt 0
noncomputable def kOf : Expr → Nat
  | .Constant _ k _ => k
  | .Tuple _ k _ => k
  | _ => 0
noncomputable def scOf : Expr → Scope
  | .ListComp _ _ s _ => s
  | _ => default
noncomputable def ksS : Stmt → List Expr
  | .Return x _ => x.toList
  | .Assign ts x _ => ts ++ [x]
  | .For t i _ _ _ => [t, i]
  | .While x _ _ _ => [x]
  | .If x _ _ _ => [x]
  | .Raise x _ _ => x.toList
  | .Expr x _ => [x]
  | _ => []
noncomputable def kS (i : Nat) (s : Stmt) : Expr := (ksS s).getD i e0
noncomputable def bsS : Stmt → List (List Stmt)
  | .For _ _ b _ _ => [b]
  | .While _ b _ _ => [b]
  | .If _ b c _ => [b, c]
  | .Try b _ _ _ _ => [b]
  | _ => []
noncomputable def bS (i : Nat) (s : Stmt) : List Stmt := (bsS s).getD i []
noncomputable def hOf : Stmt → Expr × Stmt × Pos
  | .Try _ [.ExceptHandler (some x) _ [st] p] _ _ _ => (x, st, p)
  | s => (e0, s0, default)
noncomputable def callE (nm : Str) (xs : List Expr) (e : Expr) : Expr := .Call (.Name nm (kid 0 e).pos) xs [] e.pos
noncomputable def methE (x : Expr) (nm : Str) (xs : List Expr) (e : Expr) : Expr := .Call (.Attribute x nm (kid 0 e).pos) xs [] e.pos
noncomputable def negE (j : Int) (e : Expr) : Expr := .UnaryOp .USub (.Constant (.int j) (kOf (kid 0 e)) (kid 0 e).pos) e.pos
noncomputable def toV (v : V) (e : Expr) : Expr := match v with
  | .none => .Constant .none (kOf e) e.pos
  | .bool b => .Constant (.bool b) (kOf e) e.pos
  | .int i => if i < 0 then negE (-i) e else .Constant (.int i) (kOf e) e.pos
  | .str k => .Constant (.str (strAt k)) (kOf e) e.pos
  | .stat _ => .Name (nmOf e) e.pos
  | _ => e
noncomputable def namesE (fx : Fx) : List Nat → List Expr → List Expr
  | [], _ => []
  | i :: is, es => .Name (nmI fx i) (es.headD e0).pos :: namesE fx is es.tail
noncomputable def tgtE (fx : Fx) (is : List Nat) (e : Expr) : Expr := .Tuple (namesE fx is (kids e)) (kOf e) e.pos
noncomputable def mkComp (x t i e : Expr) : Expr := .ListComp x [⟨t, i, [], 0⟩] (scOf e) e.pos
mutual
noncomputable def toE : Nat → Fx → IE → Expr → Expr
  | 0, _, _, e => e
  | f + 1, fx, .loc i, e => .Name (nmI fx i) e.pos
  | f + 1, fx, .val v, e => toV v e
  | f + 1, fx, .attr a k, e => .Attribute (toE f fx a (kid 0 e)) (strAt k) e.pos
  | f + 1, fx, .call _ as, e => callE (nmOf (kid 0 e)) (toL f fx as (kids e).tail) e
  | f + 1, fx, .new _ _ as, e => callE (nmOf (kid 0 e)) (toL f fx as (kids e).tail) e
  | f + 1, fx, .meth a k as, e => methE (toE f fx a (kid 0 (kid 0 e))) (strAt k) (toL f fx as (kids e).tail) e
  | f + 1, fx, .append a b, e => methE (toE f fx a (kid 0 (kid 0 e))) "append" [toE f fx b (kid 1 e)] e
  | f + 1, fx, .pop a, e => methE (toE f fx a (kid 0 (kid 0 e))) "pop" [] e
  | f + 1, fx, .popAt a b, e => methE (toE f fx a (kid 0 (kid 0 e))) "pop" [toE f fx b (kid 1 e)] e
  | f + 1, fx, .insert a b c, e => methE (toE f fx a (kid 0 (kid 0 e))) "insert" [toE f fx b (kid 1 e), toE f fx c (kid 2 e)] e
  | f + 1, fx, .dget a b, e => methE (toE f fx a (kid 0 (kid 0 e))) "get" [toE f fx b (kid 1 e), .Constant .none (kOf (kid 2 e)) (kid 2 e).pos] e
  | f + 1, fx, .isinst a _, e => callE "isinstance" [toE f fx a (kid 1 e), kid 2 e] e
  | f + 1, fx, .len a, e => callE "len" [toE f fx a (kid 1 e)] e
  | f + 1, fx, .abs a, e => callE "abs" [toE f fx a (kid 1 e)] e
  | f + 1, fx, .toInt a, e => callE "int" [toE f fx a (kid 1 e)] e
  | f + 1, fx, .copy a, e => callE "list" [toE f fx a (kid 1 e)] e
  | f + 1, fx, .cmp op a b, e => .Compare (toE f fx a (kid 0 e)) [op.op] [toE f fx b (kid 1 e)] e.pos
  | f + 1, fx, .cmp2 _ _ _ _ _, e => e
  | f + 1, fx, .and a b, e => .BoolOp .And (toA f fx (.and a b) (kids e)) e.pos
  | f + 1, fx, .or a b, e => .BoolOp .Or (toO f fx (.or a b) (kids e)) e.pos
  | f + 1, fx, .not a, e => .UnaryOp .Not (toE f fx a (kid 0 e)) e.pos
  | f + 1, fx, .add a b, e => .BinOp (toE f fx a (kid 0 e)) .Add (toE f fx b (kid 1 e)) e.pos
  | f + 1, fx, .sub a b, e => .BinOp (toE f fx a (kid 0 e)) .Sub (toE f fx b (kid 1 e)) e.pos
  | f + 1, fx, .mul a b, e => .BinOp (toE f fx a (kid 0 e)) .Mult (toE f fx b (kid 1 e)) e.pos
  | f + 1, fx, .mod a b, e => .BinOp (toE f fx a (kid 0 e)) .Mod (toE f fx b (kid 1 e)) e.pos
  | f + 1, fx, .ite c a b, e => .IfExp (toT f fx c (kid 0 e)) (toE f fx a (kid 1 e)) (toE f fx b (kid 2 e)) e.pos
  | f + 1, fx, .idx a i, e => .Subscript (toE f fx a (kid 0 e)) (toE f fx i (kid 1 e)) e.pos
  | f + 1, fx, .words _ i, e => .Subscript (.Name (nmOf (kid 0 e)) (kid 0 e).pos) (toE f fx i (kid 1 e)) e.pos
  | f + 1, fx, .from a lo, e => .Subscript (toE f fx a (kid 0 e)) (.Slice (some (toE f fx lo (kid 0 (kid 1 e)))) none none (kid 1 e).pos) e.pos
  | f + 1, fx, .upto a hi, e => .Subscript (toE f fx a (kid 0 e)) (.Slice none (some (toE f fx hi (kid 0 (kid 1 e)))) none (kid 1 e).pos) e.pos
  | f + 1, fx, .part a lo hi, e => .Subscript (toE f fx a (kid 0 e)) (.Slice (some (toE f fx lo (kid 0 (kid 1 e)))) (some (toE f fx hi (kid 1 (kid 1 e)))) none (kid 1 e).pos) e.pos
  | f + 1, fx, .back a, e => .Subscript (toE f fx a (kid 0 e)) (.Slice (some (negE 2 (kid 0 (kid 1 e)))) none (some (negE 1 (kid 1 (kid 1 e)))) (kid 1 e).pos) e.pos
  | f + 1, fx, .tup as, e => .Tuple (toL f fx as (kids e)) (kOf e) e.pos
  | f + 1, fx, .lst as, e => .List (toL f fx as (kids e)) e.pos
  | f + 1, fx, .dict0 _, e => .Dict [] [] e.pos
  | f + 1, fx, .comp elt tgt it, e => mkComp (toE f (fxC fx (scOf e)) elt (kid 0 e)) (.Name (nmI fx tgt) (kid 1 e).pos) (toI f fx it (kid 2 e)) e
  | f + 1, fx, .comp2 elt t1 t2 a b, e => mkComp (toE f (fxC fx (scOf e)) elt (kid 0 e)) (tgtE fx [t1, t2] (kid 1 e)) (callE "zip" [toE f fx a (kid 1 (kid 2 e)), toE f fx b (kid 2 (kid 2 e))] (kid 2 e)) e
  | f + 1, fx, .frz a, e => toE f fx a e
  | f + 1, fx, .stop, e => e
noncomputable def toA : Nat → Fx → IE → List Expr → List Expr
  | 0, _, _, xs => xs
  | f + 1, fx, ie, xs => match xs with
    | [] => []
    | x :: r => match r with
      | [] => [toE f fx ie x]
      | y :: r => match ie with
        | .and a b => toE f fx a x :: toA f fx b (y :: r)
        | _ => []
noncomputable def toO : Nat → Fx → IE → List Expr → List Expr
  | 0, _, _, xs => xs
  | f + 1, fx, ie, xs => match xs with
    | [] => []
    | x :: r => match r with
      | [] => [toE f fx ie x]
      | y :: r => match ie with
        | .or a b => toE f fx a x :: toO f fx b (y :: r)
        | _ => []
noncomputable def toT : Nat → Fx → IE → Expr → Expr
  | 0, _, _, e => e
  | f + 1, fx, ie, e => match ie with
    | .and a b => .BoolOp .And (toTA f fx (.and a b) (kids e)) e.pos
    | .or a b => .BoolOp .Or (toTO f fx (.or a b) (kids e)) e.pos
    | .not a => .UnaryOp .Not (toT f fx a (kid 0 e)) e.pos
    | .cmp op a b => .Compare (toE f fx a (kid 0 e)) [op.op] [toE f fx b (kid 1 e)] e.pos
    | .cmp2 a op b op' c => .Compare (toE f fx a (kid 0 e)) [op.op, op'.op] [toE f fx b (kid 1 e), toE f fx c (kid 2 e)] e.pos
    | ie => toE f fx ie e
noncomputable def toTA : Nat → Fx → IE → List Expr → List Expr
  | 0, _, _, xs => xs
  | f + 1, fx, ie, xs => match xs with
    | [] => []
    | x :: r => match r with
      | [] => [toT f fx ie x]
      | y :: r => match ie with
        | .and a b => toT f fx a x :: toTA f fx b (y :: r)
        | _ => []
noncomputable def toTO : Nat → Fx → IE → List Expr → List Expr
  | 0, _, _, xs => xs
  | f + 1, fx, ie, xs => match xs with
    | [] => []
    | x :: r => match r with
      | [] => [toT f fx ie x]
      | y :: r => match ie with
        | .or a b => toT f fx a x :: toTO f fx b (y :: r)
        | _ => []
noncomputable def toL : Nat → Fx → IL → List Expr → List Expr
  | 0, _, _, xs => xs
  | f + 1, fx, .nil, _ => []
  | f + 1, fx, .cons a r, xs => toE f fx a (xs.headD e0) :: toL f fx r xs.tail
noncomputable def toI : Nat → Fx → IT → Expr → Expr
  | 0, _, _, e => e
  | f + 1, fx, .seq a, e => toE f fx a e
  | f + 1, fx, .range1 a, e => callE "range" [toE f fx a (kid 1 e)] e
  | f + 1, fx, .down a, e => callE "range" [toE f fx a (kid 1 e), negE 1 (kid 2 e), negE 1 (kid 3 e)] e
end
mutual
noncomputable def toS : Nat → Fx → IS → Stmt → Stmt
  | 0, _, _, s => s
  | f + 1, fx, .expr a, s => .Expr (toE f fx a (kS 0 s)) s.pos
  | f + 1, fx, .set i a, s => .Assign [.Name (nmI fx i) (kS 0 s).pos] (match a with
    | .comp elt tgt it => mkComp (toE f (fxC fx (scOf (kS 1 s))) elt (kid 0 (kS 1 s))) (.Name (nmI fx tgt) (kid 1 (kS 1 s)).pos) (toI f fx it (kid 2 (kS 1 s))) (kS 1 s)
    | .comp2 elt t1 t2 a b => mkComp (toE f (fxC fx (scOf (kS 1 s))) elt (kid 0 (kS 1 s))) (tgtE fx [t1, t2] (kid 1 (kS 1 s))) (callE "zip" [toE f fx a (kid 1 (kid 2 (kS 1 s))), toE f fx b (kid 2 (kid 2 (kS 1 s)))] (kid 2 (kS 1 s))) (kS 1 s)
    | a => toE f fx a (kS 1 s)) s.pos
  | f + 1, fx, .setAttr o k a, s => .Assign [.Attribute (toE f fx o (kid 0 (kS 0 s))) (strAt k) (kS 0 s).pos] (toE f fx a (kS 1 s)) s.pos
  | f + 1, fx, .setSub o i a, s => .Assign [.Subscript (toE f fx o (kid 0 (kS 0 s))) (toE f fx i (kid 1 (kS 0 s))) (kS 0 s).pos] (toE f fx a (kS 1 s)) s.pos
  | f + 1, fx, .unpack rev is a, s => .Assign [tgtE fx is (kS 0 s)] (match a with
    | .tup as => .Tuple (toL f fx as (kids (kS 1 s))) (kOf (kS 1 s)) (kS 1 s).pos
    | a => toE f fx a (kS 1 s)) s.pos
  | f + 1, fx, .ifs c t e, s => .If (toT f fx c (kS 0 s)) (toB f fx t (bS 0 s)) (toB f fx e (bS 1 s)) s.pos
  | f + 1, fx, .whiles c b, s => .While (toT f fx c (kS 0 s)) (toB f fx b (bS 0 s)) [] s.pos
  | f + 1, fx, .fors tgt it b, s => .For (.Name (nmI fx tgt) (kS 0 s).pos) (toI f fx it (kS 1 s)) (toB f fx b (bS 0 s)) [] s.pos
  | f + 1, fx, .forEnum t1 t2 e b, s => .For (tgtE fx [t1, t2] (kS 0 s)) (callE "enumerate" [toE f fx e (kid 1 (kS 1 s))] (kS 1 s)) (toB f fx b (bS 0 s)) [] s.pos
  | f + 1, fx, .ret a, s => .Return (some (toE f fx a (kS 0 s))) s.pos
  | f + 1, fx, .ret0, s => .Return none s.pos
  | f + 1, fx, .raise as, s => .Raise (some (callE (nmOf (kid 0 (kS 0 s))) (toL f fx as (kids (kS 0 s)).tail) (kS 0 s))) none s.pos
  | f + 1, fx, .tryT a b, s => .Try [.Expr (toE f fx a (kS 0 ((bS 0 s).headD s0))) ((bS 0 s).headD s0).pos] [.ExceptHandler (some (.Name (nmOf (hOf s).1) (hOf s).1.pos)) none [.Return (some (.Constant (.bool b) (kOf (kS 0 (hOf s).2.1)) (kS 0 (hOf s).2.1).pos)) (hOf s).2.1.pos] (hOf s).2.2] [] [] s.pos
  | f + 1, fx, .stop, s => s
noncomputable def toB : Nat → Fx → IB → List Stmt → List Stmt
  | 0, _, _, b => b
  | f + 1, fx, .nil, _ => []
  | f + 1, fx, .cons s r, b => toS f fx s (b.headD s0) :: toB f fx r b.tail
end
noncomputable def notStar : Expr → Bool
  | .Starred .. => false
  | _ => true
theorem notStar_ok {e : Expr} (h : notStar e = true) : ∀ x p, e ≠ .Starred x p := fun x p q => by subst q; cases h
noncomputable def biOk (K : Frag) (fx : Fx) (x : Str) : Bool := fx.isGlob x && decide (nsIn K mainGlobals x = some none)
theorem biOk_of {K : Frag} {fx : Fx} {x : Str} {v : Value} (h : biOk K fx x = true) (hb : bootBuiltins x = some v) (hm : x ≠ "__name__") : Bi K fx x v := by
  unfold biOk at h
  exact a2 h fun h1 h2 => ⟨h1, of_decide_eq_true h2, hb, hm⟩
noncomputable def plainT : Expr → Bool
  | .Call .. => true
  | .Name .. => true
  | _ => false
theorem ePlain {e : Expr} {P : Expr → Prop} (h : plainT e = true) (k1 : ∀ f xs ks p, P (.Call f xs ks p)) (k2 : ∀ x p, P (.Name x p)) : P e := by
  cases e with
  | Call f xs ks p => exact k1 f xs ks p
  | Name x p => exact k2 x p
  | _ => exact absurd h Bool.false_ne_true
theorem plain_of {e : Expr} (h : plainT e = true) : ∀ env whole, isTrue e env whole = (do let v ← whole; standAt e.pos; holding [v] (truthy v)) := ePlain (P := fun e => ∀ env whole, isTrue e env whole = (do let v ← whole; standAt e.pos; holding [v] (truthy v))) h (fun f xs ks p => fun _ _ => rfl) (fun x p => fun _ _ => rfl)
noncomputable def okV (K : Frag) (fx : Fx) (v : V) (e : Expr) : Bool := match v with
  | .none => true
  | .bool _ => true
  | .int _ => true
  | .str k => decide (k < strMany)
  | .stat a => fx.isGlob (nmOf e) && decide (nsIn K mainGlobals (nmOf e) = some (some (.ref a))) && (a == 44 || a == 47)
  | _ => false
noncomputable def locIs (fx : Fx) (i : Nat) (x : Str) : Bool := fx.names[i]? == some x && fx.kinds.lookup x == some .local
theorem locIs_of {fx : Fx} {i : Nat} {x : Str} (h : locIs fx i x = true) : fx.names[i]? = some x ∧ fx.kinds.lookup x = some .local := a2 h fun p q => ⟨eq_of_beq p, eq_of_beq q⟩
noncomputable def namesK (fx : Fx) (is : List Nat) : Bool := is.all fun i => locIs fx i (nmI fx i)
theorem namesK_of {fx : Fx} : ∀ {is : List Nat} {es : List Expr}, namesK fx is = true → namesOk fx is (namesE fx is es)
  | [], _, _ => rfl
  | i :: is, es, h => a2 (show (locIs fx i (nmI fx i) && namesK fx is) = true from h) fun h1 h2 => xA (locIs_of h1) fun h3 h4 => ⟨_, _, _, rfl, h3, h4, namesK_of h2⟩
noncomputable def hposOk (e : Expr) : Bool := decide ((kid 0 e).pos.endLine = e.pos.line)
noncomputable def cmpTop (op : Cmp) (y : Expr) : Bool := !(behindInMarks op.op y)
noncomputable def compTop (fx : Fx) (sc : Scope) (is : List Nat) (it : Expr) : Bool := compOk fx sc && tgtsOk fx sc is && namesK (fxC fx sc) is && notSet it
noncomputable def setTop (fx : Fx) (i : Nat) (t v : Expr) : Bool := locIs fx i (nmI fx i) && t.pos.line == v.pos.line && !((scOf v).names.any fun p => p.1 == nmI fx i && (p.2 == .local || p.2 == .cell))
mutual
noncomputable def okE (K : Frag) : Nat → Fx → IE → Expr → Bool
  | 0, _, _, _ => false
  | f + 1, fx, .loc i, e => locOk fx i (nmI fx i)
  | f + 1, fx, .val v, e => okV K fx v e
  | f + 1, fx, .attr a k, e => attrSafe (toE f fx a (kid 0 e)) && decide (k < strMany) && okE K f fx a (kid 0 e)
  | f + 1, fx, .call fa as, e => fx.isGlob (nmOf (kid 0 e)) && decide (nsIn K mainGlobals (nmOf (kid 0 e)) = some (some (.ref fa))) && keepIn K (.ref fa) && okL K f fx as (kids e).tail
  | f + 1, fx, .new C fi as, e => fx.isGlob (nmOf (kid 0 e)) && decide (nsIn K mainGlobals (nmOf (kid 0 e)) = some (some (.ref C))) && keepIn K (.ref C) && ownCls.contains C && decide (findIn K (.ref C) "__init__" = some (some (.ref fi))) && decide (typeIn K (.ref fi) = some (.type "function")) && okL K f fx as (kids e).tail
  | f + 1, fx, .meth a k as, e => attrSafe (toE f fx a (kid 0 (kid 0 e))) && hposOk e && decide ((toL f fx as (kids e).tail).length < 30) && decide (k < strMany) && okE K f fx a (kid 0 (kid 0 e)) && okL K f fx as (kids e).tail
  | f + 1, fx, .append a b, e => attrSafe (toE f fx a (kid 0 (kid 0 e))) && hposOk e && notStar (toE f fx b (kid 1 e)) && okE K f fx a (kid 0 (kid 0 e)) && okE K f fx b (kid 1 e)
  | f + 1, fx, .pop a, e => attrSafe (toE f fx a (kid 0 (kid 0 e))) && hposOk e && okE K f fx a (kid 0 (kid 0 e))
  | f + 1, fx, .popAt a b, e => attrSafe (toE f fx a (kid 0 (kid 0 e))) && hposOk e && notStar (toE f fx b (kid 1 e)) && okE K f fx a (kid 0 (kid 0 e)) && okE K f fx b (kid 1 e)
  | f + 1, fx, .insert a b c, e => attrSafe (toE f fx a (kid 0 (kid 0 e))) && hposOk e && notStar (toE f fx b (kid 1 e)) && notStar (toE f fx c (kid 2 e)) && okE K f fx a (kid 0 (kid 0 e)) && okE K f fx b (kid 1 e) && okE K f fx c (kid 2 e)
  | f + 1, fx, .dget a b, e => attrSafe (toE f fx a (kid 0 (kid 0 e))) && hposOk e && notStar (toE f fx b (kid 1 e)) && okE K f fx a (kid 0 (kid 0 e)) && okE K f fx b (kid 1 e)
  | f + 1, fx, .isinst a kd, e => biOk K fx "isinstance" && notStar (toE f fx a (kid 1 e)) && kindOk K fx kd (kid 2 e) && kd.ok && okE K f fx a (kid 1 e)
  | f + 1, fx, .len a, e => biOk K fx "len" && notStar (toE f fx a (kid 1 e)) && okE K f fx a (kid 1 e)
  | f + 1, fx, .abs a, e => biOk K fx "abs" && notStar (toE f fx a (kid 1 e)) && okE K f fx a (kid 1 e)
  | f + 1, fx, .toInt a, e => biOk K fx "int" && notStar (toE f fx a (kid 1 e)) && okE K f fx a (kid 1 e)
  | f + 1, fx, .copy a, e => biOk K fx "list" && notStar (toE f fx a (kid 1 e)) && okE K f fx a (kid 1 e)
  | f + 1, fx, .cmp op a b, e => cmpTop op (toE f fx b (kid 1 e)) && okE K f fx a (kid 0 e) && okE K f fx b (kid 1 e)
  | f + 1, fx, .cmp2 _ _ _ _ _, e => false
  | f + 1, fx, .and a b, e => okA K f fx (.and a b) (kids e)
  | f + 1, fx, .or a b, e => okO K f fx (.or a b) (kids e)
  | f + 1, fx, .not a, e => okE K f fx a (kid 0 e)
  | f + 1, fx, .add a b, e => okE K f fx a (kid 0 e) && okE K f fx b (kid 1 e)
  | f + 1, fx, .sub a b, e => okE K f fx a (kid 0 e) && okE K f fx b (kid 1 e)
  | f + 1, fx, .mul a b, e => okE K f fx a (kid 0 e) && okE K f fx b (kid 1 e)
  | f + 1, fx, .mod a b, e => okE K f fx a (kid 0 e) && okE K f fx b (kid 1 e)
  | f + 1, fx, .ite c a b, e => okT K f fx c (kid 0 e) && okE K f fx a (kid 1 e) && okE K f fx b (kid 2 e)
  | f + 1, fx, .idx a i, e => idxSafe (toE f fx i (kid 1 e)) && okE K f fx a (kid 0 e) && okE K f fx i (kid 1 e)
  | f + 1, fx, .words ad i, e => decide (ad = 682) && idxSafe (toE f fx i (kid 1 e)) && fx.isGlob (nmOf (kid 0 e)) && decide (nsIn K mainGlobals (nmOf (kid 0 e)) = some (some (.ref 682))) && okE K f fx i (kid 1 e)
  | f + 1, fx, .from a lo, e => okE K f fx a (kid 0 e) && okE K f fx lo (kid 0 (kid 1 e))
  | f + 1, fx, .upto a hi, e => okE K f fx a (kid 0 e) && okE K f fx hi (kid 0 (kid 1 e))
  | f + 1, fx, .part a lo hi, e => okE K f fx a (kid 0 e) && okE K f fx lo (kid 0 (kid 1 e)) && okE K f fx hi (kid 1 (kid 1 e))
  | f + 1, fx, .back a, e => okE K f fx a (kid 0 e)
  | f + 1, fx, .tup as, e => decide ((toL f fx as (kids e)).length ≤ 1000) && okL K f fx as (kids e)
  | f + 1, fx, .lst as, e => decide ((toL f fx as (kids e)).length ≤ 1000) && okL K f fx as (kids e)
  | f + 1, fx, .dict0 _, e => true
  | f + 1, fx, .comp elt tgt it, e => compTop fx (scOf e) [tgt] (toI f fx it (kid 2 e)) && okE K f (fxC fx (scOf e)) elt (kid 0 e) && okI K f fx it (kid 2 e)
  | f + 1, fx, .comp2 elt t1 t2 a b, e => compTop fx (scOf e) [t1, t2] (callE "zip" [] e) && biOk K fx "zip" && notStar (toE f fx a (kid 1 (kid 2 e))) && notStar (toE f fx b (kid 2 (kid 2 e))) && okE K f (fxC fx (scOf e)) elt (kid 0 e) && okE K f fx a (kid 1 (kid 2 e)) && okE K f fx b (kid 2 (kid 2 e))
  | f + 1, fx, .frz a, e => okE K f fx a e
  | f + 1, fx, .stop, e => true
noncomputable def okA (K : Frag) : Nat → Fx → IE → List Expr → Bool
  | 0, _, _, _ => false
  | f + 1, fx, ie, xs => match xs with
    | [] => false
    | x :: r => match r with
      | [] => okE K f fx ie x
      | y :: r => match ie with
        | .and a b => !((toA f fx b (y :: r)).isEmpty) && okE K f fx a x && okA K f fx b (y :: r)
        | _ => false
noncomputable def okO (K : Frag) : Nat → Fx → IE → List Expr → Bool
  | 0, _, _, _ => false
  | f + 1, fx, ie, xs => match xs with
    | [] => false
    | x :: r => match r with
      | [] => okE K f fx ie x
      | y :: r => match ie with
        | .or a b => !((toO f fx b (y :: r)).isEmpty) && okE K f fx a x && okO K f fx b (y :: r)
        | _ => false
noncomputable def okT (K : Frag) : Nat → Fx → IE → Expr → Bool
  | 0, _, _, _ => false
  | f + 1, fx, ie, e => match ie with
    | .and a b => okTA K f fx (.and a b) (kids e)
    | .or a b => okTO K f fx (.or a b) (kids e)
    | .not a => okT K f fx a (kid 0 e)
    | .cmp op a b => cmpTop op (toE f fx b (kid 1 e)) && okE K f fx a (kid 0 e) && okE K f fx b (kid 1 e)
    | .cmp2 a op b op' c => !(lastMarks [op.op, op'.op] [toE f fx b (kid 1 e), toE f fx c (kid 2 e)]) && okE K f fx a (kid 0 e) && okE K f fx b (kid 1 e) && okE K f fx c (kid 2 e)
    | ie => plainT (toE f fx ie e) && okE K f fx ie e
noncomputable def okTA (K : Frag) : Nat → Fx → IE → List Expr → Bool
  | 0, _, _, _ => false
  | f + 1, fx, ie, xs => match xs with
    | [] => false
    | x :: r => match r with
      | [] => okT K f fx ie x
      | y :: r => match ie with
        | .and a b => okT K f fx a x && okTA K f fx b (y :: r)
        | _ => false
noncomputable def okTO (K : Frag) : Nat → Fx → IE → List Expr → Bool
  | 0, _, _, _ => false
  | f + 1, fx, ie, xs => match xs with
    | [] => false
    | x :: r => match r with
      | [] => okT K f fx ie x
      | y :: r => match ie with
        | .or a b => okT K f fx a x && okTO K f fx b (y :: r)
        | _ => false
noncomputable def okL (K : Frag) : Nat → Fx → IL → List Expr → Bool
  | 0, _, _, _ => false
  | f + 1, fx, .nil, _ => true
  | f + 1, fx, .cons a r, xs => notStar (toE f fx a (xs.headD e0)) && okE K f fx a (xs.headD e0) && okL K f fx r xs.tail
noncomputable def okI (K : Frag) : Nat → Fx → IT → Expr → Bool
  | 0, _, _, _ => false
  | f + 1, fx, .seq a, e => okE K f fx a e
  | f + 1, fx, .range1 a, e => biOk K fx "range" && notStar (toE f fx a (kid 1 e)) && okE K f fx a (kid 1 e)
  | f + 1, fx, .down a, e => biOk K fx "range" && notStar (toE f fx a (kid 1 e)) && okE K f fx a (kid 1 e)
end
mutual
noncomputable def okS (K : Frag) (tr : Addr) : Nat → Fx → IS → Stmt → Bool
  | 0, _, _, _ => false
  | f + 1, fx, .expr a, s => notComp (toE f fx a (kS 0 s)) && okE K f fx a (kS 0 s)
  | f + 1, fx, .set i a, s => match a with
    | .comp elt tgt it => setTop fx i (kS 0 s) (kS 1 s) && compTop fx (scOf (kS 1 s)) [tgt] (toI f fx it (kid 2 (kS 1 s))) && okE K f (fxC fx (scOf (kS 1 s))) elt (kid 0 (kS 1 s)) && okI K f fx it (kid 2 (kS 1 s))
    | .comp2 elt t1 t2 a b => setTop fx i (kS 0 s) (kS 1 s) && compTop fx (scOf (kS 1 s)) [t1, t2] (callE "zip" [] (kS 1 s)) && biOk K fx "zip" && (notStar (toE f fx a (kid 1 (kid 2 (kS 1 s)))) && notStar (toE f fx b (kid 2 (kid 2 (kS 1 s))))) && okE K f (fxC fx (scOf (kS 1 s))) elt (kid 0 (kS 1 s)) && okE K f fx a (kid 1 (kid 2 (kS 1 s))) && okE K f fx b (kid 2 (kid 2 (kS 1 s)))
    | a => notComp (toE f fx a (kS 1 s)) && locIs fx i (nmI fx i) && okE K f fx a (kS 1 s)
  | f + 1, fx, .setAttr o k a, s => notComp (toE f fx a (kS 1 s)) && decide (k < strMany) && okE K f fx a (kS 1 s) && okE K f fx o (kid 0 (kS 0 s))
  | f + 1, fx, .setSub o i a, s => notComp (toE f fx a (kS 1 s)) && okE K f fx a (kS 1 s) && okE K f fx o (kid 0 (kS 0 s)) && okE K f fx i (kid 1 (kS 0 s))
  | f + 1, fx, .unpack rev is a, s => match a with
    | .tup as => rev && decide ((toL f fx as (kids (kS 1 s))).length ≤ 1000) && swapOk fx (namesE fx is (kids (kS 0 s))) (toL f fx as (kids (kS 1 s))) && is.length == (swapNames fx (namesE fx is (kids (kS 0 s)))).length && ((is.zip (swapNames fx (namesE fx is (kids (kS 0 s))))).all fun p => locIs fx p.1 p.2) && okL K f fx as (kids (kS 1 s))
    | a => !rev && notComp (toE f fx a (kS 1 s)) && notTup (toE f fx a (kS 1 s)) && namesK fx is && okE K f fx a (kS 1 s)
  | f + 1, fx, .ifs c t e, s => okT K f fx c (kS 0 s) && okB K tr f fx t (bS 0 s) && okB K tr f fx e (bS 1 s)
  | f + 1, fx, .whiles c b, s => okT K f fx c (kS 0 s) && okB K tr f fx b (bS 0 s)
  | f + 1, fx, .fors tgt it b, s => locIs fx tgt (nmI fx tgt) && notSet (toI f fx it (kS 1 s)) && okI K f fx it (kS 1 s) && okB K tr f fx b (bS 0 s)
  | f + 1, fx, .forEnum t1 t2 e b, s => namesK fx [t1, t2] && biOk K fx "enumerate" && notStar (toE f fx e (kid 1 (kS 1 s))) && okE K f fx e (kid 1 (kS 1 s)) && okB K tr f fx b (bS 0 s)
  | f + 1, fx, .ret a, s => okE K f fx a (kS 0 s)
  | f + 1, fx, .ret0, s => true
  | f + 1, fx, .raise as, s => fx.isGlob (nmOf (kid 0 (kS 0 s))) && decide (nsIn K mainGlobals (nmOf (kid 0 (kS 0 s))) = some (some (.ref tr))) && okL K f fx as (kids (kS 0 s)).tail
  | f + 1, fx, .tryT a b, s => notComp (toE f fx a (kS 0 ((bS 0 s).headD s0))) && fx.isGlob (nmOf (hOf s).1) && decide (nsIn K mainGlobals (nmOf (hOf s).1) = some (some (.ref tr))) && okE K f fx a (kS 0 ((bS 0 s).headD s0))
  | f + 1, fx, .stop, s => true
noncomputable def okB (K : Frag) (tr : Addr) : Nat → Fx → IB → List Stmt → Bool
  | 0, _, _, _ => false
  | f + 1, fx, .nil, _ => true
  | f + 1, fx, .cons s r, b => okS K tr f fx s (b.headD s0) && okB K tr f fx r b.tail
end
end Mine
end
noncomputable section
namespace Mine
theorem tupU_map {t1 t2 : Nat} {v : V} {l : List (Nat × V)} (e : tupU [t1, t2] v = some l) : l.map (·.1) = [t1, t2] := by
  cases v with
  | tup vs =>
    have e : (if vs.length = [t1, t2].length then some ([t1, t2].zip vs) else none) = some l := e
    by_cases hl : vs.length = [t1, t2].length
    · rw [if_pos hl] at e; cases e; exact List.map_fst_zip (Nat.le_of_eq hl.symm)
    · rw [if_neg hl] at e; cases e
  | _ => cases e
structure Wok (z : Z) (g : Pg) : Prop where
  ex : ∃ ws n, z.K.lookup 682 = some (tupOf (List.toArray ws) n) ∧ ∀ Φ, Rvs z.K Φ (g.words 682) ws
  len : (g.words 682).length ≤ 1000000
structure Sound (z : Z) (g : Pg) (f : Nat) : Prop where
  E : ∀ {n : Nat} {c : Cx} {fx : Fx} {m : Str → Option Value} {ls : Ls} {X : AH → Prop} {ie : IE} {e : Expr}, fx.names.Nodup → At z n c fx → okE z.K f fx ie e = true → SE z c m fx ls X (toE f fx ie e) (fun Q σ => WE z g n ie X ls Q σ)
  A : ∀ {n : Nat} {c : Cx} {fx : Fx} {m : Str → Option Value} {ls : Ls} {X : AH → Prop} {ie : IE} {xs : List Expr} {pos : Pos}, fx.names.Nodup → At z n c fx → okA z.K f fx ie xs = true → SE z c m fx ls X (.BoolOp .And (toA f fx ie xs) pos) (fun Q σ => WE z g n ie X ls Q σ)
  O : ∀ {n : Nat} {c : Cx} {fx : Fx} {m : Str → Option Value} {ls : Ls} {X : AH → Prop} {ie : IE} {xs : List Expr} {pos : Pos}, fx.names.Nodup → At z n c fx → okO z.K f fx ie xs = true → SE z c m fx ls X (.BoolOp .Or (toO f fx ie xs) pos) (fun Q σ => WE z g n ie X ls Q σ)
  T : ∀ {n : Nat} {c : Cx} {fx : Fx} {m : Str → Option Value} {ls : Ls} {X : AH → Prop} {ie : IE} {e : Expr}, fx.names.Nodup → At z n c fx → okT z.K f fx ie e = true → ST z c m fx ls X (toT f fx ie e) (fun Q σ => WE z g n ie X ls Q σ)
  TA : ∀ {n : Nat} {c : Cx} {fx : Fx} {m : Str → Option Value} {ls : Ls} {X : AH → Prop} {ie : IE} {xs : List Expr} {pos : Pos}, fx.names.Nodup → At z n c fx → okTA z.K f fx ie xs = true → ST z c m fx ls X (.BoolOp .And (toTA f fx ie xs) pos) (fun Q σ => WE z g n ie X ls Q σ)
  TO : ∀ {n : Nat} {c : Cx} {fx : Fx} {m : Str → Option Value} {ls : Ls} {X : AH → Prop} {ie : IE} {xs : List Expr} {pos : Pos}, fx.names.Nodup → At z n c fx → okTO z.K f fx ie xs = true → ST z c m fx ls X (.BoolOp .Or (toTO f fx ie xs) pos) (fun Q σ => WE z g n ie X ls Q σ)
  L : ∀ {n : Nat} {c : Cx} {fx : Fx} {m : Str → Option Value} {ls : Ls} {X : AH → Prop} {il : IL} {xs : List Expr}, fx.names.Nodup → At z n c fx → okL z.K f fx il xs = true → SL z c m fx ls X (toL f fx il xs) (fun Q σ => WL z g n il X ls Q σ)
  I : ∀ {n : Nat} {c : Cx} {fx : Fx} {m : Str → Option Value} {ls : Ls} {X : AH → Prop} {it : IT} {e : Expr} {x : Str} {pos : Pos}, fx.names.Nodup → At z n c fx → okI z.K f fx it e = true → SI z c fx m ls X (.Name x pos) (toI f fx it e) (fun Q σ => WI z g n it X ls Q σ)
section
variable {z : Z} {g : Pg} {f n : Nat} {c : Cx} {fx : Fx} {m : Str → Option Value} {ls : Ls} {X : AH → Prop}
theorem step_V (a : At z n c fx) {v : V} {e : Expr} (h : okV z.K fx v e = true) : SE z c m fx ls X (toV v e) (fun Q σ => Q v σ) := by
  cases v with
  | none => exact s_none
  | bool b => exact s_bool
  | int i =>
    show SE z c m fx ls X (if i < 0 then negE (-i) e else .Constant (.int i) (kOf e) e.pos) (fun Q σ => Q (.int i) σ)
    by_cases hi : i < 0
    · rw [if_pos hi]
      have := s_neg (z := z) (c := c) (m := m) (fx := fx) (ls := ls) (X := X) (pos := e.pos) (s_int (k := kOf (kid 0 e)) (pos := (kid 0 e).pos) (i := -i))
      rw [Int.neg_neg] at this
      exact this
    · rw [if_neg hi]; exact s_int
  | str k => exact s_str (of_decide_eq_true h)
  | stat b => exact a3 h fun h1 h2 h3 => s_stat a h1 (of_decide_eq_true h2) ((Bool.or_eq_true_iff.mp h3).imp eq_of_beq eq_of_beq)
  | _ => cases h
theorem locOk_nm {i : Nat} (h : locOk fx i (nmI fx i) = true) : fx.names[i]? = some (nmI fx i) ∧ fx.isVar (nmI fx i) = true ∧ (nmI fx i == ("__debug__" : Str)) = false := locOk_of h
theorem compTop_of {sc : Scope} {is : List Nat} {it : Expr} {C : Prop} (h : compTop fx sc is it = true) (k : CompK fx sc → tgtsOk fx sc is = true → namesK (fxC fx sc) is = true → notSet it = true → C) : C := a4 h fun h1 h2 h3 h4 => k (compK_of h1) h2 h3 h4
theorem one_loc {i : Nat} (h : namesK fx [i] = true) : fx.names[i]? = some (nmI fx i) ∧ fx.kinds.lookup (nmI fx i) = some .local := a2 (show (locIs fx i (nmI fx i) && true) = true from h) fun h _ => locIs_of h
theorem not_tt {b : Bool} (h : (!b) = true) : b = false := by cases b with
  | true => cases h
  | false => rfl
theorem step_E (gk : Gok z) (ik : Iok z) (wk : Wok z g) (S : Sound z g f) {ie : IE} {e : Expr} (nd : fx.names.Nodup) (a : At z n c fx) (h : okE z.K (f + 1) fx ie e = true) : SE z c m fx ls X (toE (f + 1) fx ie e) (fun Q σ => WE z g n ie X ls Q σ) := by
  cases ie with
  | loc i => exact xAA (locOk_nm h) fun h1 h2 h3 => s_loc a h1 h2 h3
  | val v => exact step_V a h
  | attr b k => exact a3 h fun h1 h2 h3 => s_attr gk a (S.E nd a h3) h1 (of_decide_eq_true h2)
  | call fa as => exact a4 h fun h1 h2 h3 h4 => s_call a (S.L nd a h4) h1 (of_decide_eq_true h2) h3
  | new C fi as => exact a7 h fun h1 h2 h3 h4 h5 h6 h7 => s_new gk a (S.L nd a h7) h1 (of_decide_eq_true h2) h3 (List.contains_iff_mem.mp h4) (of_decide_eq_true h5) (of_decide_eq_true h6)
  | meth b k as => exact a6 h fun h1 hp h3 h4 h6 h7 => s_meth gk a (S.E nd a h6) (S.L nd a h7) h1 (of_decide_eq_true hp) (of_decide_eq_true h3) (of_decide_eq_true h4)
  | append b d => exact a5 h fun h1 hp h3 h4 h5 => s_append a (S.E nd a h4) (S.E nd a h5) h1 (of_decide_eq_true hp) (notStar_ok h3)
  | pop b => exact a3 h fun h1 hp h4 => s_pop a (S.E nd a h4) h1 (of_decide_eq_true hp)
  | popAt b d => exact a5 h fun h1 hp h3 h4 h5 => s_popAt a (S.E nd a h4) (S.E nd a h5) h1 (of_decide_eq_true hp) (notStar_ok h3)
  | insert b d e3 => exact a7 h fun h1 hp h3 h3' h4 h5 h6 => s_insert a (S.E nd a h4) (S.E nd a h5) (S.E nd a h6) h1 (of_decide_eq_true hp) (notStar_ok h3) (notStar_ok h3')
  | dget b d => exact a5 h fun h1 hp h3 h4 h5 => s_dget a (S.E nd a h4) (S.E nd a h5) h1 (of_decide_eq_true hp) (notStar_ok h3)
  | isinst b kd => exact a5 h fun h1 h2 h3 h4 h5 => s_isinst ik a (S.E nd a h5) (notStar_ok h2) h3 h4 (biOk_of h1 (by decide +kernel) (by decide))
  | len b => exact a3 h fun h1 h2 h5 => s_len a (S.E nd a h5) (notStar_ok h2) (biOk_of h1 (by decide +kernel) (by decide))
  | abs b => exact a3 h fun h1 h2 h5 => s_abs a (S.E nd a h5) (notStar_ok h2) (biOk_of h1 (by decide +kernel) (by decide))
  | toInt b => exact a3 h fun h1 h2 h5 => s_toInt a (S.E nd a h5) (notStar_ok h2) (biOk_of h1 (by decide +kernel) (by decide))
  | copy b => exact a3 h fun h1 h2 h5 => s_copy a (S.E nd a h5) (notStar_ok h2) (biOk_of h1 (by decide +kernel) (by decide))
  | cmp op b d => exact a3 h fun h2 h3 h4 => s_cmp ik a (S.E nd a h3) (S.E nd a h4) (not_tt h2)
  | cmp2 b op d op' e3 => cases h
  | and b d => exact S.A nd a h
  | or b d => exact S.O nd a h
  | not b => exact s_not (S.E nd a h)
  | add b d => exact a2 h fun h2 h3 => s_add a (S.E nd a h2) (S.E nd a h3)
  | sub b d => exact a2 h fun h2 h3 => s_sub (S.E nd a h2) (S.E nd a h3)
  | mul b d => exact a2 h fun h2 h3 => s_mul a (S.E nd a h2) (S.E nd a h3)
  | mod b d => exact a2 h fun h2 h3 => s_mod (S.E nd a h2) (S.E nd a h3)
  | ite t b d => exact a3 h fun h1 h2 h3 => s_ite (S.T nd a h1) (S.E nd a h2) (S.E nd a h3)
  | idx b i => exact a3 h fun h1 h2 h3 => s_idx a (S.E nd a h2) (S.E nd a h3) h1
  | words ad i =>
    refine a5 h fun h0 h1 w1 w2 h3 => xEEA wk.ex fun ws n' hl hr => ?_
    have h0 := of_decide_eq_true h0
    subst h0
    exact s_words (ws := ws) a (S.E nd a h3) h1 w1 (of_decide_eq_true w2) hl wk.len hr
  | «from» b lo => exact a2 h fun h3 h4 => s_from a (S.E nd a h3) (S.E nd a h4)
  | upto b hi => exact a2 h fun h3 h4 => s_upto a (S.E nd a h3) (S.E nd a h4)
  | part b lo hi => exact a3 h fun h3 h4 h5 => s_part a (S.E nd a h3) (S.E nd a h4) (S.E nd a h5)
  | back b => exact s_back a (S.E nd a h)
  | tup as => exact a2 h fun h0 h => s_tup a (S.L nd a h) (of_decide_eq_true h0)
  | lst as => exact a2 h fun h0 h => s_lst a (S.L nd a h) (of_decide_eq_true h0)
  | dict0 t => exact s_dict0 a
  | comp elt tgt it =>
    refine a3 h fun h1 h5 h6 => compTop_of h1 fun k1 k2 k3 k4 => xA (one_loc k3) fun h31 h32 => ?_
    exact s_comp a (We := fun ls Q σ => WE z g n elt (fun _ => False) ls Q σ) (Wi := fun ls Q σ => WI z g n it X ls Q σ) k1 k2 (upd := fun v => some [(tgt, v)]) (fun v l e => by cases e; rfl) (sa_name (fx := fxC fx (scOf e)) nd h31 h32) (fun c' a' m ls => S.E (fx := fxC fx (scOf e)) nd a' h5) k4 (S.I nd a h6)
  | comp2 elt t1 t2 b d =>
    refine a7 h fun h1 h5 h6 h7 h8 h9 h10 => compTop_of h1 fun k1 k2 k3 _ => ?_
    exact s_comp a (We := fun ls Q σ => WE z g n elt (fun _ => False) ls Q σ) (Wi := fun ls Q σ => WE z g n b X ls (fun u σ => WE z g n d X ls (fun v σ => match u, v with
        | .lst us, .lst vs => Q (zipV us vs) σ
        | _, _ => False) σ) σ) k1 k2 (upd := tupU [t1, t2]) (fun v l e => tupU_map e) (sa_tup (fx := fxC fx (scOf e)) nd (namesK_of k3)) (fun c' a' m ls => S.E (fx := fxC fx (scOf e)) nd a' h8) rfl (si_zip (m := m) (ls := ls) (X := X) a (S.E nd a h9) (S.E nd a h10) (notStar_ok h6) (notStar_ok h7) (biOk_of h5 (by decide +kernel) (by decide)))
  | frz b => exact s_frz (S.E nd a h)
  | stop => exact fun Q Φ σ s l I w => w.elim
theorem eAnd {ie : IE} {F : IE → IE → Bool} {P : IE → Prop} (h : (match ie with
    | .and a b => F a b
    | _ => false) = true) (k : ∀ a b, F a b = true → P (.and a b)) : P ie := by
  cases ie with
  | and a b => exact k a b h
  | _ => exact absurd h Bool.false_ne_true
theorem eOr {ie : IE} {F : IE → IE → Bool} {P : IE → Prop} (h : (match ie with
    | .or a b => F a b
    | _ => false) = true) (k : ∀ a b, F a b = true → P (.or a b)) : P ie := by
  cases ie with
  | or a b => exact k a b h
  | _ => exact absurd h Bool.false_ne_true
theorem s_and' {x : Expr} {ys : List Expr} {pos : Pos} {W1 W2 : (V → AH → Prop) → AH → Prop} (hy : (!ys.isEmpty) = true) (h1 : SE z c m fx ls X x W1) (h2 : SE z c m fx ls X (.BoolOp .And ys pos) W2) : SE z c m fx ls X (.BoolOp .And (x :: ys) pos) (andW W1 W2) := by
  cases ys with
  | nil => cases hy
  | cons y r => exact s_and h1 h2
theorem s_or' {x : Expr} {ys : List Expr} {pos : Pos} {W1 W2 : (V → AH → Prop) → AH → Prop} (hy : (!ys.isEmpty) = true) (h1 : SE z c m fx ls X x W1) (h2 : SE z c m fx ls X (.BoolOp .Or ys pos) W2) : SE z c m fx ls X (.BoolOp .Or (x :: ys) pos) (orW W1 W2) := by
  cases ys with
  | nil => cases hy
  | cons y r => exact s_or h1 h2
theorem step_A (S : Sound z g f) {ie : IE} {xs : List Expr} {pos : Pos} (nd : fx.names.Nodup) (a : At z n c fx) (h : okA z.K (f + 1) fx ie xs = true) : SE z c m fx ls X (.BoolOp .And (toA (f + 1) fx ie xs) pos) (fun Q σ => WE z g n ie X ls Q σ) := by
  cases xs with
  | nil => cases h
  | cons x r => cases r with
    | nil => exact s_one (S.E nd a h)
    | cons y r => exact eAnd (P := fun ie => SE z c m fx ls X (.BoolOp .And (toA (f + 1) fx ie (x :: y :: r)) pos) (fun Q σ => WE z g n ie X ls Q σ)) h fun b1 b2 h => a3 h fun h0 h1 h2 => s_and' h0 (S.E nd a h1) (S.A nd a h2)
theorem step_O (S : Sound z g f) {ie : IE} {xs : List Expr} {pos : Pos} (nd : fx.names.Nodup) (a : At z n c fx) (h : okO z.K (f + 1) fx ie xs = true) : SE z c m fx ls X (.BoolOp .Or (toO (f + 1) fx ie xs) pos) (fun Q σ => WE z g n ie X ls Q σ) := by
  cases xs with
  | nil => cases h
  | cons x r => cases r with
    | nil => exact s_one (S.E nd a h)
    | cons y r => exact eOr (P := fun ie => SE z c m fx ls X (.BoolOp .Or (toO (f + 1) fx ie (x :: y :: r)) pos) (fun Q σ => WE z g n ie X ls Q σ)) h fun b1 b2 h => a3 h fun h0 h1 h2 => s_or' h0 (S.E nd a h1) (S.O nd a h2)
theorem step_TA (S : Sound z g f) {ie : IE} {xs : List Expr} {pos : Pos} (nd : fx.names.Nodup) (a : At z n c fx) (h : okTA z.K (f + 1) fx ie xs = true) : ST z c m fx ls X (.BoolOp .And (toTA (f + 1) fx ie xs) pos) (fun Q σ => WE z g n ie X ls Q σ) := by
  cases xs with
  | nil => cases h
  | cons x r => cases r with
    | nil => exact st_one_and (S.T nd a h)
    | cons y r => exact eAnd (P := fun ie => ST z c m fx ls X (.BoolOp .And (toTA (f + 1) fx ie (x :: y :: r)) pos) (fun Q σ => WE z g n ie X ls Q σ)) h fun b1 b2 h => a2 h fun h1 h2 => st_and (S.T nd a h1) (S.TA nd a h2)
theorem step_TO (S : Sound z g f) {ie : IE} {xs : List Expr} {pos : Pos} (nd : fx.names.Nodup) (a : At z n c fx) (h : okTO z.K (f + 1) fx ie xs = true) : ST z c m fx ls X (.BoolOp .Or (toTO (f + 1) fx ie xs) pos) (fun Q σ => WE z g n ie X ls Q σ) := by
  cases xs with
  | nil => cases h
  | cons x r => cases r with
    | nil => exact st_one_or (S.T nd a h)
    | cons y r => exact eOr (P := fun ie => ST z c m fx ls X (.BoolOp .Or (toTO (f + 1) fx ie (x :: y :: r)) pos) (fun Q σ => WE z g n ie X ls Q σ)) h fun b1 b2 h => a2 h fun h1 h2 => st_or (S.T nd a h1) (S.TO nd a h2)
theorem step_pl (S : Sound z g f) {ie : IE} {e : Expr} (nd : fx.names.Nodup) (a : At z n c fx) (h : (plainT (toE f fx ie e) && okE z.K f fx ie e) = true) : ST z c m fx ls X (toE f fx ie e) (fun Q σ => WE z g n ie X ls Q σ) := a2 h fun h1 h2 => st_plain (S.E nd a h2) (plain_of h1)
theorem step_T (ik : Iok z) (S : Sound z g f) {ie : IE} {e : Expr} (nd : fx.names.Nodup) (a : At z n c fx) (h : okT z.K (f + 1) fx ie e = true) : ST z c m fx ls X (toT (f + 1) fx ie e) (fun Q σ => WE z g n ie X ls Q σ) := by
  cases ie with
  | and b d => exact S.TA nd a h
  | or b d => exact S.TO nd a h
  | not b => exact st_not (S.T nd a h)
  | cmp op b d => exact a3 h fun h2 h3 h4 => st_cmp ik a (S.E nd a h3) (S.E nd a h4) (not_tt h2)
  | cmp2 b op d op' e3 => exact a4 h fun h2 h3 h4 h5 => st_cmp2 ik a (S.E nd a h3) (S.E nd a h4) (S.E nd a h5) (not_tt h2)
  | _ => exact step_pl S nd a h
theorem step_L (S : Sound z g f) {il : IL} {xs : List Expr} (nd : fx.names.Nodup) (a : At z n c fx) (h : okL z.K (f + 1) fx il xs = true) : SL z c m fx ls X (toL (f + 1) fx il xs) (fun Q σ => WL z g n il X ls Q σ) := by
  cases il with
  | nil => exact sl_nil
  | cons e r => exact a3 h fun h0 h1 h2 => sl_cons (S.E nd a h1) (S.L nd a h2) (notStar_ok h0)
theorem step_I (S : Sound z g f) {it : IT} {e : Expr} {x : Str} {pos : Pos} (nd : fx.names.Nodup) (a : At z n c fx) (h : okI z.K (f + 1) fx it e = true) : SI z c fx m ls X (.Name x pos) (toI (f + 1) fx it e) (fun Q σ => WI z g n it X ls Q σ) := by
  cases it with
  | seq b => exact si_seq a (S.E nd a h)
  | range1 b => exact a3 h fun h1 h2 h5 => si_range1 a (S.E nd a h5) (notStar_ok h2) (biOk_of h1 (by decide +kernel) (by decide))
  | down b => exact a3 h fun h1 h2 h5 => si_down a (S.E nd a h5) (notStar_ok h2) (biOk_of h1 (by decide +kernel) (by decide))
end
theorem sound (z : Z) (g : Pg) (gk : Gok z) (ik : Iok z) (wk : Wok z g) : ∀ f, Sound z g f
  | 0 => ⟨fun _ _ h => (nomatch h), fun _ _ h => (nomatch h), fun _ _ h => (nomatch h), fun _ _ h => (nomatch h), fun _ _ h => (nomatch h), fun _ _ h => (nomatch h), fun _ _ h => (nomatch h), fun _ _ h => (nomatch h)⟩
  | f + 1 =>
    have S := sound z g gk ik wk f
    ⟨step_E gk ik wk S, step_A S, step_O S, step_T ik S, step_TA S, step_TO S, step_L S, step_I S⟩
end Mine
end
noncomputable section
namespace Mine
structure SoundS (z : Z) (g : Pg) (f : Nat) : Prop where
  S : ∀ {n : Nat} {c : Cx} {fx : Fx} {X : AH → Prop} {is : IS} {st : Stmt}, fx.names.Nodup → At z n c fx → c.Fun → okS z.K z.trouble f fx is st = true → SS z c fx X (toS f fx is st) (fun R N ls σ => WS z g n is X R N ls σ)
  B : ∀ {n : Nat} {c : Cx} {fx : Fx} {X : AH → Prop} {ib : IB} {b : List Stmt}, fx.names.Nodup → At z n c fx → c.Fun → okB z.K z.trouble f fx ib b = true → SB z c fx X (toB f fx ib b) (fun R N ls σ => WB z g n ib X R N ls σ)
section
variable {z : Z} {g : Pg} {f n : Nat} {c : Cx} {fx : Fx} {X : AH → Prop}
theorem setTop_of {i : Nat} {t v : Expr} {C : Prop} (h : setTop fx i t v = true) (k : fx.names[i]? = some (nmI fx i) → fx.kinds.lookup (nmI fx i) = some .local → t.pos.line = v.pos.line → ((scOf v).names.any fun p => p.1 == nmI fx i && (p.2 == .local || p.2 == .cell)) = false → C) : C :=
  a3 h fun h1 h2 h3 => xA (locIs_of h1) fun h11 h12 => k h11 h12 (eq_of_beq h2) (not_tt h3)
theorem step_set (C : Sound z g f) {i : Nat} {b : IE} {t e : Expr} {pos : Pos} (nd : fx.names.Nodup) (a : At z n c fx) (h : (notComp (toE f fx b e) && locIs fx i (nmI fx i) && okE z.K f fx b e) = true) : SS z c fx X (.Assign [.Name (nmI fx i) t.pos] (toE f fx b e) pos) (fun R N ls σ => WS z g n (.set i b) X R N ls σ) :=
  a3 h fun h1 h2 h3 => xA (locIs_of h2) fun h11 h12 => s_set a (W := fun ls Q σ => WE z g n b X ls Q σ) (fun m ls => C.E nd a h3) h1 nd h11 h12
theorem step_unp (C : Sound z g f) {is : List Nat} {b : IE} {t e : Expr} {pos : Pos} {rev : Bool} (nd : fx.names.Nodup) (a : At z n c fx) (h : (!rev && notComp (toE f fx b e) && notTup (toE f fx b e) && namesK fx is && okE z.K f fx b e) = true) : SS z c fx X (.Assign [tgtE fx is t] (toE f fx b e) pos) (fun R N ls σ => WS z g n (.unpack rev is b) X R N ls σ) := by
  refine a5 h fun h0 h1 h2 h3 h4 => ?_
  cases not_tt h0
  exact s_unpack a (W := fun ls Q σ => WE z g n b X ls Q σ) (fun m ls => C.E nd a h4) h1 h2 nd (namesK_of h3)
theorem step_S (gk : Gok z) (ik : Iok z) (tk : Tok z) (C : Sound z g f) (D : SoundS z g f) {is : IS} {st : Stmt} (nd : fx.names.Nodup) (a : At z n c fx) (cf : c.Fun) (h : okS z.K z.trouble (f + 1) fx is st = true) : SS z c fx X (toS (f + 1) fx is st) (fun R N ls σ => WS z g n is X R N ls σ) := by
  cases is with
  | expr b => exact a2 h fun h1 h2 => s_expr a (W := fun ls Q σ => WE z g n b X ls Q σ) (fun m ls => C.E nd a h2) h1
  | set i b => cases b with
    | comp elt tgt it =>
      refine a4 h fun h0 h1 h5 h6 => setTop_of h0 fun g1 g2 g3 g4 => compTop_of h1 fun k1 k2 k3 k4 => xA (one_loc k3) fun h31 h32 => ?_
      exact s_setComp a (We := fun ls Q σ => WE z g n elt (fun _ => False) ls Q σ) (Wi := fun ls Q σ => WI z g n it X ls Q σ) k1 k2 (upd := fun v => some [(tgt, v)]) (fun v l e => by cases e; rfl) (sa_name (fx := fxC fx _) nd h31 h32) (fun c' a' m ls => C.E (fx := fxC fx _) nd a' h5) k4 (fun m ls => C.I nd a h6) nd g1 g2 g3 g4
    | comp2 elt t1 t2 b d =>
      refine a7 h fun h0 h1 h5 h67 h8 h9 h10 => setTop_of h0 fun g1 g2 g3 g4 => compTop_of h1 fun k1 k2 k3 _ => a2 h67 fun h6 h7 => ?_
      exact s_setComp a (We := fun ls Q σ => WE z g n elt (fun _ => False) ls Q σ) (Wi := fun ls Q σ => WE z g n b X ls (fun u σ => WE z g n d X ls (fun v σ => match u, v with
          | .lst us, .lst vs => Q (zipV us vs) σ
          | _, _ => False) σ) σ) k1 k2 (upd := tupU [t1, t2]) (fun v l e => tupU_map e) (sa_tup (fx := fxC fx _) nd (namesK_of k3)) (fun c' a' m ls => C.E (fx := fxC fx _) nd a' h8) rfl
          (fun m ls => si_zip (m := m) (ls := ls) (X := X) a (C.E nd a h9) (C.E nd a h10) (notStar_ok h6) (notStar_ok h7) (biOk_of h5 (by decide +kernel) (by decide))) nd g1 g2 g3 g4
    | _ => exact step_set C nd a h
  | setAttr o k b => exact a4 h fun h1 h2 h3 h4 => s_setAttr gk a (W1 := fun ls Q σ => WE z g n b X ls Q σ) (W2 := fun ls Q σ => WE z g n o X ls Q σ) (fun m ls => C.E nd a h3) (fun m ls => C.E nd a h4) h1 (of_decide_eq_true h2)
  | setSub o i b => exact a4 h fun h1 h2 h3 h4 => s_setSub a (W1 := fun ls Q σ => WE z g n b X ls Q σ) (W2 := fun ls Q σ => WE z g n o X ls Q σ) (W3 := fun ls Q σ => WE z g n i X ls Q σ) (fun m ls => C.E nd a h2) (fun m ls => C.E nd a h3) (fun m ls => C.E nd a h4) h1
  | unpack rev is b => cases b with
    | tup as =>
      refine a6 h fun h0 h1 h2 h3 h4 h5 => ?_
      cases h0
      exact s_unpackR a (W := fun ls Q σ => WE z g n (.tup as) X ls Q σ) (fun m ls => s_tup a (C.L nd a h5) (of_decide_eq_true h1)) nd h2 (eq_of_beq h3) fun p hp => locIs_of (List.all_eq_true.mp h4 p hp)
    | _ => exact step_unp C nd a h
  | ifs t b1 b2 => exact a3 h fun h1 h2 h3 => s_if (W := fun ls Q σ => WE z g n t X ls Q σ) (fun m ls => C.T nd a h1) (D.B nd a cf h2) (D.B nd a cf h3)
  | whiles t b => exact a2 h fun h1 h2 => s_while a cf (W := fun ls Q σ => WE z g n t X ls Q σ) (fun m ls => C.T nd a h1) (D.B nd a cf h2)
  | fors tgt it b => exact a4 h fun h1 h2 h3 h4 => xA (locIs_of h1) fun h11 h12 => s_for a cf (Wi := fun ls Q σ => WI z g n it X ls Q σ) (upd := fun v => some [(tgt, v)]) (fun m ls => C.I nd a h3) h2 (sa_name nd h11 h12) (fun obs => D.B nd (a.hid obs) cf h4)
  | forEnum t1 t2 e b =>
    exact a5 h fun h1 h2 h3 h4 h5 => s_for a cf (Wi := fun ls Q σ => WE z g n e X ls (fun v σ => match v with
        | .lst vs => Q (enumV 0 vs) σ
        | _ => False) σ) (upd := tupU [t1, t2]) (fun m ls => si_enum (m := m) (ls := ls) (X := X) a (C.E nd a h4) (notStar_ok h3) (biOk_of h2 (by decide +kernel) (by decide))) rfl (sa_tup nd (namesK_of h1)) (fun obs => D.B nd (a.hid obs) cf h5)
  | ret b => exact s_ret (W := fun ls Q σ => WE z g n b X ls Q σ) (fun m ls => C.E nd a h)
  | ret0 => exact s_ret0
  | raise as => exact a3 h fun h1 h2 h3 => s_raise gk tk a (Ws := fun ls Q σ => WL z g n as X ls Q σ) (fun m ls => C.L nd a h3) h1 (of_decide_eq_true h2)
  | tryT b v => exact a4 h fun h1 h2 h3 h5 => s_try tk a cf (W := fun X ls Q σ => WE z g n b X ls Q σ) (fun X' m ls => C.E nd a h5) h1 h2 (of_decide_eq_true h3)
  | stop => exact fun R N Φ σ m ls s l I w => w.elim
theorem step_B (D : SoundS z g f) {ib : IB} {b : List Stmt} (nd : fx.names.Nodup) (a : At z n c fx) (cf : c.Fun) (h : okB z.K z.trouble (f + 1) fx ib b = true) : SB z c fx X (toB (f + 1) fx ib b) (fun R N ls σ => WB z g n ib X R N ls σ) := by
  cases ib with
  | nil => exact sb_nil
  | cons s r => exact a2 h fun h1 h2 => sb_cons (W1 := fun R N ls σ => WS z g n s X R N ls σ) (W2 := fun R N ls σ => WB z g n r X R N ls σ) (D.S nd a cf h1) (D.B nd a cf h2)
end
theorem soundS (z : Z) (g : Pg) (gk : Gok z) (ik : Iok z) (tk : Tok z) (wk : Wok z g) : ∀ f, SoundS z g f
  | 0 => ⟨fun _ _ _ h => (nomatch h), fun _ _ _ h => (nomatch h)⟩
  | f + 1 =>
    have D := soundS z g gk ik tk wk f
    ⟨step_S gk ik tk (sound z g gk ik wk f) D, step_B D⟩
inductive FnOk (z : Z) (fa : Addr) (fx : Fx) (names : List Str) (ib : IB) (binds : List Value → List Value → Prop) : Prop where
  | mk (f : Nat) (body : List Stmt) (D : Def z fa fx names body binds) (t : toB f fx ib body = body) (h : okB z.K z.trouble f fx ib body = true)
theorem FnOk.run {z : Z} {g : Pg} {fa : Addr} {fx : Fx} {names : List Str} {ib : IB} {binds : List Value → List Value → Prop} (F : FnOk z fa fx names ib binds) (gk : Gok z) (ik : Iok z) (tk : Tok z) (wk : Wok z g) : ∃ body, Def z fa fx names body binds ∧ ∀ (n : Nat) (c : Cx) (X : AH → Prop), At z n c fx → c.Fun → SB z c fx X body (fun R N ls σ => WB z g n ib X R N ls σ) := by
  obtain ⟨f, body, D, t, h⟩ := F
  refine ⟨body, D, fun n c X a cf => ?_⟩
  rw [← t]
  exact (soundS z g gk ik tk wk f).B D.nd a cf h
theorem sem_ir {z : Z} {g : Pg} (zo : z.Ok) (gk : Gok z) (ik : Iok z) (tk : Tok z) (wk : Wok z g) {fa : Addr} {fx : Fx} {names : List Str} {ib : IB} {binds : List Value → List Value → Prop} (F : FnOk z fa fx names ib binds) {n : Nat} {args args' : List V} {σ : AH} {Q : V → AH → Prop} {X : AH → Prop} (k : Nat)
    (ha : ∀ Φ vals, Rvs z.K Φ args vals → ∃ vals', binds vals vals' ∧ vals'.length = names.length ∧ Rvs z.K Φ args' vals')
    (w : WB z g n ib X Q (fun _ σ => Q .none σ) (start args' k) σ) : SemCall z (n + 1) fa args σ Q X :=
  xEA (F.run gk ik tk wk) fun body D r => sem_def zo D (fun c a cf => r n c X a cf) w ha
theorem sem_ir0 {z : Z} {g : Pg} (zo : z.Ok) (gk : Gok z) (ik : Iok z) (tk : Tok z) (wk : Wok z g) {fa : Addr} {fx : Fx} {names : List Str} {ib : IB} (F : FnOk z fa fx names ib (same names.length)) {n : Nat} {args : List V} {σ : AH} {Q : V → AH → Prop} {X : AH → Prop} (k : Nat)
    (hl : args.length = names.length) (w : WB z g n ib X Q (fun _ σ => Q .none σ) (start args k) σ) : SemCall z (n + 1) fa args σ Q X :=
  sem_ir zo gk ik tk wk F k (fun Φ vals h => ⟨vals, ⟨rfl, by rw [h.length, hl]⟩, by rw [h.length, hl], h⟩) w
end Mine
end
noncomputable section
namespace Mine
noncomputable def ir_list_of : IB := (.cons (.set 2 (.loc 1)) (.cons (.fors 3 (.down (.sub (.len (.loc 0)) (.val (.int 1)))) (.cons (.set 2 (.frz (.new 149 146 (.cons (.idx (.loc 0) (.loc 3)) (.cons (.loc 2) .nil))))) .nil)) (.cons (.ret (.loc 2)) .nil)))
noncomputable def fx_list_of : Fx := ⟨["things", "tail", "found", "place"], (scopeOf (stAt PW 10)).names⟩
noncomputable def pn_list_of : List Str := ["things", "tail"]
noncomputable def ir_split_list : IB := (.cons (.set 1 (.lst .nil)) (.cons (.set 2 (.loc 0)) (.cons (.set 3 (.loc 0)) (.cons (.whiles (.isinst (.loc 2) (.own 149)) (.cons (.expr (.append (.loc 1) (.attr (.loc 2) 38))) (.cons (.set 2 (.attr (.loc 2) 39)) (.cons (.ifs (.cmp .eq (.mod (.len (.loc 1)) (.val (.int 2))) (.val (.int 0))) (.cons (.set 3 (.attr (.loc 3) 39)) (.cons (.ifs (.cmp .is (.loc 2) (.loc 3)) (.cons (.ret (.tup (.cons (.frz (.loc 1)) (.cons (.val .none) .nil)))) .nil) .nil) .nil)) .nil) .nil)))) (.cons (.ret (.tup (.cons (.frz (.loc 1)) (.cons (.loc 2) .nil)))) .nil)))))
noncomputable def fx_split_list : Fx := ⟨["datum", "things", "at", "slow"], (scopeOf (stAt PW 11)).names⟩
noncomputable def pn_split_list : List Str := ["datum"]
noncomputable def ir_is_identifier : IB := (.cons (.ret (.or (.isinst (.loc 0) (.own 65)) (.isinst (.loc 0) (.own 245)))) .nil)
noncomputable def fx_is_identifier : Fx := ⟨["datum"], (scopeOf (stAt PW 22)).names⟩
noncomputable def pn_is_identifier : List Str := ["datum"]
noncomputable def ir_key_of : IB := (.cons (.ifs (.isinst (.loc 0) (.own 65)) (.cons (.ret (.mul (.val (.int 2)) (.attr (.loc 0) 34))) .nil) .nil) (.cons (.ret (.add (.mul (.val (.int 2)) (.attr (.loc 0) 34)) (.val (.int 1)))) .nil))
noncomputable def fx_key_of : Fx := ⟨["identifier"], (scopeOf (stAt PW 23)).names⟩
noncomputable def pn_key_of : List Str := ["identifier"]
noncomputable def ir_same_denotation : IB := (.cons (.ifs (.and (.isinst (.loc 0) (.own 266)) (.isinst (.loc 1) (.own 266))) (.cons (.ret (.cmp .eq (.attr (.loc 0) 41) (.attr (.loc 1) 41))) .nil) .nil) (.cons (.ifs (.and (.isinst (.loc 0) (.own 287)) (.isinst (.loc 1) (.own 287))) (.cons (.ret (.cmp .eq (.attr (.loc 0) 34) (.attr (.loc 1) 34))) .nil) .nil) (.cons (.ifs (.and (.isinst (.loc 0) (.own 308)) (.isinst (.loc 1) (.own 308))) (.cons (.ret (.cmp .eq (.attr (.attr (.loc 0) 49) 34) (.attr (.attr (.loc 1) 49) 34))) .nil) .nil) (.cons (.ifs (.and (.isinst (.loc 0) (.own 329)) (.isinst (.loc 1) (.own 329))) (.cons (.ret (.cmp .is (.loc 0) (.loc 1))) .nil) .nil) (.cons (.ret (.val (.bool false))) .nil)))))
noncomputable def fx_same_denotation : Fx := ⟨["one", "other"], (scopeOf (stAt PW 26)).names⟩
noncomputable def pn_same_denotation : List Str := ["one", "other"]
noncomputable def ir_same : IB := (.cons (.ret (.call 424 (.cons (.meth (.loc 1) 62 (.cons (.loc 0) .nil)) (.cons (.meth (.loc 3) 62 (.cons (.loc 2) .nil)) .nil)))) .nil)
noncomputable def fx_same : Fx := ⟨["one", "scope", "other", "other_scope"], (scopeOf (stAt PW 27)).names⟩
noncomputable def pn_same : List Str := ["one", "scope", "other", "other_scope"]
noncomputable def ir_alias_of : IB := (.cons (.ret (.frz (.new 245 242 (.cons (.meth (.loc 2) 59 .nil) (.cons (.loc 0) (.cons (.loc 1) .nil)))))) .nil)
noncomputable def fx_alias_of : Fx := ⟨["base", "scope", "world"], (scopeOf (stAt PW 28)).names⟩
noncomputable def pn_alias_of : List Str := ["base", "scope", "world"]
noncomputable def ir_strip_take : IB := (.cons (.ifs (.isinst (.loc 0) (.own 245)) (.cons (.stop) .nil) (.cons (.ifs (.isinst (.loc 0) (.own 149)) (.cons (.unpack false [4, 5] (.call 189 (.cons (.loc 0) .nil))) (.cons (.ifs (.cmp .is (.loc 5) (.val .none)) (.cons (.expr (.append (.loc 2) (.loc 0))) (.cons (.ret0) .nil)) .nil) (.cons (.expr (.append (.loc 1) (.tup (.cons (.val (.str 31)) (.cons (.len (.loc 4)) .nil))))) (.cons (.expr (.append (.loc 1) (.tup (.cons (.val (.str 30)) (.cons (.loc 5) .nil))))) (.cons (.fors 3 (.down (.sub (.len (.loc 4)) (.val (.int 1)))) (.cons (.expr (.append (.loc 1) (.tup (.cons (.val (.str 30)) (.cons (.idx (.loc 4) (.loc 3)) .nil))))) .nil)) .nil))))) (.cons (.ifs (.isinst (.loc 0) (.own 170)) (.cons (.stop) (.cons (.stop) .nil)) (.cons (.expr (.append (.loc 2) (.loc 0))) .nil)) .nil)) .nil)) .nil)
noncomputable def fx_strip_take : Fx := ⟨["datum", "jobs", "done", "place", "items", "tail"], (scopeOf (stAt PW 29)).names⟩
noncomputable def pn_strip_take : List Str := ["datum", "jobs", "done"]
noncomputable def ir_strip : IB := (.cons (.set 1 (.lst (.cons (.tup (.cons (.val (.str 30)) (.cons (.loc 0) .nil))) .nil))) (.cons (.set 2 (.lst .nil)) (.cons (.whiles (.cmp .gt (.len (.loc 1)) (.val (.int 0))) (.cons (.unpack false [3, 4] (.pop (.loc 1))) (.cons (.ifs (.cmp .eq (.loc 3) (.val (.str 30))) (.cons (.expr (.call 445 (.cons (.loc 4) (.cons (.loc 1) (.cons (.loc 2) .nil))))) .nil) (.cons (.ifs (.cmp .eq (.loc 3) (.val (.str 31))) (.cons (.set 5 (.sub (.sub (.len (.loc 2)) (.loc 4)) (.val (.int 1)))) (.cons (.set 6 (.call 182 (.cons (.frz (.part (.loc 2) (.loc 5) (.add (.loc 5) (.loc 4)))) (.cons (.idx (.loc 2) (.val (.int (-1)))) .nil)))) (.cons (.set 2 (.upto (.frz (.loc 2)) (.loc 5))) (.cons (.expr (.append (.loc 2) (.loc 6))) .nil)))) (.cons (.set 5 (.sub (.len (.loc 2)) (.loc 4))) (.cons (.set 6 (.stop)) (.cons (.set 2 (.upto (.frz (.loc 2)) (.loc 5))) (.cons (.expr (.append (.loc 2) (.loc 6))) .nil))))) .nil)) .nil))) (.cons (.ret (.idx (.loc 2) (.val (.int 0)))) .nil))))
noncomputable def fx_strip : Fx := ⟨["datum", "jobs", "done", "word", "what", "first", "found"], (scopeOf (stAt PW 30)).names⟩
noncomputable def pn_strip : List Str := ["datum"]
noncomputable def ir_word_of : IB := (.cons (.ret (.call 438 (.cons (.meth (.attr (.loc 0) 50) 49 (.cons (.loc 1) .nil)) (.cons (.attr (.loc 0) 54) (.cons (.loc 0) .nil))))) .nil)
noncomputable def fx_word_of : Fx := ⟨["world", "text"], (scopeOf (stAt PW 32)).names⟩
noncomputable def pn_word_of : List Str := ["world", "text"]
noncomputable def ir_things_of : IB := (.cons (.unpack false [2, 3] (.call 189 (.cons (.loc 0) .nil))) (.cons (.ifs (.or (.cmp .isNot (.loc 3) (.val (.stat 44))) (.cmp .lt (.sub (.len (.loc 2)) (.val (.int 1))) (.loc 1))) (.cons (.raise (.cons (.val (.str 26)) (.cons (.call 452 (.cons (.loc 0) .nil)) .nil))) .nil) .nil) (.cons (.ret (.frz (.from (.loc 2) (.val (.int 1))))) .nil)))
noncomputable def fx_things_of : Fx := ⟨["form", "least", "things", "tail"], (scopeOf (stAt PW 33)).names⟩
noncomputable def pn_things_of : List Str := ["form", "least"]
noncomputable def ir_inner_list : IB := (.cons (.unpack false [2, 3] (.call 189 (.cons (.loc 0) .nil))) (.cons (.ifs (.cmp .isNot (.loc 3) (.val (.stat 44))) (.cons (.raise (.cons (.val (.str 26)) (.cons (.call 452 (.cons (.loc 1) .nil)) .nil))) .nil) .nil) (.cons (.ret (.loc 2)) .nil)))
noncomputable def fx_inner_list : Fx := ⟨["datum", "form", "things", "tail"], (scopeOf (stAt PW 34)).names⟩
noncomputable def pn_inner_list : List Str := ["datum", "form"]
noncomputable def ir_is_word : IB := (.cons (.ret (.and (.call 340 (.cons (.loc 0) .nil)) (.call 431 (.cons (.loc 0) (.cons (.loc 2) (.cons (.meth (.attr (.loc 3) 50) 49 (.cons (.loc 1) .nil)) (.cons (.attr (.loc 3) 54) .nil))))))) .nil)
noncomputable def fx_is_word : Fx := ⟨["thing", "text", "scope", "world"], (scopeOf (stAt PW 35)).names⟩
noncomputable def pn_is_word : List Str := ["thing", "text", "scope", "world"]
noncomputable def ir_bindings_of : IB := (.cons (.set 2 (.lst .nil)) (.cons (.set 3 (.lst .nil)) (.cons (.fors 4 (.seq (.call 473 (.cons (.loc 0) (.cons (.loc 1) .nil)))) (.cons (.set 5 (.call 473 (.cons (.loc 4) (.cons (.loc 1) .nil)))) (.cons (.ifs (.or (.cmp .ne (.len (.loc 5)) (.val (.int 2))) (.not (.call 340 (.cons (.idx (.loc 5) (.val (.int 0))) .nil)))) (.cons (.raise (.cons (.val (.str 27)) (.cons (.call 452 (.cons (.loc 1) .nil)) .nil))) .nil) .nil) (.cons (.expr (.append (.loc 2) (.idx (.loc 5) (.val (.int 0))))) (.cons (.expr (.append (.loc 3) (.idx (.loc 5) (.val (.int 1))))) .nil))))) (.cons (.ret (.tup (.cons (.frz (.loc 2)) (.cons (.frz (.loc 3)) .nil)))) .nil))))
noncomputable def fx_bindings_of : Fx := ⟨["datum", "form", "names", "parts", "binding", "things"], (scopeOf (stAt PW 36)).names⟩
noncomputable def pn_bindings_of : List Str := ["datum", "form"]
noncomputable def ir_sequence : IB := (.cons (.ret (.ite (.cmp .eq (.len (.loc 1)) (.val (.int 1))) (.idx (.loc 1) (.val (.int 0))) (.frz (.new 149 146 (.cons (.call 459 (.cons (.loc 0) (.cons (.val (.str 17)) .nil))) (.cons (.call 182 (.cons (.loc 1) .nil)) .nil)))))) .nil)
noncomputable def fx_sequence : Fx := ⟨["world", "parts"], (scopeOf (stAt PW 37)).names⟩
noncomputable def pn_sequence : List Str := ["world", "parts"]
noncomputable def ir_choice : IB := (.cons (.ret (.call 182 (.cons (.frz (.lst (.cons (.call 459 (.cons (.loc 0) (.cons (.val (.str 18)) .nil))) (.cons (.loc 1) (.cons (.loc 2) (.cons (.loc 3) .nil)))))) .nil))) .nil)
noncomputable def fx_choice : Fx := ⟨["world", "test", "yes", "no"], (scopeOf (stAt PW 38)).names⟩
noncomputable def pn_choice : List Str := ["world", "test", "yes", "no"]
noncomputable def ir_procedure : IB := (.cons (.ret (.frz (.new 149 146 (.cons (.call 459 (.cons (.loc 0) (.cons (.val (.str 19)) .nil))) (.cons (.frz (.new 149 146 (.cons (.loc 1) (.cons (.call 182 (.cons (.loc 2) .nil)) .nil)))) .nil))))) .nil)
noncomputable def fx_procedure : Fx := ⟨["world", "formals", "body"], (scopeOf (stAt PW 39)).names⟩
noncomputable def pn_procedure : List Str := ["world", "formals", "body"]
noncomputable def ir_kept : IB := (.cons (.ret (.call 182 (.cons (.frz (.lst (.cons (.call 508 (.cons (.loc 0) (.cons (.call 182 (.cons (.frz (.lst (.cons (.loc 1) .nil))) .nil)) (.cons (.frz (.lst (.cons (.loc 3) .nil))) .nil)))) (.cons (.loc 2) .nil)))) .nil))) .nil)
noncomputable def fx_kept : Fx := ⟨["world", "name", "part", "body"], (scopeOf (stAt PW 40)).names⟩
noncomputable def pn_kept : List Str := ["world", "name", "part", "body"]
noncomputable def ir_do_and : IB := (.cons (.set 3 (.call 466 (.cons (.loc 0) (.cons (.val (.int 0)) .nil)))) (.cons (.ifs (.cmp .eq (.len (.loc 3)) (.val (.int 0))) (.cons (.ret (.val (.bool true))) .nil) .nil) (.cons (.set 4 (.idx (.loc 3) (.val (.int (-1))))) (.cons (.fors 5 (.seq (.frz (.back (.loc 3)))) (.cons (.set 4 (.call 501 (.cons (.loc 2) (.cons (.loc 5) (.cons (.loc 4) (.cons (.val (.bool false)) .nil)))))) .nil)) (.cons (.ret (.loc 4)) .nil)))))
noncomputable def fx_do_and : Fx := ⟨["form", "scope", "world", "parts", "found", "part"], (scopeOf (stAt PW 41)).names⟩
noncomputable def pn_do_and : List Str := ["form", "scope", "world"]
noncomputable def ir_do_or : IB := (.cons (.set 3 (.call 466 (.cons (.loc 0) (.cons (.val (.int 0)) .nil)))) (.cons (.ifs (.cmp .eq (.len (.loc 3)) (.val (.int 0))) (.cons (.ret (.val (.bool false))) .nil) .nil) (.cons (.set 4 (.idx (.loc 3) (.val (.int (-1))))) (.cons (.fors 5 (.seq (.frz (.back (.loc 3)))) (.cons (.set 6 (.call 459 (.cons (.loc 2) (.cons (.val (.str 20)) .nil)))) (.cons (.set 4 (.call 515 (.cons (.loc 2) (.cons (.loc 6) (.cons (.loc 5) (.cons (.call 501 (.cons (.loc 2) (.cons (.loc 6) (.cons (.loc 6) (.cons (.loc 4) .nil))))) .nil)))))) .nil))) (.cons (.ret (.loc 4)) .nil)))))
noncomputable def fx_do_or : Fx := ⟨["form", "scope", "world", "parts", "found", "part", "name"], (scopeOf (stAt PW 42)).names⟩
noncomputable def pn_do_or : List Str := ["form", "scope", "world"]
noncomputable def ir_do_let : IB := (.cons (.set 3 (.call 466 (.cons (.loc 0) (.cons (.val (.int 2)) .nil)))) (.cons (.ifs (.not (.call 340 (.cons (.idx (.loc 3) (.val (.int 0))) .nil))) (.cons (.unpack false [4, 5] (.call 487 (.cons (.idx (.loc 3) (.val (.int 0))) (.cons (.loc 0) .nil)))) (.cons (.ret (.frz (.new 149 146 (.cons (.call 508 (.cons (.loc 2) (.cons (.call 182 (.cons (.loc 4) .nil)) (.cons (.frz (.from (.loc 3) (.val (.int 1)))) .nil)))) (.cons (.call 182 (.cons (.loc 5) .nil)) .nil))))) .nil)) .nil) (.cons (.ifs (.cmp .lt (.len (.loc 3)) (.val (.int 3))) (.cons (.raise (.cons (.val (.str 26)) (.cons (.call 452 (.cons (.loc 0) .nil)) .nil))) .nil) .nil) (.cons (.unpack false [4, 5] (.call 487 (.cons (.idx (.loc 3) (.val (.int 1))) (.cons (.loc 0) .nil)))) (.cons (.set 6 (.call 182 (.cons (.frz (.lst (.cons (.idx (.loc 3) (.val (.int 0))) (.cons (.call 508 (.cons (.loc 2) (.cons (.call 182 (.cons (.loc 4) .nil)) (.cons (.frz (.from (.loc 3) (.val (.int 2)))) .nil)))) .nil)))) .nil))) (.cons (.set 7 (.call 182 (.cons (.frz (.lst (.cons (.call 459 (.cons (.loc 2) (.cons (.val (.str 2)) .nil))) (.cons (.call 182 (.cons (.frz (.lst (.cons (.loc 6) .nil))) .nil)) (.cons (.idx (.loc 3) (.val (.int 0))) .nil))))) .nil))) (.cons (.ret (.frz (.new 149 146 (.cons (.loc 7) (.cons (.call 182 (.cons (.loc 5) .nil)) .nil))))) .nil)))))))
noncomputable def fx_do_let : Fx := ⟨["form", "scope", "world", "parts", "names", "given", "own", "knot"], (scopeOf (stAt PW 43)).names⟩
noncomputable def pn_do_let : List Str := ["form", "scope", "world"]
noncomputable def ir_do_let_star : IB := (.cons (.set 3 (.call 466 (.cons (.loc 0) (.cons (.val (.int 2)) .nil)))) (.cons (.unpack false [4, 5] (.call 487 (.cons (.idx (.loc 3) (.val (.int 0))) (.cons (.loc 0) .nil)))) (.cons (.ifs (.cmp .eq (.len (.loc 4)) (.val (.int 0))) (.cons (.ret (.call 182 (.cons (.frz (.lst (.cons (.call 508 (.cons (.loc 2) (.cons (.val (.stat 44)) (.cons (.frz (.from (.loc 3) (.val (.int 1)))) .nil)))) .nil))) .nil))) .nil) .nil) (.cons (.set 6 (.sub (.len (.loc 4)) (.val (.int 1)))) (.cons (.set 7 (.call 182 (.cons (.frz (.lst (.cons (.call 508 (.cons (.loc 2) (.cons (.call 182 (.cons (.frz (.lst (.cons (.idx (.loc 4) (.loc 6)) .nil))) .nil)) (.cons (.frz (.from (.loc 3) (.val (.int 1)))) .nil)))) (.cons (.idx (.loc 5) (.loc 6)) .nil)))) .nil))) (.cons (.fors 8 (.down (.sub (.loc 6) (.val (.int 1)))) (.cons (.set 7 (.call 182 (.cons (.frz (.lst (.cons (.call 508 (.cons (.loc 2) (.cons (.call 182 (.cons (.frz (.lst (.cons (.idx (.loc 4) (.loc 8)) .nil))) .nil)) (.cons (.frz (.lst (.cons (.loc 7) .nil))) .nil)))) (.cons (.idx (.loc 5) (.loc 8)) .nil)))) .nil))) .nil)) (.cons (.ret (.loc 7)) .nil)))))))
noncomputable def fx_do_let_star : Fx := ⟨["form", "scope", "world", "parts", "names", "given", "last", "found", "place"], (scopeOf (stAt PW 44)).names⟩
noncomputable def pn_do_let_star : List Str := ["form", "scope", "world"]
noncomputable def ir_do_letrec : IB := (.cons (.set 3 (.call 466 (.cons (.loc 0) (.cons (.val (.int 2)) .nil)))) (.cons (.unpack false [4, 5] (.call 487 (.cons (.idx (.loc 3) (.val (.int 0))) (.cons (.loc 0) .nil)))) (.cons (.set 6 (.call 182 (.cons (.frz (.lst (.cons (.call 508 (.cons (.loc 2) (.cons (.val (.stat 44)) (.cons (.frz (.from (.loc 3) (.val (.int 1)))) .nil)))) .nil))) .nil))) (.cons (.ifs (.cmp .eq (.len (.loc 4)) (.val (.int 0))) (.cons (.ret (.loc 6)) .nil) .nil) (.cons (.set 7 (.comp2 (.call 182 (.cons (.frz (.lst (.cons (.call 459 (.cons (.loc 2) (.cons (.val (.str 21)) .nil))) (.cons (.loc 8) (.cons (.loc 9) .nil))))) .nil)) 8 9 (.loc 4) (.loc 5))) (.cons (.ret (.call 182 (.cons (.frz (.lst (.cons (.call 508 (.cons (.loc 2) (.cons (.val (.stat 44)) (.cons (.frz (.add (.loc 7) (.frz (.lst (.cons (.loc 6) .nil))))) .nil)))) .nil))) .nil))) .nil))))))
noncomputable def fx_do_letrec : Fx := ⟨["form", "scope", "world", "parts", "names", "given", "inner", "body", "name", "part"], (scopeOf (stAt PW 45)).names⟩
noncomputable def pn_do_letrec : List Str := ["form", "scope", "world"]
noncomputable def ir_cond_clause : IB := (.cons (.set 5 (.call 473 (.cons (.loc 0) (.cons (.loc 2) .nil)))) (.cons (.ifs (.cmp .eq (.len (.loc 5)) (.val (.int 0))) (.cons (.raise (.cons (.val (.str 28)) (.cons (.call 452 (.cons (.loc 2) .nil)) .nil))) .nil) .nil) (.cons (.ifs (.cmp .eq (.len (.loc 5)) (.val (.int 1))) (.cons (.ifs (.cmp .is (.loc 1) (.val .none)) (.cons (.ret (.idx (.loc 5) (.val (.int 0)))) .nil) .nil) (.cons (.set 6 (.call 459 (.cons (.loc 4) (.cons (.val (.str 20)) .nil)))) (.cons (.ret (.call 515 (.cons (.loc 4) (.cons (.loc 6) (.cons (.idx (.loc 5) (.val (.int 0))) (.cons (.call 501 (.cons (.loc 4) (.cons (.loc 6) (.cons (.loc 6) (.cons (.loc 1) .nil))))) .nil)))))) .nil))) .nil) (.cons (.set 7 (.ite (.cmp .is (.loc 1) (.val .none)) (.val (.stat 47)) (.loc 1))) (.cons (.ifs (.call 480 (.cons (.idx (.loc 5) (.val (.int 1))) (.cons (.val (.str 15)) (.cons (.loc 3) (.cons (.loc 4) .nil))))) (.cons (.ifs (.cmp .ne (.len (.loc 5)) (.val (.int 3))) (.cons (.raise (.cons (.val (.str 28)) (.cons (.call 452 (.cons (.loc 2) .nil)) .nil))) .nil) .nil) (.cons (.set 6 (.call 459 (.cons (.loc 4) (.cons (.val (.str 20)) .nil)))) (.cons (.ret (.call 515 (.cons (.loc 4) (.cons (.loc 6) (.cons (.idx (.loc 5) (.val (.int 0))) (.cons (.call 501 (.cons (.loc 4) (.cons (.loc 6) (.cons (.call 182 (.cons (.frz (.lst (.cons (.idx (.loc 5) (.val (.int 2))) (.cons (.loc 6) .nil)))) .nil)) (.cons (.loc 7) .nil))))) .nil)))))) .nil))) .nil) (.cons (.ret (.call 501 (.cons (.loc 4) (.cons (.idx (.loc 5) (.val (.int 0))) (.cons (.call 494 (.cons (.loc 4) (.cons (.frz (.from (.loc 5) (.val (.int 1)))) .nil))) (.cons (.loc 7) .nil)))))) .nil))))))
noncomputable def fx_cond_clause : Fx := ⟨["clause", "rest", "form", "scope", "world", "things", "name", "behind"], (scopeOf (stAt PW 46)).names⟩
noncomputable def pn_cond_clause : List Str := ["clause", "rest", "form", "scope", "world"]
noncomputable def ir_do_cond : IB := (.cons (.set 3 (.call 466 (.cons (.loc 0) (.cons (.val (.int 1)) .nil)))) (.cons (.set 4 (.val .none)) (.cons (.fors 5 (.down (.sub (.len (.loc 3)) (.val (.int 1)))) (.cons (.set 6 (.call 473 (.cons (.idx (.loc 3) (.loc 5)) (.cons (.loc 0) .nil)))) (.cons (.ifs (.and (.cmp .gt (.len (.loc 6)) (.val (.int 0))) (.call 480 (.cons (.idx (.loc 6) (.val (.int 0))) (.cons (.val (.str 14)) (.cons (.loc 1) (.cons (.loc 2) .nil)))))) (.cons (.ifs (.or (.cmp .ne (.loc 5) (.sub (.len (.loc 3)) (.val (.int 1)))) (.cmp .lt (.len (.loc 6)) (.val (.int 2)))) (.cons (.raise (.cons (.val (.str 28)) (.cons (.call 452 (.cons (.loc 0) .nil)) .nil))) .nil) .nil) (.cons (.set 4 (.call 494 (.cons (.loc 2) (.cons (.frz (.from (.loc 6) (.val (.int 1)))) .nil)))) .nil)) (.cons (.set 4 (.call 555 (.cons (.idx (.loc 3) (.loc 5)) (.cons (.loc 4) (.cons (.loc 0) (.cons (.loc 1) (.cons (.loc 2) .nil))))))) .nil)) .nil))) (.cons (.ret (.loc 4)) .nil))))
noncomputable def fx_do_cond : Fx := ⟨["form", "scope", "world", "clauses", "found", "place", "things"], (scopeOf (stAt PW 47)).names⟩
noncomputable def pn_do_cond : List Str := ["form", "scope", "world"]
noncomputable def ir_case_test : IB := (.cons (.set 3 (.call 182 (.cons (.frz (.lst (.cons (.call 459 (.cons (.loc 2) (.cons (.val (.str 22)) .nil))) (.cons (.loc 1) .nil)))) .nil))) (.cons (.ret (.call 182 (.cons (.frz (.lst (.cons (.call 459 (.cons (.loc 2) (.cons (.val (.str 23)) .nil))) (.cons (.loc 0) (.cons (.loc 3) .nil))))) .nil))) .nil))
noncomputable def fx_case_test : Fx := ⟨["name", "datums", "world", "known"], (scopeOf (stAt PW 48)).names⟩
noncomputable def pn_case_test : List Str := ["name", "datums", "world"]
noncomputable def ir_do_case : IB := (.cons (.set 3 (.call 466 (.cons (.loc 0) (.cons (.val (.int 2)) .nil)))) (.cons (.set 4 (.frz (.from (.loc 3) (.val (.int 1))))) (.cons (.set 5 (.call 459 (.cons (.loc 2) (.cons (.val (.str 20)) .nil)))) (.cons (.set 6 (.val (.stat 47))) (.cons (.fors 7 (.down (.sub (.len (.loc 4)) (.val (.int 1)))) (.cons (.set 8 (.call 473 (.cons (.idx (.loc 4) (.loc 7)) (.cons (.loc 0) .nil)))) (.cons (.ifs (.cmp .lt (.len (.loc 8)) (.val (.int 2))) (.cons (.raise (.cons (.val (.str 28)) (.cons (.call 452 (.cons (.loc 0) .nil)) .nil))) .nil) .nil) (.cons (.ifs (.call 480 (.cons (.idx (.loc 8) (.val (.int 0))) (.cons (.val (.str 14)) (.cons (.loc 1) (.cons (.loc 2) .nil))))) (.cons (.ifs (.cmp .ne (.loc 7) (.sub (.len (.loc 4)) (.val (.int 1)))) (.cons (.raise (.cons (.val (.str 28)) (.cons (.call 452 (.cons (.loc 0) .nil)) .nil))) .nil) .nil) (.cons (.set 6 (.call 494 (.cons (.loc 2) (.cons (.frz (.from (.loc 8) (.val (.int 1)))) .nil)))) .nil)) (.cons (.expr (.call 473 (.cons (.idx (.loc 8) (.val (.int 0))) (.cons (.loc 0) .nil)))) (.cons (.set 6 (.call 501 (.cons (.loc 2) (.cons (.call 569 (.cons (.loc 5) (.cons (.idx (.loc 8) (.val (.int 0))) (.cons (.loc 2) .nil)))) (.cons (.call 494 (.cons (.loc 2) (.cons (.frz (.from (.loc 8) (.val (.int 1)))) .nil))) (.cons (.loc 6) .nil)))))) .nil))) .nil)))) (.cons (.ret (.call 515 (.cons (.loc 2) (.cons (.loc 5) (.cons (.idx (.loc 3) (.val (.int 0))) (.cons (.loc 6) .nil)))))) .nil))))))
noncomputable def fx_do_case : Fx := ⟨["form", "scope", "world", "parts", "clauses", "name", "found", "place", "things"], (scopeOf (stAt PW 49)).names⟩
noncomputable def pn_do_case : List Str := ["form", "scope", "world"]
noncomputable def ir_step_of : IB := (.cons (.ifs (.or (.cmp .notIn (.len (.loc 0)) (.tup (.cons (.val (.int 2)) (.cons (.val (.int 3)) .nil)))) (.not (.call 340 (.cons (.idx (.loc 0) (.val (.int 0))) .nil)))) (.cons (.raise (.cons (.val (.str 27)) (.cons (.call 452 (.cons (.loc 1) .nil)) .nil))) .nil) .nil) (.cons (.ret (.tup (.cons (.idx (.loc 0) (.val (.int 0))) (.cons (.idx (.loc 0) (.val (.int 1))) (.cons (.ite (.cmp .eq (.len (.loc 0)) (.val (.int 3))) (.idx (.loc 0) (.val (.int 2))) (.idx (.loc 0) (.val (.int 0)))) .nil))))) .nil))
noncomputable def fx_step_of : Fx := ⟨["things", "form"], (scopeOf (stAt PW 50)).names⟩
noncomputable def pn_step_of : List Str := ["things", "form"]
noncomputable def ir_do_do : IB := (.cons (.set 3 (.call 466 (.cons (.loc 0) (.cons (.val (.int 2)) .nil)))) (.cons (.set 4 (.lst .nil)) (.cons (.set 5 (.lst .nil)) (.cons (.set 6 (.lst .nil)) (.cons (.fors 7 (.seq (.call 473 (.cons (.idx (.loc 3) (.val (.int 0))) (.cons (.loc 0) .nil)))) (.cons (.unpack false [8, 9, 10] (.call 583 (.cons (.call 473 (.cons (.loc 7) (.cons (.loc 0) .nil))) (.cons (.loc 0) .nil)))) (.cons (.expr (.append (.loc 4) (.loc 8))) (.cons (.expr (.append (.loc 5) (.loc 9))) (.cons (.expr (.append (.loc 6) (.loc 10))) .nil))))) (.cons (.set 11 (.call 473 (.cons (.idx (.loc 3) (.val (.int 1))) (.cons (.loc 0) .nil)))) (.cons (.ifs (.cmp .eq (.len (.loc 11)) (.val (.int 0))) (.cons (.raise (.cons (.val (.str 26)) (.cons (.call 452 (.cons (.loc 0) .nil)) .nil))) .nil) .nil) (.cons (.set 12 (.call 459 (.cons (.loc 2) (.cons (.val (.str 24)) .nil)))) (.cons (.set 13 (.call 494 (.cons (.loc 2) (.cons (.frz (.add (.frz (.from (.loc 3) (.val (.int 2)))) (.frz (.lst (.cons (.frz (.new 149 146 (.cons (.loc 12) (.cons (.call 182 (.cons (.frz (.loc 6)) .nil)) .nil)))) .nil))))) .nil)))) (.cons (.set 14 (.call 182 (.cons (.frz (.lst (.cons (.call 459 (.cons (.loc 2) (.cons (.val (.str 18)) .nil))) (.cons (.val (.bool false)) (.cons (.val (.bool false)) .nil))))) .nil))) (.cons (.set 15 (.call 494 (.cons (.loc 2) (.cons (.frz (.add (.frz (.lst (.cons (.loc 14) .nil))) (.frz (.from (.loc 11) (.val (.int 1)))))) .nil)))) (.cons (.set 16 (.call 508 (.cons (.loc 2) (.cons (.call 182 (.cons (.frz (.loc 4)) .nil)) (.cons (.frz (.lst (.cons (.call 501 (.cons (.loc 2) (.cons (.idx (.loc 11) (.val (.int 0))) (.cons (.loc 15) (.cons (.loc 13) .nil))))) .nil))) .nil))))) (.cons (.set 17 (.call 182 (.cons (.frz (.lst (.cons (.call 182 (.cons (.frz (.lst (.cons (.loc 12) (.cons (.loc 16) .nil)))) .nil)) .nil))) .nil))) (.cons (.ret (.call 182 (.cons (.frz (.lst (.cons (.call 459 (.cons (.loc 2) (.cons (.val (.str 2)) .nil))) (.cons (.loc 17) (.cons (.frz (.new 149 146 (.cons (.loc 12) (.cons (.call 182 (.cons (.frz (.loc 5)) .nil)) .nil)))) .nil))))) .nil))) .nil))))))))))))))
noncomputable def fx_do_do : Fx := ⟨["form", "scope", "world", "parts", "names", "given", "steps", "binding", "name", "first", "step", "ending", "turn", "again", "nothing", "told", "loop", "own"], (scopeOf (stAt PW 51)).names⟩
noncomputable def pn_do_do : List Str := ["form", "scope", "world"]
noncomputable def ir_do_delay : IB := (.cons (.set 3 (.call 466 (.cons (.loc 0) (.cons (.val (.int 1)) .nil)))) (.cons (.ifs (.cmp .ne (.len (.loc 3)) (.val (.int 1))) (.cons (.raise (.cons (.val (.str 26)) (.cons (.call 452 (.cons (.loc 0) .nil)) .nil))) .nil) .nil) (.cons (.ret (.call 182 (.cons (.frz (.lst (.cons (.call 459 (.cons (.loc 2) (.cons (.val (.str 25)) .nil))) (.cons (.call 508 (.cons (.loc 2) (.cons (.val (.stat 44)) (.cons (.loc 3) .nil)))) .nil)))) .nil))) .nil)))
noncomputable def fx_do_delay : Fx := ⟨["form", "scope", "world", "parts"], (scopeOf (stAt PW 52)).names⟩
noncomputable def pn_do_delay : List Str := ["form", "scope", "world"]
noncomputable def ir_law_draw : IB := (.cons (.ret (.ite (.cmp .ne (.loc 0) (.frz (.lst .nil))) (.mod (.popAt (.loc 0) (.val (.int 0))) (.loc 1)) (.val (.int 0)))) .nil)
noncomputable def fx_law_draw : Fx := ⟨["deck", "many"], (scopeOf (stAt PW 57)).names⟩
noncomputable def pn_law_draw : List Str := ["deck", "many"]
noncomputable def ir_law_row : IB := (.cons (.ret (.tup (.cons (.val (.str 16)) (.cons (.loc 0) (.cons (.val .none) .nil))))) .nil)
noncomputable def fx_law_row : Fx := ⟨["parts"], (scopeOf (stAt PW 58)).names⟩
noncomputable def pn_law_row : List Str := ["parts"]
noncomputable def ir_law_some : IB := (.cons (.ret (.frz (.comp (.idx (.frz (.lst (.cons (.val (.str 9)) (.cons (.val (.int 5)) (.cons (.call 696 (.cons (.frz (.lst (.cons (.val (.str 10)) (.cons (.val (.str 9)) .nil)))) .nil)) .nil))))) (.call 689 (.cons (.loc 0) (.cons (.val (.int 3)) .nil)))) 2 (.range1 (.add (.loc 1) (.call 689 (.cons (.loc 0) (.cons (.val (.int 2)) .nil)))))))) .nil)
noncomputable def fx_law_some : Fx := ⟨["deck", "least", "turn"], (scopeOf (stAt PW 59)).names⟩
noncomputable def pn_law_some : List Str := ["deck", "least"]
noncomputable def ir_law_bindings : IB := (.cons (.set 2 (.lst .nil)) (.cons (.fors 3 (.range1 (.call 689 (.cons (.loc 0) (.cons (.val (.int 3)) .nil)))) (.cons (.expr (.append (.loc 2) (.call 696 (.cons (.frz (.add (.frz (.lst (.cons (.idx (.frz (.lst (.cons (.val (.str 11)) (.cons (.val (.str 12)) .nil)))) (.call 689 (.cons (.loc 0) (.cons (.val (.int 2)) .nil)))) (.cons (.val (.int 5)) .nil)))) (.frz (.mul (.frz (.lst (.cons (.val (.str 9)) .nil))) (.call 689 (.cons (.loc 0) (.cons (.sub (.loc 1) (.val (.int 1))) .nil))))))) .nil)))) .nil)) (.cons (.ret (.call 696 (.cons (.frz (.loc 2)) .nil))) .nil)))
noncomputable def fx_law_bindings : Fx := ⟨["deck", "most", "found", "turn"], (scopeOf (stAt PW 60)).names⟩
noncomputable def pn_law_bindings : List Str := ["deck", "most"]
noncomputable def ir_law_clauses : IB := (.cons (.set 2 (.lst .nil)) (.cons (.fors 3 (.range1 (.add (.val (.int 1)) (.call 689 (.cons (.loc 0) (.cons (.val (.int 2)) .nil))))) (.cons (.ifs (.cmp .eq (.loc 1) (.val (.str 4))) (.cons (.expr (.append (.loc 2) (.call 696 (.cons (.frz (.add (.frz (.lst (.cons (.call 696 (.cons (.frz (.upto (.frz (.lst (.cons (.val (.int 5)) (.cons (.val (.str 9)) .nil)))) (.call 689 (.cons (.loc 0) (.cons (.val (.int 3)) .nil))))) .nil)) .nil))) (.call 701 (.cons (.loc 0) (.cons (.val (.int 1)) .nil))))) .nil)))) .nil) (.cons (.ifs (.cmp .eq (.call 689 (.cons (.loc 0) (.cons (.val (.int 3)) .nil))) (.val (.int 1))) (.cons (.expr (.append (.loc 2) (.call 696 (.cons (.frz (.lst (.cons (.val (.str 9)) (.cons (.val (.str 15)) (.cons (.val (.str 10)) .nil))))) .nil)))) .nil) (.cons (.expr (.append (.loc 2) (.call 696 (.cons (.frz (.add (.frz (.lst (.cons (.val (.str 9)) .nil))) (.call 701 (.cons (.loc 0) (.cons (.val (.int 0)) .nil))))) .nil)))) .nil)) .nil)) .nil)) (.cons (.ifs (.cmp .eq (.call 689 (.cons (.loc 0) (.cons (.val (.int 2)) .nil))) (.val (.int 1))) (.cons (.expr (.insert (.loc 2) (.sub (.len (.loc 2)) (.call 689 (.cons (.loc 0) (.cons (.val (.int 2)) .nil)))) (.call 696 (.cons (.frz (.add (.frz (.lst (.cons (.val (.str 14)) .nil))) (.call 701 (.cons (.loc 0) (.cons (.val (.int 1)) .nil))))) .nil)))) .nil) .nil) (.cons (.ret (.frz (.loc 2))) .nil))))
noncomputable def fx_law_clauses : Fx := ⟨["deck", "word", "found", "turn"], (scopeOf (stAt PW 61)).names⟩
noncomputable def pn_law_clauses : List Str := ["deck", "word"]
noncomputable def ir_law_form : IB := (.cons (.ifs (.cmp .isin (.loc 1) (.tup (.cons (.val (.str 0)) (.cons (.val (.str 1)) (.cons (.val (.str 2)) .nil))))) (.cons (.set 2 (.ite (.and (.cmp .eq (.loc 1) (.val (.str 0))) (.cmp .eq (.call 689 (.cons (.loc 0) (.cons (.val (.int 3)) .nil))) (.val (.int 1)))) (.frz (.lst (.cons (.val (.str 13)) .nil))) (.frz (.lst .nil)))) (.cons (.ret (.call 696 (.cons (.frz (.add (.frz (.add (.frz (.add (.frz (.lst (.cons (.loc 1) .nil))) (.loc 2))) (.frz (.lst (.cons (.call 708 (.cons (.loc 0) (.cons (.val (.int 2)) .nil))) .nil))))) (.call 701 (.cons (.loc 0) (.cons (.val (.int 1)) .nil))))) .nil))) .nil)) .nil) (.cons (.ifs (.cmp .eq (.loc 1) (.val (.str 3))) (.cons (.ret (.call 696 (.cons (.frz (.add (.frz (.lst (.cons (.loc 1) .nil))) (.call 715 (.cons (.loc 0) (.cons (.loc 1) .nil))))) .nil))) .nil) .nil) (.cons (.ifs (.cmp .eq (.loc 1) (.val (.str 4))) (.cons (.ret (.call 696 (.cons (.frz (.add (.frz (.lst (.cons (.loc 1) (.cons (.val (.str 9)) .nil)))) (.call 715 (.cons (.loc 0) (.cons (.loc 1) .nil))))) .nil))) .nil) .nil) (.cons (.ifs (.cmp .eq (.loc 1) (.val (.str 5))) (.cons (.set 3 (.call 696 (.cons (.frz (.add (.frz (.lst (.cons (.val (.str 9)) .nil))) (.call 701 (.cons (.loc 0) (.cons (.val (.int 0)) .nil))))) .nil))) (.cons (.ret (.call 696 (.cons (.frz (.add (.frz (.lst (.cons (.loc 1) (.cons (.call 708 (.cons (.loc 0) (.cons (.val (.int 3)) .nil))) (.cons (.loc 3) .nil))))) (.call 701 (.cons (.loc 0) (.cons (.val (.int 0)) .nil))))) .nil))) .nil)) .nil) (.cons (.ret (.call 696 (.cons (.frz (.add (.frz (.lst (.cons (.loc 1) .nil))) (.ite (.cmp .eq (.loc 1) (.val (.str 6))) (.frz (.lst (.cons (.val (.str 9)) .nil))) (.call 701 (.cons (.loc 0) (.cons (.val (.int 0)) .nil)))))) .nil))) .nil)))))
noncomputable def fx_law_form : Fx := ⟨["deck", "word", "tag", "ending"], (scopeOf (stAt PW 62)).names⟩
noncomputable def pn_law_form : List Str := ["deck", "word"]
noncomputable def ir_law_bent : IB := (.cons (.set 3 (.toInt (.loc 2))) (.cons (.ifs (.and (.loc 2) (.cmp .lt (.len (.idx (.loc 1) (.val (.int 1)))) (.val (.int 2)))) (.cons (.ret (.tup (.cons (.val (.str 16)) (.cons (.frz (.add (.idx (.loc 1) (.val (.int 1))) (.frz (.lst (.cons (.val (.str 9)) .nil))))) (.cons (.idx (.loc 1) (.val (.int 2))) .nil))))) .nil) .nil) (.cons (.ifs (.or (.not (.isinst (.loc 1) .tup)) (.or (.cmp .eq (.idx (.loc 1) (.val (.int 1))) (.frz (.lst .nil))) (.and (.cmp .eq (.call 689 (.cons (.loc 0) (.cons (.val (.int 3)) .nil))) (.val (.int 0))) (.not (.loc 2))))) (.cons (.ret (.idx (.frz (.lst (.cons (.val (.int 5)) (.cons (.val (.str 9)) (.cons (.val (.str 14)) (.cons (.val (.str 15)) (.cons (.call 696 (.cons (.frz (.lst .nil)) .nil)) (.cons (.call 696 (.cons (.frz (.lst (.cons (.val (.str 9)) .nil))) .nil)) (.cons (.tup (.cons (.val (.str 16)) (.cons (.frz (.lst (.cons (.val (.str 9)) .nil))) (.cons (.val (.int 5)) .nil)))) .nil))))))))) (.call 689 (.cons (.loc 0) (.cons (.val (.int 7)) .nil))))) .nil) .nil) (.cons (.unpack true [4, 5] (.tup (.cons (.copy (.idx (.loc 1) (.val (.int 1)))) (.cons (.idx (.loc 1) (.val (.int 2))) .nil)))) (.cons (.unpack true [6, 7] (.tup (.cons (.add (.loc 3) (.call 689 (.cons (.loc 0) (.cons (.sub (.len (.loc 4)) (.loc 3)) .nil)))) (.cons (.call 689 (.cons (.loc 0) (.cons (.val (.int 5)) .nil))) .nil)))) (.cons (.ifs (.cmp .eq (.loc 7) (.val (.int 0))) (.cons (.setSub (.loc 4) (.loc 6) (.call 729 (.cons (.loc 0) (.cons (.idx (.loc 4) (.loc 6)) (.cons (.val (.bool false)) .nil))))) .nil) (.cons (.ifs (.cmp .eq (.loc 7) (.val (.int 1))) (.cons (.expr (.popAt (.loc 4) (.loc 6))) (.cons (.set 5 (.ite (.cmp .ne (.loc 4) (.frz (.lst .nil))) (.loc 5) (.val .none))) .nil)) (.cons (.ifs (.cmp .eq (.loc 7) (.val (.int 2))) (.cons (.expr (.append (.loc 4) (.popAt (.loc 4) (.loc 6)))) .nil) (.cons (.ifs (.cmp .eq (.loc 7) (.val (.int 3))) (.cons (.expr (.insert (.loc 4) (.loc 6) (.idx (.loc 4) (.loc 6)))) .nil) (.cons (.set 5 (.ite (.cmp .ne (.loc 4) (.frz (.lst .nil))) (.val (.int 5)) (.val .none))) .nil)) .nil)) .nil)) .nil)) (.cons (.ret (.tup (.cons (.val (.str 16)) (.cons (.frz (.loc 4)) (.cons (.loc 5) .nil))))) .nil)))))))
noncomputable def fx_law_bent : Fx := ⟨["deck", "form", "is_top", "least", "items", "rest", "place", "way"], (scopeOf (stAt PW 63)).names⟩
noncomputable def pn_law_bent : List Str := ["deck", "form", "is_top"]
noncomputable def ir_law_is_row : IB := (.cons (.ret (.and (.isinst (.loc 0) .tup) (.cmp .is (.idx (.loc 0) (.val (.int 2))) (.val .none)))) .nil)
noncomputable def fx_law_is_row : Fx := ⟨["form"], (scopeOf (stAt PW 64)).names⟩
noncomputable def pn_law_is_row : List Str := ["form"]
noncomputable def ir_law_are_bindings : IB := (.cons (.ifs (.not (.call 736 (.cons (.loc 0) .nil))) (.cons (.ret (.val (.bool false))) .nil) .nil) (.cons (.fors 2 (.seq (.idx (.loc 0) (.val (.int 1)))) (.cons (.ifs (.or (.not (.call 736 (.cons (.loc 2) .nil))) (.or (.not (.cmp2 (.val (.int 2)) .le (.len (.idx (.loc 2) (.val (.int 1)))) .le (.loc 1))) (.not (.isinst (.idx (.idx (.loc 2) (.val (.int 1))) (.val (.int 0))) .str)))) (.cons (.ret (.val (.bool false))) .nil) .nil) .nil)) (.cons (.ret (.val (.bool true))) .nil)))
noncomputable def fx_law_are_bindings : Fx := ⟨["form", "most", "binding"], (scopeOf (stAt PW 65)).names⟩
noncomputable def pn_law_are_bindings : List Str := ["form", "most"]
noncomputable def ir_law_are_clauses : IB := (.cons (.forEnum 3 4 (.loc 0) (.cons (.ifs (.or (.not (.call 736 (.cons (.loc 4) .nil))) (.cmp .lt (.len (.idx (.loc 4) (.val (.int 1)))) (.ite (.cmp .eq (.loc 1) (.val (.str 3))) (.val (.int 1)) (.val (.int 2))))) (.cons (.ret (.val (.bool false))) .nil) .nil) (.cons (.set 5 (.idx (.loc 4) (.val (.int 1)))) (.cons (.ifs (.and (.cmp .eq (.idx (.loc 5) (.val (.int 0))) (.val (.str 14))) (.cmp .notIn (.val (.str 14)) (.loc 2))) (.cons (.ifs (.or (.cmp .ne (.loc 3) (.sub (.len (.loc 0)) (.val (.int 1)))) (.cmp .lt (.len (.loc 5)) (.val (.int 2)))) (.cons (.ret (.val (.bool false))) .nil) .nil) .nil) (.cons (.ifs (.cmp .eq (.loc 1) (.val (.str 4))) (.cons (.ifs (.not (.call 736 (.cons (.idx (.loc 5) (.val (.int 0))) .nil))) (.cons (.ret (.val (.bool false))) .nil) .nil) .nil) (.cons (.ifs (.and (.cmp .gt (.len (.loc 5)) (.val (.int 1))) (.and (.cmp .eq (.idx (.loc 5) (.val (.int 1))) (.val (.str 15))) (.and (.cmp .notIn (.val (.str 15)) (.loc 2)) (.cmp .ne (.len (.loc 5)) (.val (.int 3)))))) (.cons (.ret (.val (.bool false))) .nil) .nil) .nil)) .nil)) .nil)))) (.cons (.ret (.val (.bool true))) .nil))
noncomputable def fx_law_are_clauses : Fx := ⟨["clauses", "word", "bound", "place", "clause", "parts"], (scopeOf (stAt PW 66)).names⟩
noncomputable def pn_law_are_clauses : List Str := ["clauses", "word", "bound"]
noncomputable def ir_law_is_right : IB := (.cons (.ifs (.not (.call 736 (.cons (.loc 0) .nil))) (.cons (.ret (.val (.bool false))) .nil) .nil) (.cons (.unpack true [2, 3] (.tup (.cons (.idx (.idx (.loc 0) (.val (.int 1))) (.val (.int 0))) (.cons (.frz (.from (.idx (.loc 0) (.val (.int 1))) (.val (.int 1)))) .nil)))) (.cons (.ifs (.cmp .isin (.loc 2) (.tup (.cons (.val (.str 7)) (.cons (.val (.str 8)) .nil)))) (.cons (.ret (.val (.bool true))) .nil) .nil) (.cons (.ifs (.cmp .eq (.loc 2) (.val (.str 6))) (.cons (.ret (.cmp .eq (.len (.loc 3)) (.val (.int 1)))) .nil) .nil) (.cons (.ifs (.cmp .eq (.loc 2) (.val (.str 3))) (.cons (.ret (.and (.cmp .gt (.len (.loc 3)) (.val (.int 0))) (.call 750 (.cons (.loc 3) (.cons (.loc 2) (.cons (.loc 1) .nil)))))) .nil) .nil) (.cons (.ifs (.cmp .lt (.len (.loc 3)) (.val (.int 2))) (.cons (.ret (.val (.bool false))) .nil) .nil) (.cons (.ifs (.cmp .eq (.loc 2) (.val (.str 4))) (.cons (.ret (.call 750 (.cons (.frz (.from (.loc 3) (.val (.int 1)))) (.cons (.loc 2) (.cons (.loc 1) .nil))))) .nil) .nil) (.cons (.ifs (.cmp .eq (.loc 2) (.val (.str 5))) (.cons (.ret (.and (.call 743 (.cons (.idx (.loc 3) (.val (.int 0))) (.cons (.val (.int 3)) .nil))) (.and (.call 736 (.cons (.idx (.loc 3) (.val (.int 1))) .nil)) (.cmp .gt (.len (.idx (.idx (.loc 3) (.val (.int 1))) (.val (.int 1)))) (.val (.int 0)))))) .nil) .nil) (.cons (.ifs (.and (.cmp .eq (.loc 2) (.val (.str 0))) (.isinst (.idx (.loc 3) (.val (.int 0))) .str)) (.cons (.ret (.and (.cmp .gt (.len (.loc 3)) (.val (.int 2))) (.call 743 (.cons (.idx (.loc 3) (.val (.int 1))) (.cons (.val (.int 2)) .nil))))) .nil) .nil) (.cons (.ret (.call 743 (.cons (.idx (.loc 3) (.val (.int 0))) (.cons (.val (.int 2)) .nil)))) .nil))))))))))
noncomputable def fx_law_is_right : Fx := ⟨["form", "bound", "word", "parts"], (scopeOf (stAt PW 67)).names⟩
noncomputable def pn_law_is_right : List Str := ["form", "bound"]
noncomputable def ir_law_datum : IB := (.cons (.ifs (.isinst (.loc 0) .str) (.cons (.ret (.meth (.loc 1) 49 (.cons (.loc 0) .nil))) .nil) .nil) (.cons (.ifs (.not (.isinst (.loc 0) .tup)) (.cons (.ret (.loc 0)) .nil) .nil) (.cons (.ret (.call 182 (.cons (.frz (.comp (.call 762 (.cons (.loc 2) (.cons (.loc 1) .nil))) 2 (.seq (.idx (.loc 0) (.val (.int 1)))))) (.cons (.ite (.cmp .is (.idx (.loc 0) (.val (.int 2))) (.val .none)) (.val (.stat 44)) (.idx (.loc 0) (.val (.int 2)))) .nil)))) .nil)))
noncomputable def fx_law_datum : Fx := ⟨["form", "world", "item"], (scopeOf (stAt PW 68)).names⟩
noncomputable def pn_law_datum : List Str := ["form", "world"]
noncomputable def ir_law_told : IB := (.cons (.ifs (.isinst (.loc 0) .int) (.cons (.ret (.loc 0)) .nil) .nil) (.cons (.ifs (.and (.not (.isinst (.loc 0) (.own 149))) (.cmp .isNot (.loc 0) (.val (.stat 44)))) (.cons (.ret (.attr (.loc 0) 35)) .nil) .nil) (.cons (.unpack false [1, 2] (.call 189 (.cons (.loc 0) .nil))) (.cons (.ret (.tup (.cons (.val (.str 16)) (.cons (.frz (.comp (.call 767 (.cons (.loc 3) .nil)) 3 (.seq (.loc 1)))) (.cons (.ite (.cmp .is (.loc 2) (.val (.stat 44))) (.val .none) (.loc 2)) .nil))))) .nil))))
noncomputable def fx_law_told : Fx := ⟨["datum", "items", "tail", "item"], (scopeOf (stAt PW 69)).names⟩
noncomputable def pn_law_told : List Str := ["datum"]
noncomputable def ir_law_turned : IB := (.cons (.ifs (.cmp .eq (.loc 0) (.val (.str 0))) (.cons (.ret (.call 536 (.cons (.loc 1) (.cons (.loc 2) (.cons (.loc 3) .nil))))) .nil) .nil) (.cons (.ifs (.cmp .eq (.loc 0) (.val (.str 1))) (.cons (.ret (.call 543 (.cons (.loc 1) (.cons (.loc 2) (.cons (.loc 3) .nil))))) .nil) .nil) (.cons (.ifs (.cmp .eq (.loc 0) (.val (.str 2))) (.cons (.ret (.call 548 (.cons (.loc 1) (.cons (.loc 2) (.cons (.loc 3) .nil))))) .nil) .nil) (.cons (.ifs (.cmp .eq (.loc 0) (.val (.str 3))) (.cons (.ret (.call 562 (.cons (.loc 1) (.cons (.loc 2) (.cons (.loc 3) .nil))))) .nil) .nil) (.cons (.ifs (.cmp .eq (.loc 0) (.val (.str 4))) (.cons (.ret (.call 576 (.cons (.loc 1) (.cons (.loc 2) (.cons (.loc 3) .nil))))) .nil) .nil) (.cons (.ifs (.cmp .eq (.loc 0) (.val (.str 5))) (.cons (.ret (.call 590 (.cons (.loc 1) (.cons (.loc 2) (.cons (.loc 3) .nil))))) .nil) .nil) (.cons (.ifs (.cmp .eq (.loc 0) (.val (.str 6))) (.cons (.ret (.call 597 (.cons (.loc 1) (.cons (.loc 2) (.cons (.loc 3) .nil))))) .nil) .nil) (.cons (.ret (.ite (.cmp .eq (.loc 0) (.val (.str 7))) (.call 522 (.cons (.loc 1) (.cons (.loc 2) (.cons (.loc 3) .nil)))) (.call 529 (.cons (.loc 1) (.cons (.loc 2) (.cons (.loc 3) .nil)))))) .nil))))))))
noncomputable def fx_law_turned : Fx := ⟨["word", "form", "scope", "world"], (scopeOf (stAt PW 70)).names⟩
noncomputable def pn_law_turned : List Str := ["word", "form", "scope", "world"]
noncomputable def ir_law_is_let : IB := (.cons (.tryT (.call 774 (.cons (.loc 0) (.cons (.loc 1) (.cons (.loc 2) (.cons (.loc 3) .nil))))) false) (.cons (.ret (.val (.bool true))) .nil))
noncomputable def fx_law_is_let : Fx := ⟨["word", "form", "scope", "world"], (scopeOf (stAt PW 71)).names⟩
noncomputable def pn_law_is_let : List Str := ["word", "form", "scope", "world"]
noncomputable def ir_law : IB := (.cons (.unpack true [1, 2] (.tup (.cons (.comp (.abs (.loc 3)) 3 (.seq (.frz (.upto (.loc 0) (.val (.int 60)))))) (.cons (.new 677 611 .nil) .nil)))) (.cons (.setAttr (.loc 2) 54 (.new 413 368 (.cons (.val .none) .nil))) (.cons (.set 4 (.words 682 (.call 689 (.cons (.loc 1) (.cons (.val (.int 9)) .nil))))) (.cons (.set 5 (.call 722 (.cons (.loc 1) (.cons (.loc 4) .nil)))) (.cons (.fors 6 (.range1 (.call 689 (.cons (.loc 1) (.cons (.val (.int 4)) .nil)))) (.cons (.set 5 (.call 729 (.cons (.loc 1) (.cons (.loc 5) (.cons (.val (.bool true)) .nil))))) .nil)) (.cons (.unpack true [7, 8] (.tup (.cons (.idx (.frz (.lst (.cons (.frz (.lst .nil)) (.cons (.frz (.lst (.cons (.val (.str 14)) .nil))) (.cons (.frz (.lst (.cons (.val (.str 15)) .nil))) (.cons (.frz (.lst .nil)) .nil)))))) (.call 689 (.cons (.loc 1) (.cons (.val (.int 4)) .nil)))) (.cons (.new 413 368 (.cons (.attr (.loc 2) 54) .nil)) .nil)))) (.cons (.fors 9 (.seq (.loc 7)) (.cons (.expr (.meth (.loc 8) 60 (.cons (.meth (.loc 2) 49 (.cons (.loc 9) .nil)) (.cons (.frz (.new 287 284 (.cons (.val (.int 1)) (.cons (.loc 9) .nil)))) .nil)))) .nil)) (.cons (.set 10 (.call 762 (.cons (.loc 5) (.cons (.loc 2) .nil)))) (.cons (.ifs (.cmp .ne (.call 781 (.cons (.loc 4) (.cons (.loc 10) (.cons (.loc 8) (.cons (.loc 2) .nil))))) (.call 757 (.cons (.loc 5) (.cons (.loc 7) .nil)))) (.cons (.ret (.val (.bool false))) .nil) .nil) (.cons (.ret (.cmp .eq (.call 767 (.cons (.loc 10) .nil)) (.loc 5))) .nil))))))))))
noncomputable def fx_law : Fx := ⟨["script", "deck", "world", "cell", "word", "form", "turn", "bound", "scope", "name", "datum"], (scopeOf (stAt PW 72)).names⟩
noncomputable def pn_law : List Str := ["script"]
noncomputable def ir_SymbolTable_symbol : IB := (.cons (.set 2 (.dget (.attr (.loc 0) 37) (.loc 1))) (.cons (.ifs (.cmp .is (.loc 2) (.val .none)) (.cons (.set 2 (.frz (.new 65 62 (.cons (.len (.attr (.loc 0) 36)) (.cons (.loc 1) .nil))))) (.cons (.expr (.append (.attr (.loc 0) 36) (.loc 2))) (.cons (.setSub (.attr (.loc 0) 37) (.loc 1) (.loc 2)) .nil))) .nil) (.cons (.ret (.loc 2)) .nil)))
noncomputable def fx_SymbolTable_symbol : Fx := ⟨["self", "text", "found"], (scopeOf (mtAt PW 7 1)).names⟩
noncomputable def pn_SymbolTable_symbol : List Str := ["self", "text"]
noncomputable def ir_Scope_bind : IB := (.cons (.setSub (.attr (.loc 0) 48) (.call 347 (.cons (.loc 1) .nil)) (.loc 2)) .nil)
noncomputable def fx_Scope_bind : Fx := ⟨["self", "identifier", "denotation"], (scopeOf (mtAt PW 25 1)).names⟩
noncomputable def pn_Scope_bind : List Str := ["self", "identifier", "denotation"]
noncomputable def ir_Scope_bound : IB := (.cons (.set 2 (.call 347 (.cons (.loc 1) .nil))) (.cons (.set 3 (.loc 0)) (.cons (.whiles (.cmp .isNot (.loc 3) (.val .none)) (.cons (.set 4 (.dget (.attr (.loc 3) 48) (.loc 2))) (.cons (.ifs (.cmp .isNot (.loc 4) (.val .none)) (.cons (.ret (.loc 4)) .nil) .nil) (.cons (.set 3 (.attr (.loc 3) 47)) .nil)))) (.cons (.ret (.val .none)) .nil))))
noncomputable def fx_Scope_bound : Fx := ⟨["self", "identifier", "key", "at", "found"], (scopeOf (mtAt PW 25 3)).names⟩
noncomputable def pn_Scope_bound : List Str := ["self", "identifier"]
noncomputable def ir_Scope_find : IB := (.cons (.set 2 (.loc 0)) (.cons (.set 3 (.loc 1)) (.cons (.set 4 (.meth (.loc 2) 61 (.cons (.loc 3) .nil))) (.cons (.whiles (.and (.cmp .is (.loc 4) (.val .none)) (.isinst (.loc 3) (.own 245))) (.cons (.set 2 (.attr (.loc 3) 46)) (.cons (.set 3 (.attr (.loc 3) 45)) (.cons (.set 4 (.meth (.loc 2) 61 (.cons (.loc 3) .nil))) .nil)))) (.cons (.ifs (.cmp .is (.loc 4) (.val .none)) (.cons (.ret (.frz (.new 308 305 (.cons (.loc 3) .nil)))) .nil) .nil) (.cons (.ret (.loc 4)) .nil))))))
noncomputable def fx_Scope_find : Fx := ⟨["self", "identifier", "scope", "at", "found"], (scopeOf (mtAt PW 25 4)).names⟩
noncomputable def pn_Scope_find : List Str := ["self", "identifier"]
noncomputable def ir_Names_fresh : IB := (.cons (.setAttr (.loc 0) 51 (.add (.attr (.loc 0) 51) (.val (.int 1)))) (.cons (.ret (.attr (.loc 0) 51)) .nil))
noncomputable def fx_Names_fresh : Fx := ⟨["self"], (scopeOf (mtAt PW 54 1)).names⟩
noncomputable def pn_Names_fresh : List Str := ["self"]
noncomputable def ir_Names_symbol : IB := (.cons (.ret (.meth (.attr (.loc 0) 50) 49 (.cons (.loc 1) .nil))) .nil)
noncomputable def fx_Names_symbol : Fx := ⟨["self", "text"], (scopeOf (mtAt PW 54 2)).names⟩
noncomputable def pn_Names_symbol : List Str := ["self", "text"]
noncomputable def ir_Symbol_init : IB := (.cons (.setAttr (.loc 0) 34 (.loc 1)) (.cons (.setAttr (.loc 0) 35 (.loc 2)) .nil))
noncomputable def fx_Symbol_init : Fx := ⟨["self", "number", "text"], (scopeOf (mtAt PW 6 0)).names⟩
noncomputable def pn_Symbol_init : List Str := ["self", "number", "text"]
noncomputable def ir_SymbolTable_init : IB := (.cons (.setAttr (.loc 0) 36 (.lst .nil)) (.cons (.setAttr (.loc 0) 37 (.dict0 true)) .nil))
noncomputable def fx_SymbolTable_init : Fx := ⟨["self"], (scopeOf (mtAt PW 7 0)).names⟩
noncomputable def pn_SymbolTable_init : List Str := ["self"]
noncomputable def ir_Pair_init : IB := (.cons (.setAttr (.loc 0) 38 (.loc 1)) (.cons (.setAttr (.loc 0) 39 (.loc 2)) .nil))
noncomputable def fx_Pair_init : Fx := ⟨["self", "car", "cdr"], (scopeOf (mtAt PW 8 0)).names⟩
noncomputable def pn_Pair_init : List Str := ["self", "car", "cdr"]
noncomputable def ir_Alias_init : IB := (.cons (.setAttr (.loc 0) 34 (.loc 1)) (.cons (.setAttr (.loc 0) 45 (.loc 2)) (.cons (.setAttr (.loc 0) 46 (.loc 3)) .nil)))
noncomputable def fx_Alias_init : Fx := ⟨["self", "number", "base", "scope"], (scopeOf (mtAt PW 16 0)).names⟩
noncomputable def pn_Alias_init : List Str := ["self", "number", "base", "scope"]
noncomputable def ir_LocalName_init : IB := (.cons (.setAttr (.loc 0) 34 (.loc 1)) (.cons (.setAttr (.loc 0) 33 (.loc 2)) .nil))
noncomputable def fx_LocalName_init : Fx := ⟨["self", "number", "title"], (scopeOf (mtAt PW 19 0)).names⟩
noncomputable def pn_LocalName_init : List Str := ["self", "number", "title"]
noncomputable def ir_GlobalName_init : IB := (.cons (.setAttr (.loc 0) 49 (.loc 1)) .nil)
noncomputable def fx_GlobalName_init : Fx := ⟨["self", "symbol"], (scopeOf (mtAt PW 20 0)).names⟩
noncomputable def pn_GlobalName_init : List Str := ["self", "symbol"]
noncomputable def ir_Scope_init : IB := (.cons (.setAttr (.loc 0) 47 (.loc 1)) (.cons (.setAttr (.loc 0) 48 (.dict0 false)) .nil))
noncomputable def fx_Scope_init : Fx := ⟨["self", "parent"], (scopeOf (mtAt PW 25 0)).names⟩
noncomputable def pn_Scope_init : List Str := ["self", "parent"]
noncomputable def ir_Names_init : IB := (.cons (.setAttr (.loc 0) 50 (.new 128 83 .nil)) (.cons (.setAttr (.loc 0) 51 (.val (.int 0))) (.cons (.setAttr (.loc 0) 52 (.dict0 false)) (.cons (.setAttr (.loc 0) 53 (.dict0 false)) (.cons (.setAttr (.loc 0) 54 (.val .none)) .nil)))))
noncomputable def fx_Names_init : Fx := ⟨["self"], (scopeOf (mtAt PW 54 0)).names⟩
noncomputable def pn_Names_init : List Str := ["self"]
end Mine
end
noncomputable section
namespace Mine
noncomputable def pg : Pg := ⟨149, fun a => if a = 682 then [.str 0, .str 1, .str 2, .str 3, .str 4, .str 5, .str 6, .str 7, .str 8] else []⟩
structure ZK (z : Z) : Prop where
  K : z.K = KF PW z.w.params
  tr : z.trouble = 226
theorem ZK.look {z : Z} (o : ZK z) {a : Addr} {ob : Obj} (h : (KF PW z.w.params).lookup a = some ob) : z.K.lookup a = some ob := o.K ▸ h
theorem ZK.code {z : Z} (o : ZK z) {c : Value} {q : Str} (h : codeIn (KF PW z.w.params) c q = true) : codeIn z.K c q = true := o.K ▸ h
theorem ZK.chk {z : Z} (o : ZK z) {fx : Fx} {ib : IB} {b : List Stmt} (h : okB (KF PW z.w.params) 226 300 fx ib b = true) : okB z.K z.trouble 300 fx ib b = true := by rw [o.K, o.tr]; exact h
theorem rvs_str {K : Frag} {Φ : Fz} {k t : Nat} {r : List V} {l : List Value} (h : k < strMany) (x : Rvs K Φ r l) : Rvs K Φ (.str k :: r) (.str (strAt k) t :: l) := ⟨_, _, rfl, ⟨h, t, rfl⟩, x⟩
theorem ZK.wok {z : Z} (o : ZK z) : Wok z pg where
  ex := ⟨[.str (strAt 0) 1155, .str (strAt 1) 1156, .str (strAt 2) 1157, .str (strAt 3) 1158, .str (strAt 4) 1159, .str (strAt 5) 1160, .str (strAt 6) 1161, .str (strAt 7) 1162, .str (strAt 8) 1163], 0, by rw [o.K]; kernel_rfl, fun Φ => rvs_str (by decide +kernel) (rvs_str (by decide +kernel) (rvs_str (by decide +kernel) (rvs_str (by decide +kernel) (rvs_str (by decide +kernel) (rvs_str (by decide +kernel) (rvs_str (by decide +kernel) (rvs_str (by decide +kernel) (rvs_str (by decide +kernel) rfl))))))))⟩
  len := by decide +kernel
noncomputable def scopeFine (sc : Scope) (fx : Fx) (names : List Str) : Bool := sc.kind == .function && !sc.isCoroutine && !sc.isGenerator && (names.all fun x => fx.kinds.lookup x == some .local || fx.kinds.lookup x == some .cell) && fx.names.eraseDups.length == fx.names.length && fx.names.take names.length == names
theorem nodup_of_eraseDups {l : List Str} (h : l.eraseDups.length = l.length) : l.Nodup := by
  have key : ∀ (n : Nat) (l : List Str), l.length = n → l.eraseDups.length ≤ l.length ∧ (l.eraseDups.length = l.length → l.Nodup) := by
    intro n
    induction n using Nat.strongRecOn with
    | _ n ih =>
      intro l hl
      cases l with
      | nil => simp
      | cons a r =>
        rw [List.eraseDups_cons]
        have hf : (r.filter fun b => !b == a).length ≤ r.length := List.length_filter_le _ _
        obtain ⟨h1, h2⟩ := ih (r.filter fun b => !b == a).length (by rw [← hl]; simp only [List.length_cons]; omega) _ rfl
        refine ⟨by simp only [List.length_cons]; omega, fun e => ?_⟩
        simp only [List.length_cons, Nat.add_right_cancel_iff] at e
        have e2 : (r.filter fun b => !b == a).length = r.length := by omega
        have e3 := List.length_filter_eq_length_iff.mp e2
        have e4 : (r.filter fun b => !b == a) = r := List.filter_eq_self.mpr e3
        rw [e4] at h2 e
        refine List.nodup_cons.mpr ⟨fun hm => ?_, h2 e⟩
        have := e3 a hm
        simp at this
  exact (key _ l rfl).2 h
theorem bvS {P : List Value → Prop} {k : Nat} (h : ∀ (v : Value) (r : List Value), r.length = k → P (v :: r)) : ∀ vals : List Value, vals.length = k + 1 → P vals := fun vals e => by
  cases vals with
  | nil => cases e
  | cons v r => exact h v r (Nat.succ.inj e)
theorem bv0 {P : List Value → Prop} (k : P []) : ∀ vals : List Value, vals.length = 0 → P vals := fun vals e => by
  cases vals with
  | nil => exact k
  | cons v r => cases e
theorem bv1 {P : List Value → Prop} (k : ∀ v0, P [v0]) : ∀ vals : List Value, vals.length = 1 → P vals := bvS fun v => bv0 (P := fun r => P (v :: r)) (k v)
theorem bv2 {P : List Value → Prop} (k : ∀ v0 v1, P [v0, v1]) : ∀ vals : List Value, vals.length = 2 → P vals := bvS fun v => bv1 (P := fun r => P (v :: r)) (k v)
theorem bv3 {P : List Value → Prop} (k : ∀ v0 v1 v2, P [v0, v1, v2]) : ∀ vals : List Value, vals.length = 3 → P vals := bvS fun v => bv2 (P := fun r => P (v :: r)) (k v)
theorem bv4 {P : List Value → Prop} (k : ∀ v0 v1 v2 v3, P [v0, v1, v2, v3]) : ∀ vals : List Value, vals.length = 4 → P vals := bvS fun v => bv3 (P := fun r => P (v :: r)) (k v)
theorem bv5 {P : List Value → Prop} (k : ∀ v0 v1 v2 v3 v4, P [v0, v1, v2, v3, v4]) : ∀ vals : List Value, vals.length = 5 → P vals := bvS fun v => bv4 (P := fun r => P (v :: r)) (k v)
theorem def_of {z : Z} {fa : Addr} {st : Stmt} {qual : Str} {pm dv : Value} {cd : Addr} {fx : Fx} {names : List Str} {k : Nat} (h1 : z.K.lookup fa = some ⟨.type "function", none, .func (fnK st qual pm cd dv), #[]⟩) (h2 : codeIn z.K (.ref cd) qual = true)
    (h3 : scopeFine (scopeOf st) fx names = true) (h4 : (scopeOf st).names = fx.kinds) {body : List Stmt} (hy : bodyOf st = body) (hb : ∀ vals : List Value, vals.length = k → bindArgs (fnK st qual pm cd dv) ⟨vals, []⟩ = pure (names.zip vals)) :
    Def z fa fx names body (same k) := by
  subst hy
  unfold scopeFine at h3
  simp only [Bool.and_eq_true, Bool.not_eq_true', beq_iff_eq] at h3
  obtain ⟨⟨⟨⟨⟨s1, s2⟩, s3⟩, s4⟩, s5⟩, s6⟩ := h3
  refine ⟨⟨_, _, _, _, _, _, _, _, _, _, _, _, _, _, h1, h2, s1, s2, s3, h4, fun vals vals' hs => ?_⟩, fun x hx => ?_, nodup_of_eraseDups s5, s6⟩
  · obtain ⟨rfl, hl⟩ := hs
    exact .inl (hb _ hl)
  · have := List.all_eq_true.mp s4 x hx
    simpa using this
theorem fnok {z : Z} {fa : Addr} {st : Stmt} {qual : Str} {pm dv : Value} {cd : Addr} {fx : Fx} {names : List Str} {ib : IB} {k : Nat} (h1 : z.K.lookup fa = some ⟨.type "function", none, .func (fnK st qual pm cd dv), #[]⟩) (h2 : codeIn z.K (.ref cd) qual = true)
    (h3 : scopeFine (scopeOf st) fx names = true) (h4 : (scopeOf st).names = fx.kinds) (hk : names.length = k) (hb : ∀ vals : List Value, vals.length = k → bindArgs (fnK st qual pm cd dv) ⟨vals, []⟩ = pure (names.zip vals)) (ht : toB 300 fx ib (bodyOf st) = bodyOf st) (hc : okB z.K z.trouble 300 fx ib (bodyOf st) = true) :
    FnOk z fa fx names ib (same k) := ⟨300, bodyOf st, def_of h1 h2 h3 h4 rfl hb, ht, hc⟩
theorem fnok_d {z : Z} {fa : Addr} {st : Stmt} {qual : Str} {pm : Value} {cd T : Addr} {fx : Fx} {names : List Str} {ib : IB} {items : Array Value} {nn : Nat} {oc : Value} {od : Option Addr} {osl : Array (Option Value)} {bs : List Value → List Value → Prop} (h1 : z.K.lookup fa = some ⟨.type "function", none, .func (fnK st qual pm cd (.ref T)), #[]⟩) (h2 : codeIn z.K (.ref cd) qual = true)
    (h3 : scopeFine (scopeOf st) fx names = true) (h4 : (scopeOf st).names = fx.kinds) (hn : (fx.kinds.all fun x => x.2 != .cell) = true) (hT : z.K.lookup T = some ⟨oc, od, .seq items nn, osl⟩) (zX : z.K.In z.h₀)
    (hb : ∀ vals vals' : List Value, bs vals vals' → ∃ k : Option (Array Value) → Sem (List (Str × Value)), bindArgs (fnK st qual pm cd (.ref T)) ⟨vals, []⟩ = seqItems? (.ref T) >>= k ∧ k (some items) = pure (names.zip vals')) (ht : toB 300 fx ib (bodyOf st) = bodyOf st) (hc : okB z.K z.trouble 300 fx ib (bodyOf st) = true) :
    FnOk z fa fx names ib bs := by
  unfold scopeFine at h3
  simp only [Bool.and_eq_true, Bool.not_eq_true', beq_iff_eq] at h3
  obtain ⟨⟨⟨⟨⟨s1, s2⟩, s3⟩, s4⟩, s5⟩, s6⟩ := h3
  refine ⟨300, bodyOf st, ⟨⟨_, _, _, _, _, _, _, _, _, _, _, _, _, _, h1, h2, s1, s2, s3, h4, fun vals vals' hs => ?_⟩, fun x hx => ?_, nodup_of_eraseDups s5, s6⟩, ht, hc⟩
  · obtain ⟨k, e1, e2⟩ := hb _ _ hs
    refine .inr ⟨fun x hx => ?_, fun s hk => BindsTo.of_defaults rfl (hk _ _ (zX _ _ hT)) rfl e1 e2⟩
    have := List.all_eq_true.mp hn x (h4 ▸ hx)
    simpa using this
  · have := List.all_eq_true.mp s4 x hx
    simpa using this
noncomputable def bsList (vals vals' : List Value) : Prop := (∃ a b, vals = [a, b] ∧ vals' = [a, b]) ∨ (∃ a, vals = [a] ∧ vals' = [a, .ref 44])
theorem fn_list_of {z : Z} (o : ZK z) (zX : z.K.In z.h₀) : FnOk z 182 fx_list_of pn_list_of ir_list_of bsList := fnok_d (st := stAt PW 10) (o.look (by kernel_rfl : (KF PW z.w.params).lookup 182 = some (k182 PW z.w.params))) (o.code (by kernel_rfl)) (by kernel_rfl) rfl (by kernel_rfl) (o.look (by kernel_rfl : (KF PW z.w.params).lookup 175 = some (k175 PW z.w.params))) zX
  (fun vals vals' h => by
    rcases h with ⟨a, b, rfl, rfl⟩ | ⟨a, rfl, rfl⟩
    · exact ⟨_, rfl, rfl⟩
    · exact ⟨_, rfl, rfl⟩) (by kernel_rfl) (o.chk (by kernel_rfl))
theorem fn_split_list {z : Z} (o : ZK z) : FnOk z 189 fx_split_list pn_split_list ir_split_list (same 1) := fnok (st := stAt PW 11) (o.look (by kernel_rfl : (KF PW z.w.params).lookup 189 = some (k189 PW z.w.params))) (o.code (by kernel_rfl)) (by kernel_rfl) rfl rfl (bv1 fun v0 => by kernel_rfl) (by kernel_rfl) (o.chk (by kernel_rfl))
theorem fn_is_identifier {z : Z} (o : ZK z) : FnOk z 340 fx_is_identifier pn_is_identifier ir_is_identifier (same 1) := fnok (st := stAt PW 22) (o.look (by kernel_rfl : (KF PW z.w.params).lookup 340 = some (k340 PW z.w.params))) (o.code (by kernel_rfl)) (by kernel_rfl) rfl rfl (bv1 fun v0 => by kernel_rfl) (by kernel_rfl) (o.chk (by kernel_rfl))
theorem fn_key_of {z : Z} (o : ZK z) : FnOk z 347 fx_key_of pn_key_of ir_key_of (same 1) := fnok (st := stAt PW 23) (o.look (by kernel_rfl : (KF PW z.w.params).lookup 347 = some (k347 PW z.w.params))) (o.code (by kernel_rfl)) (by kernel_rfl) rfl rfl (bv1 fun v0 => by kernel_rfl) (by kernel_rfl) (o.chk (by kernel_rfl))
theorem fn_same_denotation {z : Z} (o : ZK z) : FnOk z 424 fx_same_denotation pn_same_denotation ir_same_denotation (same 2) := fnok (st := stAt PW 26) (o.look (by kernel_rfl : (KF PW z.w.params).lookup 424 = some (k424 PW z.w.params))) (o.code (by kernel_rfl)) (by kernel_rfl) rfl rfl (bv2 fun v0 v1 => by kernel_rfl) (by kernel_rfl) (o.chk (by kernel_rfl))
theorem fn_same {z : Z} (o : ZK z) : FnOk z 431 fx_same pn_same ir_same (same 4) := fnok (st := stAt PW 27) (o.look (by kernel_rfl : (KF PW z.w.params).lookup 431 = some (k431 PW z.w.params))) (o.code (by kernel_rfl)) (by kernel_rfl) rfl rfl (bv4 fun v0 v1 v2 v3 => by kernel_rfl) (by kernel_rfl) (o.chk (by kernel_rfl))
theorem fn_alias_of {z : Z} (o : ZK z) : FnOk z 438 fx_alias_of pn_alias_of ir_alias_of (same 3) := fnok (st := stAt PW 28) (o.look (by kernel_rfl : (KF PW z.w.params).lookup 438 = some (k438 PW z.w.params))) (o.code (by kernel_rfl)) (by kernel_rfl) rfl rfl (bv3 fun v0 v1 v2 => by kernel_rfl) (by kernel_rfl) (o.chk (by kernel_rfl))
theorem fn_strip_take {z : Z} (o : ZK z) : FnOk z 445 fx_strip_take pn_strip_take ir_strip_take (same 3) := fnok (st := stAt PW 29) (o.look (by kernel_rfl : (KF PW z.w.params).lookup 445 = some (k445 PW z.w.params))) (o.code (by kernel_rfl)) (by kernel_rfl) rfl rfl (bv3 fun v0 v1 v2 => by kernel_rfl) (by kernel_rfl) (o.chk (by kernel_rfl))
theorem fn_strip {z : Z} (o : ZK z) : FnOk z 452 fx_strip pn_strip ir_strip (same 1) := fnok (st := stAt PW 30) (o.look (by kernel_rfl : (KF PW z.w.params).lookup 452 = some (k452 PW z.w.params))) (o.code (by kernel_rfl)) (by kernel_rfl) rfl rfl (bv1 fun v0 => by kernel_rfl) (by kernel_rfl) (o.chk (by kernel_rfl))
theorem fn_word_of {z : Z} (o : ZK z) : FnOk z 459 fx_word_of pn_word_of ir_word_of (same 2) := fnok (st := stAt PW 32) (o.look (by kernel_rfl : (KF PW z.w.params).lookup 459 = some (k459 PW z.w.params))) (o.code (by kernel_rfl)) (by kernel_rfl) rfl rfl (bv2 fun v0 v1 => by kernel_rfl) (by kernel_rfl) (o.chk (by kernel_rfl))
theorem fn_things_of {z : Z} (o : ZK z) : FnOk z 466 fx_things_of pn_things_of ir_things_of (same 2) := fnok (st := stAt PW 33) (o.look (by kernel_rfl : (KF PW z.w.params).lookup 466 = some (k466 PW z.w.params))) (o.code (by kernel_rfl)) (by kernel_rfl) rfl rfl (bv2 fun v0 v1 => by kernel_rfl) (by kernel_rfl) (o.chk (by kernel_rfl))
theorem fn_inner_list {z : Z} (o : ZK z) : FnOk z 473 fx_inner_list pn_inner_list ir_inner_list (same 2) := fnok (st := stAt PW 34) (o.look (by kernel_rfl : (KF PW z.w.params).lookup 473 = some (k473 PW z.w.params))) (o.code (by kernel_rfl)) (by kernel_rfl) rfl rfl (bv2 fun v0 v1 => by kernel_rfl) (by kernel_rfl) (o.chk (by kernel_rfl))
theorem fn_is_word {z : Z} (o : ZK z) : FnOk z 480 fx_is_word pn_is_word ir_is_word (same 4) := fnok (st := stAt PW 35) (o.look (by kernel_rfl : (KF PW z.w.params).lookup 480 = some (k480 PW z.w.params))) (o.code (by kernel_rfl)) (by kernel_rfl) rfl rfl (bv4 fun v0 v1 v2 v3 => by kernel_rfl) (by kernel_rfl) (o.chk (by kernel_rfl))
theorem fn_bindings_of {z : Z} (o : ZK z) : FnOk z 487 fx_bindings_of pn_bindings_of ir_bindings_of (same 2) := fnok (st := stAt PW 36) (o.look (by kernel_rfl : (KF PW z.w.params).lookup 487 = some (k487 PW z.w.params))) (o.code (by kernel_rfl)) (by kernel_rfl) rfl rfl (bv2 fun v0 v1 => by kernel_rfl) (by kernel_rfl) (o.chk (by kernel_rfl))
theorem fn_sequence {z : Z} (o : ZK z) : FnOk z 494 fx_sequence pn_sequence ir_sequence (same 2) := fnok (st := stAt PW 37) (o.look (by kernel_rfl : (KF PW z.w.params).lookup 494 = some (k494 PW z.w.params))) (o.code (by kernel_rfl)) (by kernel_rfl) rfl rfl (bv2 fun v0 v1 => by kernel_rfl) (by kernel_rfl) (o.chk (by kernel_rfl))
theorem fn_choice {z : Z} (o : ZK z) : FnOk z 501 fx_choice pn_choice ir_choice (same 4) := fnok (st := stAt PW 38) (o.look (by kernel_rfl : (KF PW z.w.params).lookup 501 = some (k501 PW z.w.params))) (o.code (by kernel_rfl)) (by kernel_rfl) rfl rfl (bv4 fun v0 v1 v2 v3 => by kernel_rfl) (by kernel_rfl) (o.chk (by kernel_rfl))
theorem fn_procedure {z : Z} (o : ZK z) : FnOk z 508 fx_procedure pn_procedure ir_procedure (same 3) := fnok (st := stAt PW 39) (o.look (by kernel_rfl : (KF PW z.w.params).lookup 508 = some (k508 PW z.w.params))) (o.code (by kernel_rfl)) (by kernel_rfl) rfl rfl (bv3 fun v0 v1 v2 => by kernel_rfl) (by kernel_rfl) (o.chk (by kernel_rfl))
theorem fn_kept {z : Z} (o : ZK z) : FnOk z 515 fx_kept pn_kept ir_kept (same 4) := fnok (st := stAt PW 40) (o.look (by kernel_rfl : (KF PW z.w.params).lookup 515 = some (k515 PW z.w.params))) (o.code (by kernel_rfl)) (by kernel_rfl) rfl rfl (bv4 fun v0 v1 v2 v3 => by kernel_rfl) (by kernel_rfl) (o.chk (by kernel_rfl))
theorem fn_do_and {z : Z} (o : ZK z) : FnOk z 522 fx_do_and pn_do_and ir_do_and (same 3) := fnok (st := stAt PW 41) (o.look (by kernel_rfl : (KF PW z.w.params).lookup 522 = some (k522 PW z.w.params))) (o.code (by kernel_rfl)) (by kernel_rfl) rfl rfl (bv3 fun v0 v1 v2 => by kernel_rfl) (by kernel_rfl) (o.chk (by kernel_rfl))
theorem fn_do_or {z : Z} (o : ZK z) : FnOk z 529 fx_do_or pn_do_or ir_do_or (same 3) := fnok (st := stAt PW 42) (o.look (by kernel_rfl : (KF PW z.w.params).lookup 529 = some (k529 PW z.w.params))) (o.code (by kernel_rfl)) (by kernel_rfl) rfl rfl (bv3 fun v0 v1 v2 => by kernel_rfl) (by kernel_rfl) (o.chk (by kernel_rfl))
theorem fn_do_let {z : Z} (o : ZK z) : FnOk z 536 fx_do_let pn_do_let ir_do_let (same 3) := fnok (st := stAt PW 43) (o.look (by kernel_rfl : (KF PW z.w.params).lookup 536 = some (k536 PW z.w.params))) (o.code (by kernel_rfl)) (by kernel_rfl) rfl rfl (bv3 fun v0 v1 v2 => by kernel_rfl) (by kernel_rfl) (o.chk (by kernel_rfl))
theorem fn_do_let_star {z : Z} (o : ZK z) : FnOk z 543 fx_do_let_star pn_do_let_star ir_do_let_star (same 3) := fnok (st := stAt PW 44) (o.look (by kernel_rfl : (KF PW z.w.params).lookup 543 = some (k543 PW z.w.params))) (o.code (by kernel_rfl)) (by kernel_rfl) rfl rfl (bv3 fun v0 v1 v2 => by kernel_rfl) (by kernel_rfl) (o.chk (by kernel_rfl))
theorem fn_do_letrec {z : Z} (o : ZK z) : FnOk z 548 fx_do_letrec pn_do_letrec ir_do_letrec (same 3) := fnok (st := stAt PW 45) (o.look (by kernel_rfl : (KF PW z.w.params).lookup 548 = some (k548 PW z.w.params))) (o.code (by kernel_rfl)) (by kernel_rfl) rfl rfl (bv3 fun v0 v1 v2 => by kernel_rfl) (by kernel_rfl) (o.chk (by kernel_rfl))
theorem fn_cond_clause {z : Z} (o : ZK z) : FnOk z 555 fx_cond_clause pn_cond_clause ir_cond_clause (same 5) := fnok (st := stAt PW 46) (o.look (by kernel_rfl : (KF PW z.w.params).lookup 555 = some (k555 PW z.w.params))) (o.code (by kernel_rfl)) (by kernel_rfl) rfl rfl (bv5 fun v0 v1 v2 v3 v4 => by kernel_rfl) (by kernel_rfl) (o.chk (by kernel_rfl))
theorem fn_do_cond {z : Z} (o : ZK z) : FnOk z 562 fx_do_cond pn_do_cond ir_do_cond (same 3) := fnok (st := stAt PW 47) (o.look (by kernel_rfl : (KF PW z.w.params).lookup 562 = some (k562 PW z.w.params))) (o.code (by kernel_rfl)) (by kernel_rfl) rfl rfl (bv3 fun v0 v1 v2 => by kernel_rfl) (by kernel_rfl) (o.chk (by kernel_rfl))
theorem fn_case_test {z : Z} (o : ZK z) : FnOk z 569 fx_case_test pn_case_test ir_case_test (same 3) := fnok (st := stAt PW 48) (o.look (by kernel_rfl : (KF PW z.w.params).lookup 569 = some (k569 PW z.w.params))) (o.code (by kernel_rfl)) (by kernel_rfl) rfl rfl (bv3 fun v0 v1 v2 => by kernel_rfl) (by kernel_rfl) (o.chk (by kernel_rfl))
theorem fn_do_case {z : Z} (o : ZK z) : FnOk z 576 fx_do_case pn_do_case ir_do_case (same 3) := fnok (st := stAt PW 49) (o.look (by kernel_rfl : (KF PW z.w.params).lookup 576 = some (k576 PW z.w.params))) (o.code (by kernel_rfl)) (by kernel_rfl) rfl rfl (bv3 fun v0 v1 v2 => by kernel_rfl) (by kernel_rfl) (o.chk (by kernel_rfl))
theorem fn_step_of {z : Z} (o : ZK z) : FnOk z 583 fx_step_of pn_step_of ir_step_of (same 2) := fnok (st := stAt PW 50) (o.look (by kernel_rfl : (KF PW z.w.params).lookup 583 = some (k583 PW z.w.params))) (o.code (by kernel_rfl)) (by kernel_rfl) rfl rfl (bv2 fun v0 v1 => by kernel_rfl) (by kernel_rfl) (o.chk (by kernel_rfl))
theorem fn_do_do {z : Z} (o : ZK z) : FnOk z 590 fx_do_do pn_do_do ir_do_do (same 3) := fnok (st := stAt PW 51) (o.look (by kernel_rfl : (KF PW z.w.params).lookup 590 = some (k590 PW z.w.params))) (o.code (by kernel_rfl)) (by kernel_rfl) rfl rfl (bv3 fun v0 v1 v2 => by kernel_rfl) (by kernel_rfl) (o.chk (by kernel_rfl))
theorem fn_do_delay {z : Z} (o : ZK z) : FnOk z 597 fx_do_delay pn_do_delay ir_do_delay (same 3) := fnok (st := stAt PW 52) (o.look (by kernel_rfl : (KF PW z.w.params).lookup 597 = some (k597 PW z.w.params))) (o.code (by kernel_rfl)) (by kernel_rfl) rfl rfl (bv3 fun v0 v1 v2 => by kernel_rfl) (by kernel_rfl) (o.chk (by kernel_rfl))
theorem fn_law_draw {z : Z} (o : ZK z) : FnOk z 689 fx_law_draw pn_law_draw ir_law_draw (same 2) := fnok (st := stAt PW 57) (o.look (by kernel_rfl : (KF PW z.w.params).lookup 689 = some (k689 PW z.w.params))) (o.code (by kernel_rfl)) (by kernel_rfl) rfl rfl (bv2 fun v0 v1 => by kernel_rfl) (by kernel_rfl) (o.chk (by kernel_rfl))
theorem fn_law_row {z : Z} (o : ZK z) : FnOk z 696 fx_law_row pn_law_row ir_law_row (same 1) := fnok (st := stAt PW 58) (o.look (by kernel_rfl : (KF PW z.w.params).lookup 696 = some (k696 PW z.w.params))) (o.code (by kernel_rfl)) (by kernel_rfl) rfl rfl (bv1 fun v0 => by kernel_rfl) (by kernel_rfl) (o.chk (by kernel_rfl))
theorem fn_law_some {z : Z} (o : ZK z) : FnOk z 701 fx_law_some pn_law_some ir_law_some (same 2) := fnok (st := stAt PW 59) (o.look (by kernel_rfl : (KF PW z.w.params).lookup 701 = some (k701 PW z.w.params))) (o.code (by kernel_rfl)) (by kernel_rfl) rfl rfl (bv2 fun v0 v1 => by kernel_rfl) (by kernel_rfl) (o.chk (by kernel_rfl))
theorem fn_law_bindings {z : Z} (o : ZK z) : FnOk z 708 fx_law_bindings pn_law_bindings ir_law_bindings (same 2) := fnok (st := stAt PW 60) (o.look (by kernel_rfl : (KF PW z.w.params).lookup 708 = some (k708 PW z.w.params))) (o.code (by kernel_rfl)) (by kernel_rfl) rfl rfl (bv2 fun v0 v1 => by kernel_rfl) (by kernel_rfl) (o.chk (by kernel_rfl))
theorem fn_law_clauses {z : Z} (o : ZK z) : FnOk z 715 fx_law_clauses pn_law_clauses ir_law_clauses (same 2) := fnok (st := stAt PW 61) (o.look (by kernel_rfl : (KF PW z.w.params).lookup 715 = some (k715 PW z.w.params))) (o.code (by kernel_rfl)) (by kernel_rfl) rfl rfl (bv2 fun v0 v1 => by kernel_rfl) (by kernel_rfl) (o.chk (by kernel_rfl))
theorem fn_law_form {z : Z} (o : ZK z) : FnOk z 722 fx_law_form pn_law_form ir_law_form (same 2) := fnok (st := stAt PW 62) (o.look (by kernel_rfl : (KF PW z.w.params).lookup 722 = some (k722 PW z.w.params))) (o.code (by kernel_rfl)) (by kernel_rfl) rfl rfl (bv2 fun v0 v1 => by kernel_rfl) (by kernel_rfl) (o.chk (by kernel_rfl))
theorem fn_law_bent {z : Z} (o : ZK z) : FnOk z 729 fx_law_bent pn_law_bent ir_law_bent (same 3) := fnok (st := stAt PW 63) (o.look (by kernel_rfl : (KF PW z.w.params).lookup 729 = some (k729 PW z.w.params))) (o.code (by kernel_rfl)) (by kernel_rfl) rfl rfl (bv3 fun v0 v1 v2 => by kernel_rfl) (by kernel_rfl) (o.chk (by kernel_rfl))
theorem fn_law_is_row {z : Z} (o : ZK z) : FnOk z 736 fx_law_is_row pn_law_is_row ir_law_is_row (same 1) := fnok (st := stAt PW 64) (o.look (by kernel_rfl : (KF PW z.w.params).lookup 736 = some (k736 PW z.w.params))) (o.code (by kernel_rfl)) (by kernel_rfl) rfl rfl (bv1 fun v0 => by kernel_rfl) (by kernel_rfl) (o.chk (by kernel_rfl))
theorem fn_law_are_bindings {z : Z} (o : ZK z) : FnOk z 743 fx_law_are_bindings pn_law_are_bindings ir_law_are_bindings (same 2) := fnok (st := stAt PW 65) (o.look (by kernel_rfl : (KF PW z.w.params).lookup 743 = some (k743 PW z.w.params))) (o.code (by kernel_rfl)) (by kernel_rfl) rfl rfl (bv2 fun v0 v1 => by kernel_rfl) (by kernel_rfl) (o.chk (by kernel_rfl))
theorem fn_law_are_clauses {z : Z} (o : ZK z) : FnOk z 750 fx_law_are_clauses pn_law_are_clauses ir_law_are_clauses (same 3) := fnok (st := stAt PW 66) (o.look (by kernel_rfl : (KF PW z.w.params).lookup 750 = some (k750 PW z.w.params))) (o.code (by kernel_rfl)) (by kernel_rfl) rfl rfl (bv3 fun v0 v1 v2 => by kernel_rfl) (by kernel_rfl) (o.chk (by kernel_rfl))
theorem fn_law_is_right {z : Z} (o : ZK z) : FnOk z 757 fx_law_is_right pn_law_is_right ir_law_is_right (same 2) := fnok (st := stAt PW 67) (o.look (by kernel_rfl : (KF PW z.w.params).lookup 757 = some (k757 PW z.w.params))) (o.code (by kernel_rfl)) (by kernel_rfl) rfl rfl (bv2 fun v0 v1 => by kernel_rfl) (by kernel_rfl) (o.chk (by kernel_rfl))
theorem fn_law_datum {z : Z} (o : ZK z) : FnOk z 762 fx_law_datum pn_law_datum ir_law_datum (same 2) := fnok (st := stAt PW 68) (o.look (by kernel_rfl : (KF PW z.w.params).lookup 762 = some (k762 PW z.w.params))) (o.code (by kernel_rfl)) (by kernel_rfl) rfl rfl (bv2 fun v0 v1 => by kernel_rfl) (by kernel_rfl) (o.chk (by kernel_rfl))
theorem fn_law_told {z : Z} (o : ZK z) : FnOk z 767 fx_law_told pn_law_told ir_law_told (same 1) := fnok (st := stAt PW 69) (o.look (by kernel_rfl : (KF PW z.w.params).lookup 767 = some (k767 PW z.w.params))) (o.code (by kernel_rfl)) (by kernel_rfl) rfl rfl (bv1 fun v0 => by kernel_rfl) (by kernel_rfl) (o.chk (by kernel_rfl))
theorem fn_law_turned {z : Z} (o : ZK z) : FnOk z 774 fx_law_turned pn_law_turned ir_law_turned (same 4) := fnok (st := stAt PW 70) (o.look (by kernel_rfl : (KF PW z.w.params).lookup 774 = some (k774 PW z.w.params))) (o.code (by kernel_rfl)) (by kernel_rfl) rfl rfl (bv4 fun v0 v1 v2 v3 => by kernel_rfl) (by kernel_rfl) (o.chk (by kernel_rfl))
theorem fn_law_is_let {z : Z} (o : ZK z) : FnOk z 781 fx_law_is_let pn_law_is_let ir_law_is_let (same 4) := fnok (st := stAt PW 71) (o.look (by kernel_rfl : (KF PW z.w.params).lookup 781 = some (k781 PW z.w.params))) (o.code (by kernel_rfl)) (by kernel_rfl) rfl rfl (bv4 fun v0 v1 v2 v3 => by kernel_rfl) (by kernel_rfl) (o.chk (by kernel_rfl))
theorem fn_law {z : Z} (o : ZK z) : FnOk z 786 fx_law pn_law ir_law (same 1) := fnok (st := stAt PW 72) (o.look (by kernel_rfl : (KF PW z.w.params).lookup 786 = some (k786 PW z.w.params))) (o.code (by kernel_rfl)) (by kernel_rfl) rfl rfl (bv1 fun v0 => by kernel_rfl) (by kernel_rfl) (o.chk (by kernel_rfl))
theorem fn_SymbolTable_symbol {z : Z} (o : ZK z) : FnOk z 90 fx_SymbolTable_symbol pn_SymbolTable_symbol ir_SymbolTable_symbol (same 2) := fnok (st := mtAt PW 7 1) (o.look (by kernel_rfl : (KF PW z.w.params).lookup 90 = some (k90 PW z.w.params))) (o.code (by kernel_rfl)) (by kernel_rfl) rfl rfl (bv2 fun v0 v1 => by kernel_rfl) (by kernel_rfl) (o.chk (by kernel_rfl))
theorem fn_Scope_bind {z : Z} (o : ZK z) : FnOk z 375 fx_Scope_bind pn_Scope_bind ir_Scope_bind (same 3) := fnok (st := mtAt PW 25 1) (o.look (by kernel_rfl : (KF PW z.w.params).lookup 375 = some (k375 PW z.w.params))) (o.code (by kernel_rfl)) (by kernel_rfl) rfl rfl (bv3 fun v0 v1 v2 => by kernel_rfl) (by kernel_rfl) (o.chk (by kernel_rfl))
theorem fn_Scope_bound {z : Z} (o : ZK z) : FnOk z 389 fx_Scope_bound pn_Scope_bound ir_Scope_bound (same 2) := fnok (st := mtAt PW 25 3) (o.look (by kernel_rfl : (KF PW z.w.params).lookup 389 = some (k389 PW z.w.params))) (o.code (by kernel_rfl)) (by kernel_rfl) rfl rfl (bv2 fun v0 v1 => by kernel_rfl) (by kernel_rfl) (o.chk (by kernel_rfl))
theorem fn_Scope_find {z : Z} (o : ZK z) : FnOk z 396 fx_Scope_find pn_Scope_find ir_Scope_find (same 2) := fnok (st := mtAt PW 25 4) (o.look (by kernel_rfl : (KF PW z.w.params).lookup 396 = some (k396 PW z.w.params))) (o.code (by kernel_rfl)) (by kernel_rfl) rfl rfl (bv2 fun v0 v1 => by kernel_rfl) (by kernel_rfl) (o.chk (by kernel_rfl))
theorem fn_Names_fresh {z : Z} (o : ZK z) : FnOk z 618 fx_Names_fresh pn_Names_fresh ir_Names_fresh (same 1) := fnok (st := mtAt PW 54 1) (o.look (by kernel_rfl : (KF PW z.w.params).lookup 618 = some (k618 PW z.w.params))) (o.code (by kernel_rfl)) (by kernel_rfl) rfl rfl (bv1 fun v0 => by kernel_rfl) (by kernel_rfl) (o.chk (by kernel_rfl))
theorem fn_Names_symbol {z : Z} (o : ZK z) : FnOk z 625 fx_Names_symbol pn_Names_symbol ir_Names_symbol (same 2) := fnok (st := mtAt PW 54 2) (o.look (by kernel_rfl : (KF PW z.w.params).lookup 625 = some (k625 PW z.w.params))) (o.code (by kernel_rfl)) (by kernel_rfl) rfl rfl (bv2 fun v0 v1 => by kernel_rfl) (by kernel_rfl) (o.chk (by kernel_rfl))
theorem fn_Symbol_init {z : Z} (o : ZK z) : FnOk z 62 fx_Symbol_init pn_Symbol_init ir_Symbol_init (same 3) := fnok (st := mtAt PW 6 0) (o.look (by kernel_rfl : (KF PW z.w.params).lookup 62 = some (k62 PW z.w.params))) (o.code (by kernel_rfl)) (by kernel_rfl) rfl rfl (bv3 fun v0 v1 v2 => by kernel_rfl) (by kernel_rfl) (o.chk (by kernel_rfl))
theorem fn_SymbolTable_init {z : Z} (o : ZK z) : FnOk z 83 fx_SymbolTable_init pn_SymbolTable_init ir_SymbolTable_init (same 1) := fnok (st := mtAt PW 7 0) (o.look (by kernel_rfl : (KF PW z.w.params).lookup 83 = some (k83 PW z.w.params))) (o.code (by kernel_rfl)) (by kernel_rfl) rfl rfl (bv1 fun v0 => by kernel_rfl) (by kernel_rfl) (o.chk (by kernel_rfl))
theorem fn_Pair_init {z : Z} (o : ZK z) : FnOk z 146 fx_Pair_init pn_Pair_init ir_Pair_init (same 3) := fnok (st := mtAt PW 8 0) (o.look (by kernel_rfl : (KF PW z.w.params).lookup 146 = some (k146 PW z.w.params))) (o.code (by kernel_rfl)) (by kernel_rfl) rfl rfl (bv3 fun v0 v1 v2 => by kernel_rfl) (by kernel_rfl) (o.chk (by kernel_rfl))
theorem fn_Alias_init {z : Z} (o : ZK z) : FnOk z 242 fx_Alias_init pn_Alias_init ir_Alias_init (same 4) := fnok (st := mtAt PW 16 0) (o.look (by kernel_rfl : (KF PW z.w.params).lookup 242 = some (k242 PW z.w.params))) (o.code (by kernel_rfl)) (by kernel_rfl) rfl rfl (bv4 fun v0 v1 v2 v3 => by kernel_rfl) (by kernel_rfl) (o.chk (by kernel_rfl))
theorem fn_LocalName_init {z : Z} (o : ZK z) : FnOk z 284 fx_LocalName_init pn_LocalName_init ir_LocalName_init (same 3) := fnok (st := mtAt PW 19 0) (o.look (by kernel_rfl : (KF PW z.w.params).lookup 284 = some (k284 PW z.w.params))) (o.code (by kernel_rfl)) (by kernel_rfl) rfl rfl (bv3 fun v0 v1 v2 => by kernel_rfl) (by kernel_rfl) (o.chk (by kernel_rfl))
theorem fn_GlobalName_init {z : Z} (o : ZK z) : FnOk z 305 fx_GlobalName_init pn_GlobalName_init ir_GlobalName_init (same 2) := fnok (st := mtAt PW 20 0) (o.look (by kernel_rfl : (KF PW z.w.params).lookup 305 = some (k305 PW z.w.params))) (o.code (by kernel_rfl)) (by kernel_rfl) rfl rfl (bv2 fun v0 v1 => by kernel_rfl) (by kernel_rfl) (o.chk (by kernel_rfl))
theorem fn_Scope_init {z : Z} (o : ZK z) : FnOk z 368 fx_Scope_init pn_Scope_init ir_Scope_init (same 2) := fnok (st := mtAt PW 25 0) (o.look (by kernel_rfl : (KF PW z.w.params).lookup 368 = some (k368 PW z.w.params))) (o.code (by kernel_rfl)) (by kernel_rfl) rfl rfl (bv2 fun v0 v1 => by kernel_rfl) (by kernel_rfl) (o.chk (by kernel_rfl))
theorem fn_Names_init {z : Z} (o : ZK z) : FnOk z 611 fx_Names_init pn_Names_init ir_Names_init (same 1) := fnok (st := mtAt PW 54 0) (o.look (by kernel_rfl : (KF PW z.w.params).lookup 611 = some (k611 PW z.w.params))) (o.code (by kernel_rfl)) (by kernel_rfl) rfl rfl (bv1 fun v0 => by kernel_rfl) (by kernel_rfl) (o.chk (by kernel_rfl))
end Mine
end
noncomputable section
namespace Mine
noncomputable def fx_initA : Fx := ⟨["self", "word", "irritants"], (scopeOf (mtAt PW 13 0)).names⟩
noncomputable def fx_initB : Fx := ⟨["self", "reason", "datum"], (scopeOf (mtAt PW 14 0)).names⟩
theorem ZK.gok {z : Z} (o : ZK z) : Gok z := by
  have : (ownCls.all fun C => clsFacts (KF PW z.w.params) C) = true := by kernel_rfl
  exact ⟨fun C hC => by rw [o.K]; exact List.all_eq_true.mp this C hC⟩
theorem ZK.iok {z : Z} (o : ZK z) : Iok z := ⟨by rw [o.K]; kernel_rfl, by rw [o.K]; kernel_rfl⟩
theorem ncell {fx : Fx} (h : (fx.kinds.all fun x => x.2 != .cell) = true) : ∀ p ∈ fx.kinds, p.2 ≠ .cell := fun p hp => by
  have := List.all_eq_true.mp h p hp
  simpa using this
noncomputable def psOf (s : Stmt) : Ps := ⟨(kid 0 (kS 0 s)).pos, (kS 0 s).pos, (kS 1 s).pos, s.pos⟩
noncomputable def stA (i : Nat) : Stmt := (bodyOf (mtAt PW 13 0)).getD i s0
noncomputable def stB (i : Nat) : Stmt := (bodyOf (mtAt PW 14 0)).getD i s0
theorem ZK.tok {z : Z} (o : ZK z) : Tok z where
  exc := by rw [o.K, o.tr]; kernel_rfl
  cls := by rw [o.K, o.tr]; exact ⟨S [83, 121, 110, 116, 97, 120, 84, 114, 111, 117, 98, 108, 101], S [83, 121, 110, 116, 97, 120, 84, 114, 111, 117, 98, 108, 101], 225, [.ref 206], [.ref 206, .type "Exception", .type "BaseException", .type "object"], true, [], [], false, none, none, some (.ref 210), none, some (.str (S [83, 121, 110, 116, 97, 120, 84, 114, 111, 117, 98, 108, 101]) 460), some (.str (S [83, 121, 110, 116, 97, 120, 84, 114, 111, 117, 98, 108, 101]) 468), some (.bool true), by kernel_rfl, by kernel_rfl, by kernel_rfl, by kernel_rfl, by kernel_rfl⟩
  init := by rw [o.K, o.tr]; kernel_rfl
  fn := by rw [o.K]; kernel_rfl
  keep := by rw [o.K, o.tr]; kernel_rfl
  keepA := by rw [o.K]; kernel_rfl
  ga := by rw [o.K]; kernel_rfl
  ty := by rw [o.K]; kernel_rfl
  reads := by rw [o.K]; kernel_rfl
  find := by rw [o.K]; kernel_rfl
  A := ⟨fx_initA, ["self", "word", "irritants"], psOf (stA 0), psOf (stA 1), def_of (st := mtAt PW 13 0) (o.look (by kernel_rfl : (KF PW z.w.params).lookup 203 = some (k203 PW z.w.params))) (o.code (by kernel_rfl)) (by kernel_rfl) rfl (by kernel_rfl) (bv3 fun v0 v1 v2 => by kernel_rfl), rfl, ncell (by kernel_rfl), by kernel_rfl, by kernel_rfl, by kernel_rfl⟩
  B := ⟨fx_initB, ["self", "reason", "datum"], nmOf (kid 0 (kid 0 (kS 0 (stB 0)))), kOf (kid 2 (kS 0 (stB 0))), (kid 0 (kid 0 (kS 0 (stB 0)))).pos, (kid 0 (kS 0 (stB 0))).pos, (kid 1 (kS 0 (stB 0))).pos, (kid 2 (kS 0 (stB 0))).pos, (kid 0 (kid 3 (kS 0 (stB 0)))).pos, (kid 1 (kid 3 (kS 0 (stB 0)))).pos, (kid 3 (kS 0 (stB 0))).pos, (kS 0 (stB 0)).pos, (stB 0).pos, psOf (stB 1), psOf (stB 2), def_of (st := mtAt PW 14 0) (o.look (by kernel_rfl : (KF PW z.w.params).lookup 223 = some (k223 PW z.w.params))) (o.code (by kernel_rfl)) (by kernel_rfl) rfl (by kernel_rfl) (bv3 fun v0 v1 v2 => by kernel_rfl), rfl, ncell (by kernel_rfl), by kernel_rfl, by kernel_rfl, by rw [o.K]; kernel_rfl, by kernel_rfl, by kernel_rfl, by kernel_rfl⟩
structure Env0 (z : Z) : Prop where
  zo : z.Ok
  zk : ZK z
section
variable {z : Z}
theorem Env0.fn (e : Env0 z) {fa : Addr} {fx : Fx} {names : List Str} {ib : IB} {k : Nat} (F : FnOk z fa fx names ib (same k)) (hn : names.length = k) {n : Nat} {args : List V} {σ : AH} {Q : V → AH → Prop} {X : AH → Prop} (j : Nat)
    (hl : args.length = k) (w : WB z pg n ib X Q (fun _ σ => Q .none σ) (start args j) σ) : SemCall z (n + 1) fa args σ Q X := by
  subst hn
  exact sem_ir0 e.zo e.zk.gok e.zk.iok e.zk.tok e.zk.wok F j hl w
end
end Mine
end
noncomputable section
namespace Mine
theorem xEEAAAA {T0 T1 : Type} {p2 : T0 → T1 → Prop} {p3 : T0 → T1 → Prop} {p4 : T0 → T1 → Prop} {p5 : T0 → T1 → Prop} {p6 : T0 → T1 → Prop} {C : Prop} (h : ∃ x0, ∃ x1, p2 x0 x1 ∧ p3 x0 x1 ∧ p4 x0 x1 ∧ p5 x0 x1 ∧ p6 x0 x1) (k : ∀ x0, ∀ x1, p2 x0 x1 → p3 x0 x1 → p4 x0 x1 → p5 x0 x1 → p6 x0 x1 → C) : C := by
  obtain ⟨x0, x1, h2, h3, h4, h5, h6⟩ := h
  exact k x0 x1 h2 h3 h4 h5 h6
theorem lp {a n b : Nat} (h : a ≤ n) (d : Nat.ble (b + 1) a = true) : b ≤ n - 1 := Nat.le_sub_of_add_le (Nat.le_trans (Nat.le_of_ble_eq_true d) h)
theorem lq {a n b : Nat} (h : a ≤ n) (d : Nat.ble b a = true) : b ≤ n := Nat.le_trans (Nat.le_of_ble_eq_true d) h
theorem Env0.go {z : Z} (e : Env0 z) {fa : Addr} {fx : Fx} {names : List Str} {ib : IB} {k : Nat} (F : FnOk z fa fx names ib (same k)) {a n : Nat} (h : a ≤ n) {args : List V} {σ : AH} {Q : V → AH → Prop} {X : AH → Prop} (j : Nat)
    (w : WB z pg (n - 1) ib X Q (fun _ σ => Q .none σ) (start args j) σ) (hn : names.length = k := by rfl) (hl : args.length = k := by rfl) (hb : Nat.ble 1 a = true := by rfl) : SemCall z n fa args σ Q X := by
  have : n = n - 1 + 1 := (Nat.sub_add_cancel (lq h hb)).symm
  rw [this]
  exact e.fn F hn j hl w
theorem sm {o : Option V} {u : V} {F : V → Prop} (h : o = some u) (q : F u) : (match (generalizing := false) o with
    | some u => F u
    | none => False : Prop) := by subst h; exact q
theorem smF {o : Option Addr} {u : Addr} {F : Addr → Prop} (h : o = some u) (q : F u) : (match (generalizing := false) o with
    | some u => F u
    | none => False : Prop) := by subst h; exact q
theorem smB {o : Option Bool} {u : Bool} {F : Bool → Prop} (h : o = some u) (q : F u) : (match (generalizing := false) o with
    | some u => F u
    | none => False : Prop) := by subst h; exact q
theorem smL {o : Option (List V)} {u : List V} {F : List V → Prop} (h : o = some u) (q : F u) : (match (generalizing := false) o with
    | some u => F u
    | none => False : Prop) := by subst h; exact q
theorem sO {o : Option O} {vs : List V} {F : List V → Prop} (h : o = some (.list vs)) (q : F vs) : (match (generalizing := false) o with
    | some (.list vs) => F vs
    | _ => False : Prop) := by subst h; exact q
theorem sI {o : Option O} {C : Addr} {ks : List Nat} {vs : List V} {F : Addr → List Nat → List V → Prop} (h : o = some (.inst C ks vs)) (q : F C ks vs) : (match (generalizing := false) o with
    | some (.inst C ks vs) => F C ks vs
    | _ => False : Prop) := by subst h; exact q
theorem sDs {o : Option O} {ks : List Nat} {vs : List V} {k : Nat} {F : List Nat → List V → Nat → Prop} {G : List Int → List V → Int → Prop} (h : o = some (.dictS ks vs)) (q : F ks vs k) : (match (generalizing := false) o, V.str k with
    | some (.dictS ks vs), .str k => F ks vs k
    | some (.dictI ks vs), .int k => G ks vs k
    | _, _ => False : Prop) := by subst h; exact q
theorem sDi {o : Option O} {ks : List Int} {vs : List V} {k : Int} {F : List Nat → List V → Nat → Prop} {G : List Int → List V → Int → Prop} (h : o = some (.dictI ks vs)) (q : G ks vs k) : (match (generalizing := false) o, V.int k with
    | some (.dictS ks vs), .str k => F ks vs k
    | some (.dictI ks vs), .int k => G ks vs k
    | _, _ => False : Prop) := by subst h; exact q
theorem sSl {o : Option O} {vs : List V} {k : Int} {E : List V → Int → Prop} {F : List Nat → List V → Nat → Prop} {G : List Int → List V → Int → Prop} (h : o = some (.list vs)) (q : E vs k) : (match (generalizing := false) o, V.int k with
    | some (.list vs), .int k => E vs k
    | some (.dictS ks vs), .str k => F ks vs k
    | some (.dictI ks vs), .int k => G ks vs k
    | _, _ => False : Prop) := by subst h; exact q
theorem sSs {o : Option O} {ks : List Nat} {vs : List V} {k : Nat} {E : List V → Int → Prop} {F : List Nat → List V → Nat → Prop} {G : List Int → List V → Int → Prop} (h : o = some (.dictS ks vs)) (q : F ks vs k) : (match (generalizing := false) o, V.str k with
    | some (.list vs), .int k => E vs k
    | some (.dictS ks vs), .str k => F ks vs k
    | some (.dictI ks vs), .int k => G ks vs k
    | _, _ => False : Prop) := by subst h; exact q
theorem sSi {o : Option O} {ks : List Int} {vs : List V} {k : Int} {E : List V → Int → Prop} {F : List Nat → List V → Nat → Prop} {G : List Int → List V → Int → Prop} (h : o = some (.dictI ks vs)) (q : G ks vs k) : (match (generalizing := false) o, V.int k with
    | some (.list vs), .int k => E vs k
    | some (.dictS ks vs), .str k => F ks vs k
    | some (.dictI ks vs), .int k => G ks vs k
    | _, _ => False : Prop) := by subst h; exact q
theorem bt {t : Bool} {A B : Prop} (h : t = true) (q : A) : (match (generalizing := false) V.bool t with
    | .bool true => A
    | .bool false => B
    | _ => False : Prop) := by subst h; exact q
theorem bb {t : Bool} {A B : Prop} (h1 : t = true → A) (h2 : t = false → B) : (match (generalizing := false) V.bool t with
    | .bool true => A
    | .bool false => B
    | _ => False : Prop) := by cases t with
  | true => exact h1 rfl
  | false => exact h2 rfl
theorem sLL {o p : Option (List V)} {us vs : List V} {F : List V → List V → Prop} (h : o = some us) (h' : p = some vs) (q : F us vs) : (match (generalizing := false) o, p with
    | some us, some vs => F us vs
    | _, _ => False : Prop) := by subst h; subst h'; exact q
theorem sAt {o : Option (List V)} {vs : List V} {k : Int} {w : V} {F : V → Prop} (h : o = some vs) (h' : itemAt vs k = some w) (q : F w) : (match (generalizing := false) o, V.int k with
    | some vs, .int k => (match itemAt vs k with
      | some w => F w
      | none => False)
    | _, _ => False : Prop) := by subst h; exact sm h' q
end Mine
end
noncomputable section
namespace Mine
theorem lo {a n b : Nat} (h : a ≤ n + 1) (d : Nat.ble (b + 1) a = true) : b ≤ n := Nat.le_of_succ_le_succ (Nat.le_trans (Nat.le_of_ble_eq_true d) h)
theorem AH.set_set (σ : AH) (a : Addr) (x y : Option O) : (σ.set a x).set a y = σ.set a y := by
  funext b; unfold AH.set; by_cases h : b = a <;> simp [h]
theorem AH.set_none {σ : AH} {a : Addr} (h : σ a = none) (x : Option O) : (σ.set a x).set a none = σ := by
  funext b; unfold AH.set; by_cases q : b = a
  · simp [q, h]
  · simp [q]
theorem AH.set_same {σ : AH} {a : Addr} {x : Option O} (h : σ a = x) : σ.set a x = σ := by
  funext b; unfold AH.set; by_cases q : b = a
  · simp [q, h]
  · simp [q]
theorem AH.set_comm {σ : AH} {a b : Addr} (h : a ≠ b) (x y : Option O) : (σ.set a x).set b y = (σ.set b y).set a x := by
  funext c; unfold AH.set; by_cases q : c = b
  · subst q; simp [Ne.symm h]
  · simp [q]
theorem ne_of_none {σ : AH} {a b : Addr} {o : O} (h : σ a = some o) (h' : σ b = none) : a ≠ b := by rintro rfl; rw [h] at h'; cases h'
section
variable {z : Z} {n : Nat} {X : AH → Prop} {σ : AH} {Q : V → AH → Prop}
theorem lst_frz {vs : List V} (h : Q (.lst vs) σ) : ∀ a, σ a = none → frzQ Q (.ref a) (σ.set a (some (.list vs))) := fun a ha => by
  simp only [frzQ, AH.set_self, AH.set_none ha]; exact h
theorem newL_frz {vs : List V} (hl : vs.length ≤ 1000000) (h : Q (.lst vs) σ) : newL (frzQ Q) vs σ := ⟨hl, lst_frz h⟩
theorem frz_l {a : Addr} {vs : List V} (h : σ a = some (.list vs)) (q : Q (.lst vs) (σ.set a none)) : frzQ Q (.ref a) σ := by
  unfold frzQ; simp only [h]; exact q
theorem inst_frz {a : Addr} {C : Addr} {ks : List Nat} {vs : List V} (ha : σ a = none) (h : Q (.obj C ks vs) σ) : frzQ Q (.ref a) (σ.set a (some (.inst C ks vs))) := by
  simp only [frzQ, AH.set_self, AH.set_none ha]; exact h
noncomputable def dk (ds : List Int) : Option O := some (.list (ds.map V.int))
noncomputable def Dk (ds : List Int) : Prop := (∀ i ∈ ds, 0 ≤ i) ∧ ds.length ≤ 1000
theorem ne_ref {σ : AH} {d C : Addr} {vs us : List V} {b : Bool} (h : σ d = some (.list vs)) (e : eqD 50 (.lst vs) (.lst us) = some b) : cmpV C σ .ne (.ref d) (.lst us) = some (!b) := by
  show (eqD 50 (shut σ (.ref d)) (.lst us)).map (!·) = _
  rw [show shut σ (.ref d) = .lst vs by simp only [shut, h], e]; rfl
theorem isL_l {σ : AH} {d : Addr} {vs : List V} (h : σ d = some (.list vs)) : isL σ (.ref d) = true := by simp only [isL, h]
theorem c_draw (e : Env0 z) (hn : 1 ≤ n) {d : Addr} {ds : List Int} {m : Int} (hd : σ d = dk ds) (hD : Dk ds) (hm : 0 < m) (h : ∀ i ds', 0 ≤ i → i < m → Dk ds' → Q (.int i) (σ.set d (dk ds'))) : SemCall z n 689 [.ref d, .int m] σ Q X := by
  refine e.go (fn_law_draw e.zk) hn 0 ?_
  refine lst_frz ?_
  cases ds with
  | nil =>
    refine smB (ne_ref hd rfl) ?_
    have h0 := h 0 [] (Int.le_refl 0) hm hD
    rw [AH.set_same hd] at h0
    exact h0
  | cons x r =>
    refine smB (ne_ref hd rfl) ?_
    exact And.intro (isL_l hd) (sO hd (And.intro (Int.le_refl 0) (And.intro hm (h _ r (Int.fmod_nonneg_of_pos _ hm) (Int.fmod_lt_of_pos _ hm) ⟨fun i hi => hD.1 i (.tail _ hi), Nat.le_of_succ_le hD.2⟩))))
theorem compN_inv {f : V → (V → AH → Prop) → AH → Prop} {Q : List V → AH → Prop} (I : Nat → List V → AH → Prop) : ∀ (items : List V) (k : Nat) (acc : List V) (σ : AH), I k acc σ →
    (∀ (j : Nat) (v : V) (acc : List V) (σ : AH) (P : V → AH → Prop), items[j]? = some v → I (k + j) acc σ → (∀ u σ', I (k + j + 1) (acc ++ [u]) σ' → P u σ') → f v P σ) → (∀ acc σ, I (k + items.length) acc σ → Q acc σ) → compN f Q items acc σ
  | [], k, acc, σ, h0, _, hf => hf acc σ h0
  | v :: r, k, acc, σ, h0, hs, hf => hs 0 v acc σ _ rfl h0 fun u σ' h1 => compN_inv I r (k + 1) (acc ++ [u]) σ' h1 (fun j v acc σ P e i kk => hs (j + 1) v acc σ P (by simpa using e) (by rw [show k + (j + 1) = k + 1 + j by omega]; exact i) (fun u σ' i' => kk u σ' (by rw [show k + 1 + j + 1 = k + (j + 1) + 1 by omega]; exact i')))
      fun acc σ i => hf acc σ (by rw [List.length_cons, show k + (r.length + 1) = k + 1 + r.length by omega]; exact i)
theorem forN_inv {f : (Ls → AH → Prop) → V → Ls → AH → Prop} {N : Ls → AH → Prop} (I : Nat → Ls → AH → Prop) : ∀ (items : List V) (k : Nat) (ls : Ls) (σ : AH), I k ls σ →
    (∀ (j : Nat) (v : V) (ls : Ls) (σ : AH) (K : Ls → AH → Prop), items[j]? = some v → I (k + j) ls σ → (∀ ls' σ', I (k + j + 1) ls' σ' → K ls' σ') → f K v ls σ) → (∀ ls σ, I (k + items.length) ls σ → N ls σ) → forN f N items ls σ
  | [], k, ls, σ, h0, _, hf => hf ls σ h0
  | v :: r, k, ls, σ, h0, hs, hf => hs 0 v ls σ _ rfl h0 fun ls' σ' h1 => forN_inv I r (k + 1) ls' σ' h1 (fun j v acc σ P e i kk => hs (j + 1) v acc σ P (by simpa using e) (by rw [show k + (j + 1) = k + 1 + j by omega]; exact i) (fun u σ' i' => kk u σ' (by rw [show k + 1 + j + 1 = k + (j + 1) + 1 by omega]; exact i')))
      fun acc σ i => hf acc σ (by rw [List.length_cons, show k + (r.length + 1) = k + 1 + r.length by omega]; exact i)
theorem c_row (e : Env0 z) (hn : 1 ≤ n) {v : V} (h : Q (.tup [.str 16, v, .none]) σ) : SemCall z n 696 [v] σ Q X := by
  exact e.go (fn_law_row e.zk) hn 0 h
end
inductive Fm
  | num
  | str (k : Nat)
  | row (l : List Fm) (dot : Bool)
mutual
noncomputable def enc : Fm → V
  | .num => .int 5
  | .str k => .str k
  | .row l dot => .tup [.str 16, .lst (encs l), if dot then .int 5 else .none]
noncomputable def encs : List Fm → List V
  | [] => []
  | a :: l => enc a :: encs l
end
theorem encs_map : ∀ l : List Fm, encs l = l.map enc
  | [] => rfl
  | a :: l => by simp [encs, encs_map l]
theorem encs_length (l : List Fm) : (encs l).length = l.length := by rw [encs_map, List.length_map]
theorem encs_append (l r : List Fm) : encs (l ++ r) = encs l ++ encs r := by simp [encs_map]
noncomputable def Fok (w : Nat) : Nat → Fm → Prop
  | _, .num => True
  | _, .str k => k < strMany
  | 0, .row _ _ => False
  | d + 1, .row l dot => l.length ≤ w ∧ (dot = true → l ≠ []) ∧ ∀ x ∈ l, Fok w d x
theorem Fok.mono {w w' : Nat} (hw : w ≤ w') : ∀ {d d' : Nat} {x : Fm}, d ≤ d' → Fok w d x → Fok w' d' x
  | 0, 0, .num, _, _ => trivial
  | 0, d' + 1, .num, _, _ => trivial
  | d + 1, 0, .num, _, _ => trivial
  | d + 1, d' + 1, .num, _, _ => trivial
  | 0, 0, .str _, _, h => h
  | 0, d' + 1, .str _, _, h => h
  | d + 1, 0, .str _, _, h => h
  | d + 1, d' + 1, .str _, _, h => h
  | 0, _, .row _ _, _, h => h.elim
  | d + 1, 0, .row _ _, hd, _ => by omega
  | d + 1, d' + 1, .row l dot, hd, h => ⟨by have := h.1; omega, h.2.1, fun x hx => Fok.mono hw (by omega) (h.2.2 x hx)⟩
theorem Fok.num {w d : Nat} : Fok w d .num := by cases d <;> trivial
theorem Fok.str {w d k : Nat} (h : k < strMany) : Fok w d (.str k) := by cases d <;> exact h
noncomputable def Foks (w d : Nat) (l : List Fm) : Prop := ∀ x ∈ l, Fok w d x
theorem Foks.cons {w d : Nat} {a : Fm} {l : List Fm} (h : Fok w d a) (r : Foks w d l) : Foks w d (a :: l) := fun x hx => by
  rcases List.mem_cons.mp hx with rfl | hx
  · exact h
  · exact r x hx
theorem Foks.nil {w d : Nat} : Foks w d [] := fun _ h => nomatch h
theorem Foks.append {w d : Nat} {l r : List Fm} (h : Foks w d l) (h' : Foks w d r) : Foks w d (l ++ r) := fun x hx => by
  rcases List.mem_append.mp hx with hx | hx
  · exact h x hx
  · exact h' x hx
theorem Foks.mono {w w' d d' : Nat} {l : List Fm} (hw : w ≤ w') (hd : d ≤ d') (h : Foks w d l) : Foks w' d' l := fun x hx => Fok.mono hw hd (h x hx)
theorem Fok.row {w d : Nat} {l : List Fm} (hl : l.length ≤ w) (h : Foks w d l) : Fok w (d + 1) (.row l false) := ⟨hl, (fun q => by cases q), h⟩
section
variable {z : Z} {n : Nat} {X : AH → Prop} {σ : AH} {Q : V → AH → Prop}
@[elab_as_elim] theorem int3 {P : Int → Prop} {i : Int} (h : 0 ≤ i) (h' : i < 3) (h0 : P 0) (h1 : P 1) (h2 : P 2) : P i := by
  obtain rfl | rfl | rfl : i = 0 ∨ i = 1 ∨ i = 2 := by omega
  · exact h0
  · exact h1
  · exact h2
@[elab_as_elim] theorem int2 {P : Int → Prop} {i : Int} (h : 0 ≤ i) (h' : i < 2) (h0 : P 0) (h1 : P 1) : P i := by
  obtain rfl | rfl : i = 0 ∨ i = 1 := by omega
  · exact h0
  · exact h1
theorem c_some (e : Env0 z) (hn : 2 ≤ n) {d : Addr} {ds : List Int} {m : Int} (hd : σ d = dk ds) (hD : Dk ds) (hm : 0 ≤ m) (hm2 : m ≤ 1)
    (h : ∀ l ds', Foks 2 1 l → m ≤ l.length → l.length ≤ 2 → Dk ds' → Q (.lst (encs l)) (σ.set d (dk ds'))) : SemCall z n 701 [.ref d, .int m] σ Q X := by
  refine e.go (fn_law_some e.zk) hn 1 ?_
  refine c_draw e (lp hn rfl) hd hD (by omega) fun i ds1 h1 h2 hD1 => ?_
  refine And.intro (by omega) (And.intro (by omega) ?_)
  refine compN_inv (fun k acc σ' => ∃ l ds', acc = encs l ∧ l.length = k ∧ Foks 2 1 l ∧ Dk ds' ∧ σ' = σ.set d (dk ds')) _ 0 [] _ ⟨[], ds1, rfl, rfl, Foks.nil, hD1, rfl⟩ ?_ ?_
  · intro j v acc σ' P hv hI kk
    refine xEEAAAA hI fun l ds' r1 hl hf hD' r2 => ?_
    subst r1; subst r2
    refine lst_frz (c_row e (lp hn rfl) (lst_frz ?_))
    refine c_draw e (lp hn rfl) (ds := ds') (AH.set_self ..) hD' (by decide) fun i ds2 h3 h4 hD2 => ?_
    rw [AH.set_set]
    have fin : ∀ x, Fok 2 1 x → P (enc x) (σ.set d (dk ds2)) := fun x hx => kk _ _ ⟨l ++ [x], ds2, (encs_append l [x]).symm, by simp [hl], hf.append (Foks.cons hx Foks.nil), hD2, rfl⟩
    refine int3 h3 h4 ?_ ?_ ?_
    · exact fin (.str 9) (Fok.str (by decide))
    · exact fin .num trivial
    · exact fin (.row [.str 10, .str 9] false) (Fok.row (by decide) (Foks.cons (Fok.str (by decide)) (Foks.cons (Fok.str (by decide)) Foks.nil)))
  · intro acc σ' hI
    refine xEEAAAA hI fun l ds' r1 hl hf hD' r2 => ?_
    subst r1; subst r2
    have hlen : (upV 0 (m + i).toNat).length = (m + i).toNat := upV_length
    rw [hlen] at hl
    have hz : (l.length : Int) = m + i := by omega
    exact newL_frz (by rw [encs_length]; omega) (h l ds' hf (by omega) (by omega) hD')
theorem c_bindings (e : Env0 z) (hn : 2 ≤ n) {d : Addr} {ds : List Int} {m : Int} (hd : σ d = dk ds) (hD : Dk ds) (hm : 2 ≤ m) (hm2 : m ≤ 3)
    (h : ∀ x ds', Fok 4 2 x → Dk ds' → Q (enc x) (σ.set d (dk ds'))) : SemCall z n 708 [.ref d, .int m] σ Q X := by
  refine e.go (fn_law_bindings e.zk) hn 2 ?_
  intro a ha
  have nad : a ≠ d := (ne_of_none (by rw [hd]; rfl) ha).symm
  refine c_draw e (lp hn rfl) (ds := ds) ((AH.set_ne (Ne.symm nad)).trans hd) hD (by omega) fun i ds1 h1 h2 hD1 => ?_
  refine And.intro (by omega) (And.intro (by omega) ?_)
  refine forN_inv (fun k ls σ' => ∃ l ds' u, ls = [some (.ref d), some (.int m), some (.ref a), u] ∧ l.length = k ∧ Foks 4 1 l ∧ Dk ds' ∧ σ' = (σ.set a (some (.list (encs l)))).set d (dk ds')) _ 0 _ _ ⟨[], ds1, none, rfl, rfl, Foks.nil, hD1, rfl⟩ ?_ ?_
  · intro j v ls σ' K hv hI kk
    refine xEEEAAAA hI fun l ds' u r1 hl hf hD' r2 => ?_
    subst r1; subst r2
    have hj : j < 3 := by
      have := (List.getElem?_eq_some_iff.mp hv).1
      rw [upV_length] at this; omega
    have ga : ∀ ds', ((σ.set a (some (.list (encs l)))).set d (dk ds')) a = some (.list (encs l)) := fun _ => (AH.set_ne nad).trans (AH.set_self ..)
    refine And.intro (isL_l (ga _)) ?_
    refine lst_frz ?_
    refine c_draw e (lp hn rfl) (ds := ds') (AH.set_self ..) hD' (by decide) fun i2 ds2 h3 h4 hD2 => ?_
    rw [AH.set_set]
    have fin : ∀ (x : Fm) ds3, Fok 4 1 x → Dk ds3 → K [some (.ref d), some (.int m), some (.ref a), some v] (((σ.set a (some (.list (encs l)))).set d (dk ds3)).set a (some (.list (encs l ++ [enc x])))) := fun x ds3 hx hD3 => by
      refine kk _ _ ⟨l ++ [x], ds3, some v, rfl, by simp [hl], hf.append (Foks.cons hx Foks.nil), hD3, ?_⟩
      rw [AH.set_comm (Ne.symm nad), AH.set_set, encs_append]; rfl
    obtain ⟨c, hc, hit⟩ : ∃ c, c < strMany ∧ itemAt [V.str 11, V.str 12] i2 = some (V.str c) := int2 h3 h4 ⟨11, by decide, rfl⟩ ⟨12, by decide, rfl⟩
    refine sm hit ?_
    refine lst_frz (lst_frz ?_)
    refine c_draw e (lp hn rfl) (ds := ds2) (AH.set_self ..) hD2 (by omega) fun i3 ds3 h5 h6 hD3 => ?_
    rw [AH.set_set]
    refine And.intro h5 (And.intro (by omega) (newL_frz (by simp; omega) (newL_frz (by simp; omega) (c_row e (lp hn rfl) ?_))))
    refine sO (ga _) ?_
    refine And.intro (by rw [encs_length]; omega) ?_
    refine int2 h5 (Int.lt_of_lt_of_le h6 (by omega)) ?_ ?_
    · exact fin (.row [.str c, .num] false) ds3 (Fok.row (Nat.le_of_ble_eq_true rfl) (Foks.cons (Fok.str hc) (Foks.cons Fok.num Foks.nil))) hD3
    · exact fin (.row [.str c, .num, .str 9] false) ds3 (Fok.row (Nat.le_of_ble_eq_true rfl) (Foks.cons (Fok.str hc) (Foks.cons Fok.num (Foks.cons (Fok.str (by decide)) Foks.nil)))) hD3
  · intro ls σ' hI
    refine xEEEAAAA hI fun l ds' u r1 hl hf hD' r2 => ?_
    subst r1; subst r2
    rw [upV_length] at hl
    have ga : ((σ.set a (some (.list (encs l)))).set d (dk ds')) a = some (.list (encs l)) := (AH.set_ne nad).trans (AH.set_self ..)
    refine frz_l ga ?_
    refine c_row e (lp hn rfl) ?_
    rw [AH.set_comm (Ne.symm nad), AH.set_none ha]
    exact h (.row l false) ds' (Fok.row (by omega) hf) hD'
end
end Mine
end
noncomputable section
namespace Mine
section
variable {z : Z} {n : Nat} {X : AH → Prop} {σ : AH} {Q : V → AH → Prop}
theorem encs_ins (l : List Fm) (p : Nat) (x : Fm) : (encs l).take p ++ enc x :: (encs l).drop p = encs (l.take p ++ x :: l.drop p) := by simp [encs_map, List.map_take, List.map_drop]
theorem ins_length (l : List Fm) (p : Nat) (x : Fm) : (l.take p ++ x :: l.drop p).length ≤ l.length + 1 := by simp; omega
theorem encs_le {us : List V} {l : List Fm} {k : Nat} (h : l.length ≤ k) (h2 : Nat.ble (us.length + k) 1000000 = true := by rfl) : (us ++ encs l).length ≤ 1000000 := by
  have := Nat.le_of_ble_eq_true h2
  rw [List.length_append, encs_length]; omega
theorem listAt_l {a : Addr} {vs : List V} (h : σ a = some (.list vs)) : listAt σ (.ref a) = some vs := by simp only [listAt, h]
theorem c_clauses (e : Env0 z) (hn : 3 ≤ n) {d : Addr} {ds : List Int} {w : Nat} (hd : σ d = dk ds) (hD : Dk ds)
    (h : ∀ l ds', Foks 4 3 l → l.length ≤ 3 → Dk ds' → Q (.lst (encs l)) (σ.set d (dk ds'))) : SemCall z n 715 [.ref d, .str w] σ Q X := by
  refine e.go (fn_law_clauses e.zk) hn 2 ?_
  intro a ha
  have nad : a ≠ d := (ne_of_none (by rw [hd]; rfl) ha).symm
  refine c_draw e (lp hn rfl) (ds := ds) ((AH.set_ne (Ne.symm nad)).trans hd) hD (by decide) fun i ds1 h1 h2 hD1 => ?_
  refine And.intro (by omega) (And.intro (by omega) ?_)
  refine forN_inv (fun k ls σ' => ∃ l ds' u, ls = [some (.ref d), some (.str w), some (.ref a), u] ∧ l.length = k ∧ Foks 4 3 l ∧ Dk ds' ∧ σ' = (σ.set a (some (.list (encs l)))).set d (dk ds')) _ 0 _ _ ⟨[], ds1, none, rfl, rfl, Foks.nil, hD1, rfl⟩ ?_ ?_
  · intro j v ls σ' K hv hI kk
    refine xEEEAAAA hI fun l ds' u r1 hl hf hD' r2 => ?_
    subst r1; subst r2
    have hj : j < 2 := by
      have := (List.getElem?_eq_some_iff.mp hv).1
      rw [upV_length] at this; omega
    have ga : ∀ ds', ((σ.set a (some (.list (encs l)))).set d (dk ds')) a = some (.list (encs l)) := fun _ => (AH.set_ne nad).trans (AH.set_self ..)
    have hlb : (encs l).length < 1000000 := by rw [encs_length]; omega
    have fin : ∀ (x : Fm) ds3, Fok 4 3 x → Dk ds3 → K [some (.ref d), some (.str w), some (.ref a), some v] (((σ.set a (some (.list (encs l)))).set d (dk ds3)).set a (some (.list (encs l ++ [enc x])))) := fun x ds3 hx hD3 => by
      refine kk _ _ ⟨l ++ [x], ds3, some v, rfl, by simp [hl], hf.append (Foks.cons hx Foks.nil), hD3, ?_⟩
      rw [AH.set_comm (Ne.symm nad), AH.set_set, encs_append]; rfl
    refine bb (fun hw => ?_) fun hw => ?_
    · refine And.intro (isL_l (ga _)) (lst_frz ?_)
      refine c_draw e (lp hn rfl) (ds := ds') (AH.set_self ..) hD' (by decide) fun i2 ds2 h3 h4 hD2 => ?_
      rw [AH.set_set]
      refine And.intro h3 (And.intro (by omega) (newL_frz (by simp; omega) (c_row e (lp hn rfl) (lst_frz ?_))))
      refine c_some e (lp hn rfl) (ds := ds2) (AH.set_self ..) hD2 (by decide) (by decide) fun r ds3 hr h5 h6 hD3 => ?_
      rw [AH.set_set]
      refine newL_frz (encs_le h6) (c_row e (lp hn rfl) (sO (ga _) (And.intro hlb ?_)))
      refine int3 (P := fun i2 => K _ (((σ.set a (some (.list (encs l)))).set d (dk ds3)).set a (some (.list (encs l ++ [V.tup [.str 16, .lst ([V.tup [.str 16, .lst (List.take i2.toNat [V.int 5, V.str 9]), .none]] ++ encs r), .none]])))) ) h3 h4 ?_ ?_ ?_
      · exact fin (.row (.row [] false :: r) false) ds3 (Fok.row (Nat.succ_le_succ (Nat.le_trans h6 (by decide))) (Foks.cons (Fok.row (by decide) Foks.nil) (hr.mono (by decide) (by decide)))) hD3
      · exact fin (.row (.row [.num] false :: r) false) ds3 (Fok.row (Nat.succ_le_succ (Nat.le_trans h6 (by decide))) (Foks.cons (Fok.row (by decide) (Foks.cons Fok.num Foks.nil)) (hr.mono (by decide) (by decide)))) hD3
      · exact fin (.row (.row [.num, .str 9] false :: r) false) ds3 (Fok.row (Nat.succ_le_succ (Nat.le_trans h6 (by decide))) (Foks.cons (Fok.row (by decide) (Foks.cons Fok.num (Foks.cons (Fok.str (by decide)) Foks.nil))) (hr.mono (by decide) (by decide)))) hD3
    · refine c_draw e (lp hn rfl) (ds := ds') (AH.set_self ..) hD' (by decide) fun i2 ds2 h3 h4 hD2 => ?_
      rw [AH.set_set]
      refine bb (fun hi => ?_) fun hi => ?_
      · refine And.intro (isL_l (ga _)) (lst_frz (c_row e (lp hn rfl) (sO (ga _) (And.intro hlb ?_))))
        exact fin (.row [.str 9, .str 15, .str 10] false) ds2 (Fok.row (by decide) (Foks.cons (Fok.str (by decide)) (Foks.cons (Fok.str (by decide)) (Foks.cons (Fok.str (by decide)) Foks.nil)))) hD2
      · refine And.intro (isL_l (ga _)) (lst_frz ?_)
        refine c_some e (lp hn rfl) (ds := ds2) (AH.set_self ..) hD2 (by decide) (by decide) fun r ds3 hr h5 h6 hD3 => ?_
        rw [AH.set_set]
        refine newL_frz (encs_le h6) (c_row e (lp hn rfl) (sO (ga _) (And.intro hlb ?_)))
        exact fin (.row (.str 9 :: r) false) ds3 (Fok.row (Nat.succ_le_succ (Nat.le_trans h6 (by decide))) (Foks.cons (Fok.str (by decide)) (hr.mono (by decide) (by decide)))) hD3
  · intro ls σ' hI
    refine xEEEAAAA hI fun l ds' u r1 hl hf hD' r2 => ?_
    subst r1; subst r2
    rw [upV_length] at hl
    have ga : ∀ (l : List Fm) ds', ((σ.set a (some (.list (encs l)))).set d (dk ds')) a = some (.list (encs l)) := fun _ _ => (AH.set_ne nad).trans (AH.set_self ..)
    have done : ∀ (l : List Fm) ds3, Foks 4 3 l → l.length ≤ 3 → Dk ds3 → frzQ Q (.ref a) ((σ.set a (some (.list (encs l)))).set d (dk ds3)) := fun l ds3 hf hl hD3 => by
      refine frz_l (ga _ _) ?_
      rw [AH.set_comm (Ne.symm nad), AH.set_none ha]
      exact h l ds3 hf hl hD3
    have hl2 : l.length ≤ 2 := by omega
    refine c_draw e (lp hn rfl) (ds := ds') (AH.set_self ..) hD' (by decide) fun i2 ds2 h3 h4 hD2 => ?_
    rw [AH.set_set]
    refine bb (fun hi => ?_) fun hi => done l ds2 hf (Nat.le_succ_of_le hl2) hD2
    refine And.intro (isL_l (ga _ _)) (smL (listAt_l (ga _ _)) ?_)
    refine c_draw e (lp hn rfl) (ds := ds2) (AH.set_self ..) hD2 (by decide) fun i3 ds3 h5 h6 hD3 => lst_frz ?_
    rw [AH.set_set]
    refine c_some e (lp hn rfl) (ds := ds3) (AH.set_self ..) hD3 (by decide) (by decide) fun r ds4 hr h7 h8 hD4 => ?_
    rw [AH.set_set]
    refine newL_frz (encs_le h8) (c_row e (lp hn rfl) (sO (ga _ _) ?_))
    have hx : Fok 4 3 (.row (.str 14 :: r) false) := Fok.row (Nat.succ_le_succ (Nat.le_trans h8 (by decide))) (Foks.cons (Fok.str (by decide)) (hr.mono (by decide) (by decide)))
    refine And.intro (by rw [encs_length]; omega) (And.intro (by rw [encs_length]; omega) (And.intro (by rw [encs_length]; omega) ?_))
    have := done (l.take ((encs l).length - i3 : Int).toNat ++ .row (.str 14 :: r) false :: l.drop ((encs l).length - i3 : Int).toNat) ds4
        (fun x hx' => by
          rcases List.mem_append.mp hx' with q | q
          · exact hf x (List.mem_of_mem_take q)
          · rcases List.mem_cons.mp q with rfl | q
            · exact hx
            · exact hf x (List.mem_of_mem_drop q)) (Nat.le_trans (ins_length l _ _) (Nat.succ_le_succ hl2)) hD4
    rw [← encs_ins, ← AH.set_set σ a (some (.list (encs l))), AH.set_comm nad] at this
    exact this
theorem w8s {w : Nat} (h : w ≤ 8) : w = 0 ∨ w = 1 ∨ w = 2 ∨ w = 3 ∨ w = 4 ∨ w = 5 ∨ (w = 6 ∨ w = 7 ∨ w = 8) := (by decide : ∀ w ≤ 8, w = 0 ∨ w = 1 ∨ w = 2 ∨ w = 3 ∨ w = 4 ∨ w = 5 ∨ (w = 6 ∨ w = 7 ∨ w = 8)) w h
theorem c_form (e : Env0 z) (hn : 4 ≤ n) {d : Addr} {ds : List Int} {w : Nat} (hw : w ≤ 8) (hd : σ d = dk ds) (hD : Dk ds)
    (h : ∀ l ds', Foks 8 3 l → l.length ≤ 7 → Dk ds' → Q (enc (.row (.str w :: l) false)) (σ.set d (dk ds'))) : SemCall z n 722 [.ref d, .str w] σ Q X := by
  refine e.go (fn_law_form e.zk) hn 2 ?_
  have h' : ∀ l ds', Foks 8 3 l → l.length ≤ 7 → Dk ds' → Q (.tup [.str 16, .lst (.str w :: encs l), .none]) (σ.set d (dk ds')) := h
  have hxr : ∀ (x : Fm) (r : List Fm), Fok 4 2 x → Foks 2 1 r → r.length ≤ 2 → Foks 8 3 (x :: r) ∧ (x :: r).length ≤ 7 := fun x r hx hr hl => ⟨Foks.cons (hx.mono (by decide) (by decide)) (hr.mono (by decide) (by decide)), Nat.succ_le_succ (Nat.le_trans hl (by decide))⟩
  obtain rfl | rfl | rfl | rfl | rfl | rfl | hw : w = 0 ∨ w = 1 ∨ w = 2 ∨ w = 3 ∨ w = 4 ∨ w = 5 ∨ (w = 6 ∨ w = 7 ∨ w = 8) := w8s hw
  · -- let, with a name or without
    refine c_draw e (lp hn rfl) hd hD (by decide) fun i ds1 h1 h2 hD1 => ?_
    refine bb (fun hi => ?_) fun hi => ?_
    · refine lst_frz (lst_frz (newL_frz (by decide) ?_))
      refine c_bindings e (lp hn rfl) (ds := ds1) (AH.set_self ..) hD1 (by decide) (by decide) fun x ds2 hx hD2 => lst_frz (newL_frz (Nat.le_of_ble_eq_true rfl) ?_)
      rw [AH.set_set]
      refine c_some e (lp hn rfl) (ds := ds2) (AH.set_self ..) hD2 (by decide) (by decide) fun r ds3 hr h5 h6 hD3 => ?_
      rw [AH.set_set]
      refine newL_frz (encs_le h6) (c_row e (lp hn rfl) ?_)
      exact h' (.str 13 :: x :: r) ds3 (Foks.cons (Fok.str (by decide)) (hxr x r hx hr h6).1) (Nat.succ_le_succ (Nat.succ_le_succ (Nat.le_trans h6 (by decide)))) hD3
    · refine lst_frz (lst_frz (newL_frz (by decide) ?_))
      refine c_bindings e (lp hn rfl) (ds := ds1) (AH.set_self ..) hD1 (by decide) (by decide) fun x ds2 hx hD2 => lst_frz (newL_frz (Nat.le_of_ble_eq_true rfl) ?_)
      rw [AH.set_set]
      refine c_some e (lp hn rfl) (ds := ds2) (AH.set_self ..) hD2 (by decide) (by decide) fun r ds3 hr h5 h6 hD3 => ?_
      rw [AH.set_set]
      refine newL_frz (encs_le h6) (c_row e (lp hn rfl) ?_)
      exact h' (x :: r) ds3 (hxr x r hx hr h6).1 (hxr x r hx hr h6).2 hD3
  iterate 2
    · refine lst_frz (lst_frz (newL_frz (by decide) ?_))
      refine c_bindings e (lp hn rfl) hd hD (by decide) (by decide) fun x ds2 hx hD2 => lst_frz (newL_frz (Nat.le_of_ble_eq_true rfl) ?_)
      refine c_some e (lp hn rfl) (ds := ds2) (AH.set_self ..) hD2 (by decide) (by decide) fun r ds3 hr h5 h6 hD3 => ?_
      rw [AH.set_set]
      refine newL_frz (encs_le h6) (c_row e (lp hn rfl) ?_)
      exact h' (x :: r) ds3 (hxr x r hx hr h6).1 (hxr x r hx hr h6).2 hD3
  · refine lst_frz (c_clauses e (lp hn rfl) hd hD fun r ds1 hr hl hD1 => ?_)
    refine newL_frz (encs_le hl) (c_row e (lp hn rfl) ?_)
    exact h' r ds1 (hr.mono (by decide) (by decide)) (Nat.le_trans hl (by decide)) hD1
  · refine lst_frz (c_clauses e (lp hn rfl) hd hD fun r ds1 hr hl hD1 => ?_)
    refine newL_frz (encs_le hl) (c_row e (lp hn rfl) ?_)
    exact h' (.str 9 :: r) ds1 (Foks.cons (Fok.str (by decide)) (hr.mono (by decide) (by decide))) (Nat.succ_le_succ (Nat.le_trans hl (by decide))) hD1
  · refine lst_frz (c_some e (lp hn rfl) hd hD (by decide) (by decide) fun q ds1 hq h3 h4 hD1 => ?_)
    refine newL_frz (encs_le h4) (c_row e (lp hn rfl) ?_)
    refine c_bindings e (lp hn rfl) (ds := ds1) (AH.set_self ..) hD1 (by decide) (by decide) fun x ds2 hx hD2 => lst_frz ?_
    rw [AH.set_set]
    refine c_some e (lp hn rfl) (ds := ds2) (AH.set_self ..) hD2 (by decide) (by decide) fun r ds3 hr h5 h6 hD3 => ?_
    rw [AH.set_set]
    refine newL_frz (encs_le h6) (c_row e (lp hn rfl) ?_)
    exact h' (x :: .row (.str 9 :: q) false :: r) ds3 (Foks.cons (hx.mono (by decide) (by decide)) (Foks.cons (Fok.row (Nat.succ_le_succ (Nat.le_trans h4 (by decide))) (Foks.cons (Fok.str (by decide)) (hq.mono (by decide) (by decide)))) (hr.mono (by decide) (by decide)))) (Nat.succ_le_succ (Nat.succ_le_succ (Nat.le_trans h6 (by decide)))) hD3
  · have hws : w < strMany := by rcases hw with rfl | rfl | rfl <;> decide
    have k6 : ∀ ds3 (r : List Fm) , Foks 2 1 r → r.length ≤ 2 → Dk ds3 → Q (.tup [.str 16, .lst (.str w :: encs r), .none]) (σ.set d (dk ds3)) := fun ds3 r hr h6 hD3 => h' r ds3 (hr.mono (by decide) (by decide)) (Nat.le_trans h6 (by decide)) hD3
    rcases hw with rfl | rfl | rfl
    · refine lst_frz (lst_frz (newL_frz (by decide) (c_row e (lp hn rfl) ?_)))
      have := h' [.str 9] ds (Foks.cons (Fok.str (by decide)) Foks.nil) (by decide) hD
      rw [AH.set_same hd] at this
      exact this
    iterate 2
      · refine lst_frz (c_some e (lp hn rfl) hd hD (by decide) (by decide) fun r ds3 hr h5 h6 hD3 => ?_)
        exact newL_frz (encs_le h6) (c_row e (lp hn rfl) (k6 ds3 r hr h6 hD3))
end
end Mine
end
noncomputable section
namespace Mine
noncomputable def IB.drop : Nat → IB → IB
  | 0, b => b
  | k + 1, .cons _ r => r.drop k
  | _ + 1, .nil => .nil
noncomputable def dotV (b : Bool) : V := if b then .int 5 else .none
theorem enc_row' (l : List Fm) (b : Bool) : enc (.row l b) = .tup [.str 16, .lst (encs l), dotV b] := by simp only [enc]; rfl
noncomputable def Bent (w D : Nat) (top : Bool) (F F' : Fm) : Prop := Fok (w + 1) (D + 1) F' ∧ (top = true → ∀ k l dot, F = .row (.str k :: l) dot → ∃ l' dot', F' = .row (.str k :: l') dot')
section
variable {z : Z} {n : Nat} {X : AH → Prop} {σ : AH} {Q : V → AH → Prop}
noncomputable def menuE : IE := .idx (.frz (.lst (.cons (.val (.int 5)) (.cons (.val (.str 9)) (.cons (.val (.str 14)) (.cons (.val (.str 15)) (.cons (.call 696 (.cons (.frz (.lst .nil)) .nil)) (.cons (.call 696 (.cons (.frz (.lst (.cons (.val (.str 9)) .nil))) .nil)) (.cons (.tup (.cons (.val (.str 16)) (.cons (.frz (.lst (.cons (.val (.str 9)) .nil))) (.cons (.val (.int 5)) .nil)))) .nil))))))))) (.call 689 (.cons (.loc 0) (.cons (.val (.int 7)) .nil)))
@[elab_as_elim] theorem int7 {P : Int → Prop} {i : Int} (h : 0 ≤ i) (h' : i < 7) (h0 : P 0) (h1 : P 1) (h2 : P 2) (h3 : P 3) (h4 : P 4) (h5 : P 5) (h6 : P 6) : P i := by
  obtain rfl | rfl | rfl | rfl | rfl | rfl | rfl : i = 0 ∨ i = 1 ∨ i = 2 ∨ i = 3 ∨ i = 4 ∨ i = 5 ∨ i = 6 := by omega
  · exact h0
  · exact h1
  · exact h2
  · exact h3
  · exact h4
  · exact h5
  · exact h6
@[elab_as_elim] theorem int5 {P : Int → Prop} {i : Int} (h : 0 ≤ i) (h' : i < 5) (h0 : P 0) (h1 : P 1) (h2 : P 2) (h3 : P 3) (h4 : P 4) : P i := by
  obtain rfl | rfl | rfl | rfl | rfl : i = 0 ∨ i = 1 ∨ i = 2 ∨ i = 3 ∨ i = 4 := by omega
  · exact h0
  · exact h1
  · exact h2
  · exact h3
  · exact h4
theorem seqAt_l {a : Addr} {vs : List V} (h : σ a = some (.list vs)) : seqAt σ (.ref a) = some vs := listAt_l h
theorem encs_at {l : List Fm} {p : Nat} (hp : p < l.length) : itemAt (encs l) (p : Int) = some (enc l[p]) := by
  unfold itemAt
  rw [if_pos (Int.natCast_nonneg _), Int.toNat_natCast, encs_map, List.getElem?_map, List.getElem?_eq_getElem hp]; rfl
theorem encs_at' {l : List Fm} {p : Nat} (hp : p < l.length) : (encs l)[((p : Nat) : Int).toNat]? = some (enc l[p]) := by
  rw [Int.toNat_natCast, encs_map, List.getElem?_map, List.getElem?_eq_getElem hp]; rfl
theorem bent_menu (e : Env0 z) (hn : 1 ≤ n) {d : Addr} {ds : List Int} (hd : σ d = dk ds) (hD : Dk ds) {w D : Nat}
    (h : ∀ F ds', Fok (w + 1) (D + 1) F → Dk ds' → Q (enc F) (σ.set d (dk ds'))) :
    WE z pg n menuE X (some (.ref d) :: ls) Q σ := by
  refine lst_frz (c_row e hn (lst_frz (c_row e hn (lst_frz (lst_frz ?_)))))
  refine c_draw e hn hd hD (by decide) fun i ds1 h1 h2 hD1 => ?_
  have hx : Foks (w + 1) D [.str 9] := Foks.cons (Fok.str (by decide)) Foks.nil
  refine int7 h1 h2 ?_ ?_ ?_ ?_ ?_ ?_ ?_
  · exact h .num ds1 Fok.num hD1
  · exact h (.str 9) ds1 (Fok.str (by decide)) hD1
  · exact h (.str 14) ds1 (Fok.str (by decide)) hD1
  · exact h (.str 15) ds1 (Fok.str (by decide)) hD1
  · exact h (.row [] false) ds1 (Fok.row (Nat.zero_le _) Foks.nil) hD1
  · exact h (.row [.str 9] false) ds1 (Fok.row (Nat.succ_le_succ (Nat.zero_le _)) hx) hD1
  · exact h (.row [.str 9] true) ds1 ⟨Nat.succ_le_succ (Nat.zero_le _), fun _ => nofun, hx⟩ hD1
theorem bent_atom (e : Env0 z) {d : Addr} {w D : Nat} {n : Nat} {σ : AH} {Q : V → AH → Prop} {ds : List Int} {F : Fm} (hn : 2 ≤ n) (hd : σ d = dk ds) (hD : Dk ds) (hi : isinstV σ .tup (enc F) = some false)
    (h : ∀ F' ds', Fok (w + 1) (D + 1) F' → Dk ds' → Q (enc F') (σ.set d (dk ds'))) : SemCall z n 729 [.ref d, enc F, .bool false] σ Q X := by
  refine e.go (fn_law_bent e.zk) hn 5 (smB hi ?_)
  exact bent_menu e (lp hn rfl) hd hD h
theorem foks_set {w d : Nat} {l : List Fm} {x : Fm} (i : Nat) (h : Foks w d l) (hx : Fok w d x) : Foks w d (l.set i x) := fun y hy => by
  rcases List.mem_or_eq_of_mem_set hy with q | rfl
  · exact h y q
  · exact hx
theorem foks_erase {w d : Nat} {l : List Fm} (i : Nat) (h : Foks w d l) : Foks w d (l.eraseIdx i) := fun y hy => h y (List.mem_of_mem_eraseIdx hy)
theorem foks_take {w d : Nat} {l : List Fm} (i : Nat) (h : Foks w d l) : Foks w d (l.take i) := fun y hy => h y (List.mem_of_mem_take hy)
theorem foks_drop {w d : Nat} {l : List Fm} (i : Nat) (h : Foks w d l) : Foks w d (l.drop i) := fun y hy => h y (List.mem_of_mem_drop hy)
theorem encs_set (l : List Fm) (p : Nat) (x : Fm) : (encs l).set p (enc x) = encs (l.set p x) := by simp [encs_map, List.map_set]
theorem encs_erase : ∀ (l : List Fm) (p : Nat), (encs l).eraseIdx p = encs (l.eraseIdx p)
  | [], _ => rfl
  | _ :: _, 0 => rfl
  | a :: l, p + 1 => by simp only [encs, List.eraseIdx_cons_succ, encs_erase l p]
theorem c_bent (e : Env0 z) {d : Addr} {w : Nat} (hw : w ≤ 100) : ∀ (D : Nat) {n : Nat} {σ : AH} {Q : V → AH → Prop} {ds : List Int} {F : Fm} {top : Bool}, 2 * D + 2 ≤ n → σ d = dk ds → Dk ds → Fok w D F → (top = true → ∃ k l dot, F = .row (.str k :: l) dot) →
    (∀ F' ds', Bent w D top F F' → Dk ds' → Q (enc F') (σ.set d (dk ds'))) → SemCall z n 729 [.ref d, enc F, .bool top] σ Q X := by
  intro D
  induction D with
  | zero =>
    intro n σ Q ds F top hn hd hD hF ht h
    have htop : top = false := by
      cases top with
      | false => rfl
      | true => refine xEEE (ht rfl) fun k l dot u1 => ?_; obtain rfl := u1; exact hF.elim
    subst htop
    have hi : isinstV σ .tup (enc F) = some false := by
      cases F with
      | num => rfl
      | str k => rfl
      | row l b => exact hF.elim
    exact bent_atom e (by omega) hd hD hi fun F' ds' hF' hD' => h F' ds' ⟨hF', fun q => by cases q⟩ hD'
  | succ D ih =>
    intro n σ Q ds F top hn hd hD hF ht h
    cases F with
    | num =>
      have htop : top = false := by
        cases top with
        | false => rfl
        | true => refine xEEE (ht rfl) fun k l dot q => ?_; cases q
      subst htop
      exact bent_atom e (by omega) hd hD rfl fun F' ds' hF' hD' => h F' ds' ⟨hF', fun q => by cases q⟩ hD'
    | str k =>
      have htop : top = false := by
        cases top with
        | false => rfl
        | true => refine xEEE (ht rfl) fun k l dot q => ?_; cases q
      subst htop
      exact bent_atom e (by omega) hd hD rfl fun F' ds' hF' hD' => h F' ds' ⟨hF', fun q => by cases q⟩ hD'
    | row l b =>
    revert hF; refine yAA fun hlen hdot hl => ?_
    have hl : Foks w D l := hl
    rw [enc_row']
    refine e.go (fn_law_bent e.zk) hn 5 ?_
    have fin : ∀ l' b' ds', Foks (w + 1) (D + 1) l' → l'.length ≤ w + 1 → (b' = true → l' ≠ []) → Dk ds' → (top = true → ∀ k r, l = .str k :: r → ∃ r', l' = .str k :: r') → Q (.tup [.str 16, .lst (encs l'), dotV b']) (σ.set d (dk ds')) := fun l' b' ds' h1 h2 h3 h4 h5 => by
      rw [← enc_row']
      refine h (.row l' b') ds' ⟨⟨h2, h3, h1⟩, fun ht' k r dot q => ?_⟩ h4
      cases q
      obtain ⟨r', rfl⟩ := h5 ht' k r rfl
      exact ⟨r', b', rfl⟩
    have rest : ∀ (least : Nat) (ds : List Int) (σ : AH), least ≤ 1 → (top = true → least = 1) → least < l.length → σ d = dk ds → Dk ds → (∀ l' b' ds', Foks (w + 1) (D + 1) l' → l'.length ≤ w + 1 → (b' = true → l' ≠ []) → Dk ds' → (top = true → ∀ k r, l = .str k :: r → ∃ r', l' = .str k :: r') → Q (.tup [.str 16, .lst (encs l'), dotV b']) (σ.set d (dk ds'))) →
        WB z pg (n - 1) (ir_law_bent.drop 3) X Q (fun _ σ => Q .none σ) [some (.ref d), some (.tup [.str 16, .lst (encs l), dotV b]), some (.bool top), some (.int least), none, none, none, none] σ := by
      intro least ds σ hl1 hl2 hl3 hd hD fin
      refine And.intro (by rw [encs_length]; omega) fun a ha => ?_
      have nad : a ≠ d := (ne_of_none (by rw [hd]; rfl) ha).symm
      refine smL (listAt_l (AH.set_self ..)) ?_
      refine c_draw e (lp hn rfl) (ds := ds) ((AH.set_ne (Ne.symm nad)).trans hd) hD (by rw [encs_length]; omega) fun i ds1 h1 h2 hD1 => ?_
      rw [encs_length] at h2
      refine c_draw e (lp hn rfl) (ds := ds1) (AH.set_self ..) hD1 (by decide) fun j ds2 h3 h4 hD2 => ?_
      rw [AH.set_set]
      obtain ⟨p, hp⟩ : ∃ p : Nat, (least : Int) + i = p := ⟨((least : Int) + i).toNat, by omega⟩
      have hp1 : least ≤ p := by omega
      have hp2 : p < l.length := by omega
      rw [hp]
      have last : ∀ (l' : List Fm) (b' : Bool) ds' (u v : Option V), Foks (w + 1) (D + 1) l' → l'.length ≤ w + 1 → (b' = true → l' ≠ []) → Dk ds' → (top = true → ∀ k r, l = .str k :: r → ∃ r', l' = .str k :: r') →
          WB z pg (n - 1) (IB.cons (IS.ret (IE.tup (IL.cons (IE.val (V.str 16)) (IL.cons (IE.loc 4).frz (IL.cons (IE.loc 5) IL.nil))))) IB.nil) X Q (fun _ σ => Q V.none σ)
            [some (V.ref d), some (V.tup [V.str 16, V.lst (encs l), dotV b]), some (V.bool top), some (V.int ↑least), some (V.ref a), some (dotV b'), u, v] ((σ.set a (some (.list (encs l')))).set d (dk ds')) := by
        intro l' b' ds' u v g1 g2 g3 g4 g5
        refine frz_l ((AH.set_ne nad).trans (AH.set_self ..)) ?_
        rw [AH.set_comm (Ne.symm nad), AH.set_none ha]
        exact fin l' b' ds' g1 g2 g3 g4 g5
      have comm : ∀ (x : Option O) ds', ((σ.set a (some (.list (encs l)))).set d (dk ds')).set a x = (σ.set a x).set d (dk ds') := fun x ds' => by rw [AH.set_comm (Ne.symm nad), AH.set_set]
      have hl' : Foks (w + 1) (D + 1) l := hl.mono (by omega) (by omega)
      have hx' : Fok (w + 1) (D + 1) l[p] := hl' _ (List.getElem_mem hp2)
      have ga : ∀ ds', ((σ.set a (some (.list (encs l)))).set d (dk ds')) a = some (.list (encs l)) := fun _ => (AH.set_ne nad).trans (AH.set_self ..)
      have hlb : p < (encs l).length := by rw [encs_length]; exact hp2
      have hlt : (encs l).length < 1000000 := by rw [encs_length]; omega
      have p0 : (0 : Int) ≤ (p : Int) := Int.natCast_nonneg p
      have g3 : ∀ (l' : List Fm), l.length ≤ l'.length + 1 → (l.length = l'.length + 1 → l' = [] → False) → ∀ q : b = true, l' ≠ [] := fun l' h1 h2 q q2 => h2 (by subst q2; have := hdot q; cases l with | nil => exact absurd rfl this | cons x r => exact Nat.le_antisymm h1 (Nat.succ_le_succ (Nat.zero_le _))) q2
      have hs : ∀ (f : List Fm → Nat → List Fm), (∀ x r k, f (x :: r) (k + 1) = x :: f r k ) → top = true → ∀ k r, l = .str k :: r → ∃ r', f l p = .str k :: r' := fun f hf ht' k r q => by
        have := hl2 ht'
        cases p with
        | zero => omega
        | succ p => exact ⟨f r p, by rw [q]; exact hf _ _ _⟩
      have eN : ∀ (vs : List V) (b : Bool), eqD 50 (.lst vs) (.lst []) = some b → cmpV 149 ((σ.set a (some (.list vs))).set d (dk ds2)) .ne (.ref a) (.lst []) = some (!b) := fun vs b hb => ne_ref ((AH.set_ne nad).trans (AH.set_self ..)) hb
      have hlE : (l.eraseIdx p).length = l.length - 1 := by rw [List.length_eraseIdx, if_pos hp2]
      have hlI : (l.take p ++ l[p] :: l.drop p).length ≤ w + 1 := Nat.le_trans (ins_length l p _) (Nat.succ_le_succ hlen)
      refine int5 h3 h4 ?_ ?_ ?_ ?_ ?_
      · -- an item bent
        refine sAt (seqAt_l (ga _)) (encs_at hp2) ?_
        refine ih (by omega) (AH.set_self ..) hD2 (hl _ (List.getElem_mem hp2)) (fun q => by cases q) fun F' ds3 hF' hD3 => ?_
        rw [AH.set_set]
        refine sSl (ga _) (And.intro p0 (And.intro (Int.ofNat_lt.mpr hlb) ?_))
        rw [comm]
        have := last (l.set p F') b ds3 (some (.int p)) (some (.int 0)) (foks_set p hl' hF'.1) (by rw [List.length_set]; exact Nat.le_succ_of_le hlen) (fun q => by have := hdot q; intro q2; apply this; exact List.length_eq_zero_iff.mp (by rw [← List.length_set, q2]; rfl)) hD3 (hs (fun l p => l.set p F') (fun _ _ _ => rfl))
        rw [← encs_set] at this
        exact this
      · -- an item left out
        refine And.intro (isL_l (ga _)) (sO (ga _) (sm (encs_at' hp2) (And.intro p0 ?_)))
        rw [comm]
        refine lst_frz (smB (eN _ (decide (l.eraseIdx p = [])) (by rw [Int.toNat_natCast, encs_erase]; cases l.eraseIdx p <;> rfl)) (bb (fun hm => ?_) fun hm => ?_))
        · have hm : ¬ l.eraseIdx p = [] := of_decide_eq_false ((Bool.not_eq_true' _).mp hm)
          have := last (l.eraseIdx p) b ds2 (some (.int p)) (some (.int 1)) (foks_erase p hl') (by omega) (fun _ => hm) hD2 (hs (fun l p => l.eraseIdx p) (fun _ _ _ => rfl))
          rw [← encs_erase] at this
          exact this
        · have hm : l.eraseIdx p = [] := of_decide_eq_true ((Bool.not_eq_false' _).mp hm)
          have g := hs (fun l p => l.eraseIdx p) (fun _ _ _ => rfl)
          rw [hm] at g
          have := last [] false ds2 (some (.int p)) (some (.int 1)) Foks.nil (Nat.zero_le _) (fun q => by cases q) hD2 g
          rw [← hm, ← encs_erase] at this
          exact this
      · -- an item put at the end
        refine And.intro (isL_l (ga _)) (And.intro (isL_l (ga _)) (sO (ga _) (sm (encs_at' hp2) (And.intro p0 (sO (AH.set_self ..) (And.intro (Nat.lt_of_le_of_lt (List.length_eraseIdx_le ..) hlt) ?_))))))
        rw [AH.set_set, comm]
        have := last (l.eraseIdx p ++ [l[p]]) b ds2 (some (.int p)) (some (.int 2)) ((foks_erase p hl').append (Foks.cons hx' Foks.nil)) (by rw [List.length_append, hlE]; show l.length - 1 + 1 ≤ w + 1; omega) (fun _ => by simp) hD2 (hs (fun l' q => l'.eraseIdx q ++ [l[p]]) (fun _ _ _ => rfl))
        rw [encs_append, ← encs_erase] at this
        exact this
      · -- an item doubled
        refine And.intro (isL_l (ga _)) (sAt (seqAt_l (ga _)) (encs_at hp2) (sO (ga _) (And.intro p0 (And.intro (Int.ofNat_le.mpr (Nat.le_of_lt hlb)) (And.intro hlt ?_)))))
        rw [comm]
        have := last (l.take p ++ l[p] :: l.drop p) b ds2 (some (.int p)) (some (.int 3)) ((foks_take p hl').append (Foks.cons hx' (foks_drop p hl'))) hlI (fun _ => by simp) hD2 (hs (fun l' q => l'.take q ++ l[p] :: l'.drop q) (fun _ _ _ => rfl))
        rw [← encs_ins] at this
        exact this
      · -- a dot
        refine lst_frz (smB (eN _ false (by cases l with | nil => exact absurd hp2 (Nat.not_lt_zero _) | cons x r => rfl)) ?_)
        exact last l true ds2 (some (.int p)) (some (.int 4)) hl' (Nat.le_succ_of_le hlen) (fun _ q => by rw [q] at hp2; exact absurd hp2 (Nat.not_lt_zero _)) hD2 (fun _ k r q => ⟨r, q⟩)
    have hle : ∀ ds', Dk ds' → ∀ least : Nat, least ≤ 1 → (top = true → least = 1) → least < l.length → WB z pg (n - 1) (ir_law_bent.drop 3) X Q (fun _ σ => Q .none σ) [some (.ref d), some (.tup [.str 16, .lst (encs l), dotV b]), some (.bool top), some (.int least), none, none, none, none] (σ.set d (dk ds')) := fun ds' hD' least x1 x2 x3 =>
      rest least ds' (σ.set d (dk ds')) x1 x2 x3 (AH.set_self ..) hD' (fun l' b' ds' a1 a2 a3 a4 a5 => by rw [AH.set_set]; exact fin l' b' ds' a1 a2 a3 a4 a5)
    cases top with
    | true =>
      refine xEEE (ht rfl) fun k r dot q => ?_
      cases q
      refine bb (fun hs => ?_) fun hs => ?_
      · have hs := of_decide_eq_true hs
        rw [encs_length] at hs
        refine lst_frz (newL_frz (by rw [List.length_append, encs_length]; exact Nat.le_trans (Nat.succ_le_succ hlen) (by omega)) ?_)
        have := fin (Fm.str k :: r ++ [.str 9]) b ds ((hl.mono (by omega) (by omega)).append (Foks.cons (Fok.str (by decide)) Foks.nil)) (by rw [List.length_append]; exact Nat.succ_le_succ hlen) (fun _ => nofun) hD (fun _ k' r' q => by cases q; exact ⟨r ++ [.str 9], rfl⟩)
        rw [AH.set_same hd, encs_append] at this
        exact this
      · have hs := of_decide_eq_false hs
        rw [encs_length] at hs
        refine lst_frz (c_draw e (lp hn rfl) hd hD (by decide) fun i ds1 h1 h2 hD1 => ?_)
        have := hle ds1 hD1 1 (Nat.le_refl 1) (fun _ => rfl) (by omega)
        exact bb (fun _ => this) fun _ => this
    | false =>
      have menu : ∀ ds0, Dk ds0 → ∀ σ0 : AH, σ0 d = dk ds0 → (∀ ds', σ0.set d (dk ds') = σ.set d (dk ds')) → ∀ ls, WE z pg (n - 1) menuE X (some (V.ref d) :: ls) Q σ0 := fun ds0 hD0 σ0 hd0 hs0 ls => by
        refine bent_menu (w := w) (D := D + 1) e (lp hn rfl) hd0 hD0 fun F' ds' hF' hD' => ?_
        rw [hs0]
        exact h F' ds' ⟨hF', fun q => by cases q⟩ hD'
      cases l with
      | nil => exact lst_frz (menu ds hD σ hd (fun _ => rfl) _)
      | cons x r =>
        refine lst_frz (c_draw e (lp hn rfl) hd hD (by decide) fun i ds1 h1 h2 hD1 => ?_)
        refine bb (fun hi => ?_) fun hi => ?_
        · exact menu ds1 hD1 (σ.set d (dk ds1)) (AH.set_self ..) (fun ds' => AH.set_set ..) _
        · exact hle ds1 hD1 0 (Nat.zero_le 1) (fun q => by cases q) (Nat.succ_pos _)
end
end Mine
end
noncomputable section
namespace Mine
noncomputable def isRow : Fm → Bool
  | .row _ false => true
  | _ => false
noncomputable def isStr : Fm → Bool
  | .str _ => true
  | _ => false
noncomputable def strEq (k : Nat) : Fm → Bool
  | .str j => j == k
  | _ => false
noncomputable def hd1 (p : Fm → Bool) : List Fm → Bool
  | x :: _ => p x
  | [] => false
noncomputable def bindOk (most : Nat) : Fm → Bool
  | .row p false => decide (2 ≤ p.length) && decide (p.length ≤ most) && hd1 isStr p
  | _ => false
noncomputable def areB (most : Nat) : Fm → Bool
  | .row l false => l.all (bindOk most)
  | _ => false
noncomputable def clOk (w : Nat) (bd : List Nat) (last : Bool) : Fm → Bool
  | .row p false => if p.length < (if w = 3 then 1 else 2) then false
    else if hd1 (strEq 14) p && !(bd.contains 14) then last && decide (2 ≤ p.length)
    else if w = 4 then hd1 isRow p
    else !(decide (1 < p.length) && (hd1 (strEq 15) (p.drop 1) && (!(bd.contains 15) && decide (p.length ≠ 3))))
  | _ => false
noncomputable def areC (w : Nat) (bd : List Nat) : List Fm → Bool
  | [] => true
  | c :: r => clOk w bd r.isEmpty c && areC w bd r
noncomputable def partsOk (bd : List Nat) (w : Nat) (ps : List Fm) : Bool :=
  if w = 7 ∨ w = 8 then true
  else if w = 6 then decide (ps.length = 1)
  else if w = 3 then decide (0 < ps.length) && areC 3 bd ps
  else if ps.length < 2 then false
  else if w = 4 then areC 4 bd (ps.drop 1)
  else if w = 5 then hd1 (areB 3) ps && (hd1 isRow (ps.drop 1) && hd1 (fun x => match x with | .row l _ => decide (0 < l.length) | _ => false) (ps.drop 1))
  else if w = 0 ∧ hd1 isStr ps = true then decide (2 < ps.length) && hd1 (areB 2) (ps.drop 1)
  else hd1 (areB 2) ps
noncomputable def right (bd : List Nat) (w : Nat) (ps : List Fm) (dot : Bool) : Bool := !dot && partsOk bd w ps
section
variable {z : Z} {n : Nat} {X : AH → Prop} {σ : AH} {Q : V → AH → Prop}
theorem c_is_row (e : Env0 z) (hn : 1 ≤ n) {F : Fm} (h : Q (.bool (isRow F)) σ) : SemCall z n 736 [enc F] σ Q X := by
  refine e.go (fn_law_is_row e.zk) hn 0 ?_
  cases F with
  | num => exact h
  | str k => exact h
  | row l b => cases b <;> exact h
theorem isinst_is {σ : AH} {x : Fm} : isinstV σ .str (enc x) = some (isStr x) := by
  cases x with
  | num => rfl
  | str k => rfl
  | row l b => rw [enc_row']; rfl
theorem eq_strF {σ : AH} {C : Addr} {x : Fm} {k : Nat} : cmpV C σ .eq (enc x) (.str k) = some (strEq k x) := by
  cases x with
  | num => rfl
  | str j => rfl
  | row l b => rw [enc_row']; rfl
theorem le_int {σ : AH} {C : Addr} {i j : Int} : cmpV C σ .le (.int i) (.int j) = some (decide (i ≤ j)) := rfl
theorem lt_int {σ : AH} {C : Addr} {i j : Int} : cmpV C σ .lt (.int i) (.int j) = some (decide (i < j)) := rfl
theorem gt_int {σ : AH} {C : Addr} {i j : Int} : cmpV C σ .gt (.int i) (.int j) = some (decide (i > j)) := rfl
theorem b2 {t : Bool} {A B : Prop} (h1 : t = true → A) (h2 : t = false → B) : (match some t with
    | some true => A
    | some false => B
    | none => False : Prop) := by
  cases t with
  | true => exact h1 rfl
  | false => exact h2 rfl
theorem encs_get {l : List Fm} {j : Nat} {v : V} (h : (encs l)[j]? = some v) : ∃ x, v = enc x ∧ l[j]? = some x ∧ l.drop j = x :: l.drop (j + 1) := by
  rw [encs_map, List.getElem?_map] at h
  obtain ⟨x, h1, h2⟩ := Option.map_eq_some_iff.mp h
  obtain ⟨h3, h4⟩ := List.getElem?_eq_some_iff.mp h1
  exact ⟨x, h2.symm, h1, by rw [← h4]; exact List.drop_eq_getElem_cons h3⟩
theorem not_t {b : Bool} (h : (!b) = true) : b = false := (Bool.not_eq_true' b).mp h
theorem not_f {b : Bool} (h : (!b) = false) : b = true := by
  cases b with
  | true => rfl
  | false => cases h
theorem c_are_bindings (e : Env0 z) (hn : 2 ≤ n) {F : Fm} {most : Nat} (h : Q (.bool (areB most F)) σ) : SemCall z n 743 [enc F, .int most] σ Q X := by
  refine e.go (fn_law_are_bindings e.zk) hn 1 (c_is_row e (lp hn rfl) ?_)
  have no : areB most F = false → Q (.bool false) σ := fun q => by rw [← q]; exact h
  cases F with
  | num => exact no rfl
  | str k => exact no rfl
  | row l b =>
  cases b with
  | true => exact no rfl
  | false =>
  refine forN_inv (fun k ls σ' => ∃ u, ls = [some (enc (.row l false)), some (.int most), u] ∧ σ' = σ ∧ (l.drop k).all (bindOk most) = areB most (.row l false)) _ 0 _ _ ⟨none, rfl, rfl, rfl⟩ ?_ ?_
  · intro j v ls σ' K hv hI kk
    refine xEAA hI fun u r1 r2 hj => ?_
    subst r1; subst r2
    refine xEAA (encs_get hv) fun x rx hx hd => ?_
    subst rx
    rw [Nat.zero_add, hd, List.all_cons] at hj
    have bad : bindOk most x = false → Q (.bool false) σ' := fun q => by rw [q] at hj; rw [← hj] at h; exact h
    have nx : bindOk most x = true → K [some (enc (.row l false)), some (.int most), some (enc x)] σ' := fun q => kk _ _ ⟨_, rfl, rfl, by rw [q, Bool.true_and] at hj; rw [Nat.zero_add]; exact hj⟩
    refine c_is_row e (lp hn rfl) ?_
    cases x with
    | num => exact bad rfl
    | str k => exact bad rfl
    | row p b =>
    cases b with
    | true => exact bad rfl
    | false =>
    refine b2 (fun h2 => bb (fun h3 => ?_) fun h3 => ?_) fun h2 => ?_
    · have h3 := of_decide_eq_false (not_t h3)
      rw [encs_length] at h3
      have h3 : decide (p.length ≤ most) = false := decide_eq_false (by omega)
      exact bad (by rw [bindOk, h3, Bool.and_false]; rfl)
    · have h2 := of_decide_eq_true h2
      have h3 := of_decide_eq_true (not_f h3)
      rw [encs_length] at h2 h3
      have e2 : decide (2 ≤ p.length) = true := decide_eq_true (by omega)
      have e3 : decide (p.length ≤ most) = true := decide_eq_true (by omega)
      rw [bindOk, e2, e3] at bad nx
      cases p with
      | nil => exact absurd (of_decide_eq_true e2) (Nat.not_succ_le_zero _)
      | cons y q => exact smB isinst_is (bb (fun h => bad (not_t h)) fun h => nx (not_f h))
    · have h2 := of_decide_eq_false h2
      rw [encs_length] at h2
      have e2 : decide (2 ≤ p.length) = false := decide_eq_false (by omega)
      exact bad (by rw [bindOk, e2]; rfl)
  · intro ls σ' hI
    refine xEAA hI fun u r1 r2 hj => ?_
    subst r1; subst r2
    rw [Nat.zero_add, encs_length, List.drop_length] at hj
    rw [← hj] at h
    exact h
end
end Mine
end
noncomputable section
namespace Mine
theorem anyEq_strs {k : Nat} : ∀ (bd : List Nat), anyEq (.str k) (bd.map V.str) = some (bd.contains k)
  | [] => rfl
  | b :: r => by
    have : (b == k) = (k == b) := by
      by_cases q : b = k
      · subst q; rfl
      · rw [beq_eq_false_iff_ne.mpr q, beq_eq_false_iff_ne.mpr (Ne.symm q)]
    show (match some (b == k), anyEq (.str k) (r.map V.str) with | some x, some y => some (x || y) | _, _ => none) = _
    rw [anyEq_strs r, List.contains_cons, ← this]
theorem notIn_strs {σ : AH} {C : Addr} {k : Nat} {bd : List Nat} : cmpV C σ .notIn (.str k) (.lst (bd.map V.str)) = some (!(bd.contains k)) := by
  show (if (V.str k).plainV then (anyEq (.str k) (bd.map V.str)).map (!·) else none) = _
  rw [anyEq_strs]; rfl
section
variable {z : Z} {n : Nat} {X : AH → Prop} {σ : AH} {Q : V → AH → Prop}
theorem biv {z : Z} {g : Pg} {n : Nat} {X : AH → Prop} {ls : Ls} {t : Bool} {i j : Int} {F : V → AH → Prop} {σ : AH} (q : F (.int (if t then i else j)) σ) : (match V.bool t with
    | .bool true => WE z g n (.val (.int i)) X ls F σ
    | .bool false => WE z g n (.val (.int j)) X ls F σ
    | _ => False : Prop) := by
  cases t with
  | true => exact q
  | false => exact q
theorem small_lt {k w : Nat} : ((k : Nat) : Int) < (if (w == 3) = true then (1 : Int) else 2) ↔ k < (if w = 3 then 1 else 2) := by
  by_cases h : w = 3
  · subst h; show ((k : Nat) : Int) < 1 ↔ k < 1; omega
  · have h' : (w == 3) = false := beq_eq_false_iff_ne.mpr h
    rw [h', if_neg h]; show ((k : Nat) : Int) < 2 ↔ k < 2; omega
theorem c_are_clauses (e : Env0 z) (hn : 2 ≤ n) {l : List Fm} {w : Nat} {bd : List Nat} (hl : l.length ≤ 1000) (h : Q (.bool (areC w bd l)) σ) : SemCall z n 750 [.lst (encs l), .str w, .lst (bd.map V.str)] σ Q X := by
  refine e.go (fn_law_are_clauses e.zk) hn 3 ?_
  refine forN_inv (fun j ls σ' => ∃ u1 u2 u3, ls = [some (.lst (encs l)), some (.str w), some (.lst (bd.map V.str)), u1, u2, u3] ∧ σ' = σ ∧ areC w bd l = areC w bd (l.drop j)) _ 0 _ _ ⟨_, _, _, rfl, rfl, rfl⟩ ?_ ?_
  · intro j v ls σ' K hv hI kk
    refine xEEEAA hI fun u1 u2 u3 r1 r2 hj => ?_
    subst r1; subst r2
    refine xEA (enumV_get hv) fun u hu r3 => ?_
    subst r3
    refine xEAA (encs_get hu) fun c rx hx hd => ?_
    subst rx
    rw [Nat.zero_add, hd, areC] at hj
    have bad : clOk w bd (l.drop (j + 1)).isEmpty c = false → Q (.bool false) σ' := fun q => by rw [q, Bool.false_and] at hj; rw [hj] at h; exact h
    have good : clOk w bd (l.drop (j + 1)).isEmpty c = true → ∀ u, K [some (.lst (encs l)), some (.str w), some (.lst (bd.map V.str)), some (.int ((0 + j : Nat) : Int)), some (enc c), u] σ' := fun q u => by
      rw [q, Bool.true_and] at hj
      exact kk _ _ ⟨_, _, _, rfl, rfl, by rw [Nat.zero_add]; exact hj⟩
    refine c_is_row e (lp hn rfl) ?_
    cases c with
    | num => exact bad rfl
    | str k => exact bad rfl
    | row p b =>
    cases b with
    | true => exact bad rfl
    | false =>
    have hlast : (l.drop (j + 1)).isEmpty = ((((0 + j : Nat) : Int) == (l.length : Int) - 1)) := by
      have := (List.getElem?_eq_some_iff.mp hx).1
      rw [Bool.eq_iff_iff, List.isEmpty_iff, List.drop_eq_nil_iff, beq_iff_eq]; omega
    rw [clOk, hlast] at bad good
    refine biv (bb (fun h1 => ?_) fun h1 => ?_)
    · have h1 := of_decide_eq_true h1
      rw [encs_length] at h1
      exact bad (if_pos (small_lt.mp h1))
    have h1 := of_decide_eq_false h1
    rw [encs_length] at h1
    have h1 : ¬ _ := fun q => h1 (small_lt.mpr q)
    rw [if_neg h1] at bad good
    cases p with
    | nil => exact absurd (by split <;> decide) h1
    | cons y q =>
    have tail : (strEq 14 y && !(bd.contains 14)) = false → WS z pg (n - 1) (.ifs (.cmp .eq (.loc 1) (.val (.str 4))) (.cons (.ifs (.not (.call 736 (.cons (.idx (.loc 5) (.val (.int 0))) .nil))) (.cons (.ret (.val (.bool false))) .nil) .nil) .nil) (.cons (.ifs (.and (.cmp .gt (.len (.loc 5)) (.val (.int 1))) (.and (.cmp .eq (.idx (.loc 5) (.val (.int 1))) (.val (.str 15))) (.and (.cmp .notIn (.val (.str 15)) (.loc 2)) (.cmp .ne (.len (.loc 5)) (.val (.int 3)))))) (.cons (.ret (.val (.bool false))) .nil) .nil) .nil)) X Q (fun ls σ => WB z pg (n - 1) .nil X Q (fun ls σ => WB z pg (n - 1) .nil X Q K ls σ) ls σ)
          [some (.lst (encs l)), some (.str w), some (.lst (bd.map V.str)), some (.int ((0 + j : Nat) : Int)), some (enc (.row (y :: q) false)), some (V.lst (encs (y :: q)))] σ' := by
      intro he
      rw [if_neg (fun h => by rw [hd1, he] at h; cases h)] at bad good
      refine bb (fun hw => ?_) fun hw => ?_
      · rw [if_pos (eq_of_beq hw)] at bad good
        exact c_is_row e (lp hn rfl) (bb (fun h => bad (not_t h)) fun h => good (not_f h) _)
      · rw [if_neg (ne_of_beq_false hw)] at bad good
        cases q with
        | nil => exact good rfl _
        | cons y2 q =>
        have e1 : decide (1 < (y :: y2 :: q).length) = true := decide_eq_true (Nat.succ_lt_succ (Nat.succ_pos _))
        rw [e1] at bad good
        have e2 : (decide ((((encs (y :: y2 :: q)).length : Nat) : Int) > 1)) = true := decide_eq_true (by rw [encs_length]; simp only [List.length_cons]; omega)
        refine bt e2 (smB eq_strF (bb (fun h15 => smB notIn_strs (bb (fun hb => bb (fun h3 => ?_) fun h3 => ?_) fun hb => good ?_ _)) fun h15 => good ?_ _))
        · refine bad ?_
          have h3 := not_t h3
          rw [encs_length] at h3
          have : decide ((y :: y2 :: q).length ≠ 3) = true := decide_eq_true (fun e => by rw [e] at h3; cases h3)
          rw [this, hb]; simp only [hd1, List.drop_succ_cons, List.drop_zero, h15]; rfl
        · refine good ?_ _
          have h3 := eq_of_beq (not_f h3)
          rw [encs_length] at h3
          have : decide ((y :: y2 :: q).length ≠ 3) = false := decide_eq_false (fun w => w (by omega))
          rw [this, hb]; simp only [hd1, List.drop_succ_cons, List.drop_zero, h15]; rfl
        · rw [hb]; simp only [hd1, List.drop_succ_cons, List.drop_zero, h15]; rfl
        · simp only [hd1, List.drop_succ_cons, List.drop_zero, h15]; rfl
    refine smB eq_strF (bb (fun h14 => smB notIn_strs (bb (fun hb => ?_) fun hb => tail (by rw [hb, Bool.and_false]))) fun h14 => tail (by rw [h14, Bool.false_and]))
    rw [if_pos (by rw [hd1, h14, hb]; rfl)] at bad good
    refine bb (fun hq => bad ?_) fun hq => bb (fun h2 => bad ?_) fun h2 => good ?_ _
    · have hq := not_t hq
      rw [encs_length] at hq
      rw [hq]; rfl
    · have h2 := of_decide_eq_true h2
      rw [encs_length] at h2
      rw [decide_eq_false (by omega), Bool.and_false]
    · have hq := not_f hq
      have h2 := of_decide_eq_false h2
      rw [encs_length] at h2 hq
      rw [hq, decide_eq_true (by omega)]; rfl
  · intro ls σ' hI
    refine xEEEAA hI fun u1 u2 u3 r1 r2 hj => ?_
    subst r1; subst r2
    rw [Nat.zero_add, enumV_length, encs_length, List.drop_length] at hj
    rw [hj] at h
    exact h
end
end Mine
end
noncomputable section
namespace Mine
section
variable {z : Z} {n : Nat} {X : AH → Prop} {σ : AH} {Q : V → AH → Prop}
theorem bool_of {b : Bool} {p : Bool} (h : Q (.bool p) σ) (e : b = p) : Q (.bool b) σ := e ▸ h
theorem encs_dle {l : List Fm} {k b : Nat} (h : l.length ≤ b) (h2 : Nat.ble b 1000000 = true := by rfl) : ((encs l).drop k).length ≤ 1000000 := by
  rw [List.length_drop, encs_length]; exact Nat.le_trans (Nat.sub_le ..) (Nat.le_trans h (Nat.le_of_ble_eq_true h2))
theorem lenT {x : Fm} {ps : List Fm} : (List.drop (Int.toNat 1) (encs (x :: ps))).length = ps.length := encs_length ps
theorem or78 {w : Nat} : (7 == w || (8 == w || false)) = true ↔ w = 7 ∨ w = 8 := by
  constructor
  · intro h
    rcases Bool.or_eq_true_iff.mp h with q | q
    · exact .inl (eq_of_beq q).symm
    · rw [Bool.or_false] at q; exact .inr (eq_of_beq q).symm
  · rintro (rfl | rfl) <;> rfl
theorem c_is_right (e : Env0 z) (hn : 3 ≤ n) {w : Nat} {ps : List Fm} {dot : Bool} {bd : List Nat} (hl : ps.length ≤ 900) (h : Q (.bool (right bd w ps dot)) σ) : SemCall z n 757 [enc (.row (.str w :: ps) dot), .lst (bd.map V.str)] σ Q X := by
  refine e.go (fn_law_is_right e.zk) hn 2 (c_is_row e (lp hn rfl) ?_)
  cases dot with
  | true => exact h
  | false =>
  replace h : Q (.bool (partsOk bd w ps)) σ := h
  refine And.intro (Int.zero_le_ofNat 1) (And.intro (by decide) (newL_frz (encs_dle (b := 901) (Nat.succ_le_succ hl)) ?_))
  unfold partsOk at h
  refine bb (fun h78 => ?_) fun h78 => ?_
  · rw [if_pos (or78.mp h78)] at h
    exact h
  rw [if_neg (fun q => by rw [or78.mpr q] at h78; cases h78)] at h
  refine bb (fun h6 => ?_) fun h6 => ?_
  · rw [if_pos (eq_of_beq h6)] at h
    exact bool_of h (by rw [lenT, Bool.eq_iff_iff]; simp; omega)
  rw [if_neg (ne_of_beq_false h6)] at h
  refine bb (fun h3 => ?_) fun h3 => ?_
  · have w3 := eq_of_beq h3
    subst w3
    rw [if_pos rfl] at h
    refine bb (fun h0 => c_are_clauses e (lp hn rfl) (Nat.le_trans hl (by decide)) ?_) fun h0 => ?_
    · have h0 := of_decide_eq_true h0
      rw [lenT] at h0
      rw [decide_eq_true (by omega), Bool.true_and] at h
      exact h
    · have h0 := of_decide_eq_false h0
      rw [lenT] at h0
      rw [decide_eq_false (by omega)] at h
      exact h
  rw [if_neg (ne_of_beq_false h3)] at h
  refine bb (fun h2 => ?_) fun h2 => ?_
  · have h2 := of_decide_eq_true h2
    rw [lenT] at h2
    rw [if_pos (by omega)] at h
    exact h
  have h2 := of_decide_eq_false h2
  rw [lenT] at h2
  rw [if_neg (by omega)] at h
  obtain ⟨a, b, r, rfl⟩ : ∃ a b r, ps = a :: b :: r := by
    match ps, h2 with
    | a :: b :: r, _ => exact ⟨a, b, r, rfl⟩
    | [a], h2 => exact absurd (show ((1 : Nat) : Int) < 2 by decide) h2
    | [], h2 => exact absurd (show ((0 : Nat) : Int) < 2 by decide) h2
  refine bb (fun h4 => ?_) fun h4 => ?_
  · have w4 := eq_of_beq h4
    subst w4
    rw [if_pos rfl] at h
    exact And.intro (Int.zero_le_ofNat 1) (And.intro (by decide) (newL_frz (encs_dle (b := 900) hl) (c_are_clauses e (lp hn rfl) (Nat.le_trans (Nat.le_succ _) (Nat.le_trans hl (by decide))) h)))
  rw [if_neg (ne_of_beq_false h4)] at h
  refine bb (fun h5 => ?_) fun h5 => ?_
  · rw [if_pos (eq_of_beq h5)] at h
    refine c_are_bindings e (lp hn rfl) (most := 3) (bb (fun ha => c_is_row e (lp hn rfl) (bb (fun hb => ?_) fun hb => ?_)) fun ha => ?_)
    · cases b with
      | num => cases hb
      | str k => cases hb
      | row p dt => exact bool_of h (by rw [show hd1 (areB 3) (a :: Fm.row p dt :: r) = true from ha, show hd1 isRow ((a :: Fm.row p dt :: r).drop 1) = true from hb, encs_length]; show _ = decide (0 < p.length); rw [Bool.eq_iff_iff]; simp)
    · exact bool_of h (by rw [show hd1 (areB 3) (a :: b :: r) = true from ha, show hd1 isRow ((a :: b :: r).drop 1) = false from hb]; rfl)
    · exact bool_of h (by rw [show hd1 (areB 3) (a :: b :: r) = false from ha]; rfl)
  rw [if_neg (ne_of_beq_false h5)] at h
  refine bb (fun h0 => smB isinst_is (bb (fun hs => ?_) fun hs => ?_)) fun h0 => ?_
  · rw [if_pos ⟨eq_of_beq h0, hs⟩] at h
    refine bb (fun h2' => c_are_bindings e (lp hn rfl) (most := 2) ?_) fun h2' => ?_
    · have h2' := of_decide_eq_true h2'
      rw [lenT] at h2'
      rw [decide_eq_true (by omega), Bool.true_and] at h
      exact h
    · have h2' := of_decide_eq_false h2'
      rw [lenT] at h2'
      rw [decide_eq_false (by omega), Bool.false_and] at h
      exact h
  · rw [if_neg (fun q => by rw [show isStr a = true from q.2] at hs; cases hs)] at h
    exact c_are_bindings e (lp hn rfl) (most := 2) h
  · rw [if_neg (fun q => ne_of_beq_false h0 q.1)] at h
    exact c_are_bindings e (lp hn rfl) (most := 2) h
end
end Mine
end
noncomputable section
namespace Mine
theorem whileN_inv {c : (Bool → AH → Prop) → Ls → AH → Prop} {b : (Ls → AH → Prop) → Ls → AH → Prop} {N : Ls → AH → Prop} (I : Nat → Ls → AH → Prop)
    (step : ∀ k ls σ, I k ls σ → ∀ W : Ls → AH → Prop, (∀ j ls σ, j < k → I j ls σ → W ls σ) → c (fun t σ => if t then b W ls σ else N ls σ) ls σ) : ∀ f k ls σ, k < f → I k ls σ → whileN c b N f ls σ
  | 0, k, ls, σ, h, _ => absurd h (Nat.not_lt_zero _)
  | f + 1, k, ls, σ, h, i => step k ls σ i _ fun j ls σ hj ij => whileN_inv I step f j ls σ (by omega) ij
noncomputable def pairV (a d : V) : V := .obj 149 [38, 39] [a, d]
noncomputable def chn (xs : List V) (t : V) : V := xs.foldr pairV t
theorem chn_cons (a : V) (xs : List V) (t : V) : chn (a :: xs) t = pairV a (chn xs t) := rfl
noncomputable def Term (t : V) : Prop := t = .stat 44 ∨ t = .int 5
theorem chain_chn {t : V} (ht : Term t) : ∀ xs, chain 149 (chn xs t) = some xs.length
  | [] => by rcases ht with rfl | rfl <;> rfl
  | a :: xs => by
    rw [chn_cons]
    show (chain 149 (chn xs t)).map (· + 1) = _
    rw [chain_chn ht xs]; rfl
theorem isV_chn {t : V} (ht : Term t) {r s : List V} (h : r.length < s.length) : isV 149 (chn r t) (chn s t) = some false := by
  cases s with
  | nil => simp at h
  | cons b s =>
    cases r with
    | nil => rcases ht with rfl | rfl <;> rfl
    | cons a r =>
      have e1 := chain_chn ht (a :: r)
      have e2 := chain_chn ht (b :: s)
      rw [chn_cons] at e1 e2 ⊢
      rw [chn_cons]
      show (match chain 149 (pairV a (chn r t)), chain 149 (pairV b (chn s t)) with
        | some n, some k => if n = k then none else some false
        | _, _ => none) = _
      rw [e1, e2]
      show (if (a :: r).length = (b :: s).length then none else some false) = _
      rw [if_neg (by omega)]
theorem isinst_term {σ : AH} {t : V} (ht : Term t) : isinstV σ (.own 149) t = some false := by rcases ht with rfl | rfl <;> rfl
section
variable {z : Z} {n : Nat} {X : AH → Prop} {σ : AH} {Q : V → AH → Prop}
theorem inst_frz2 {a C : Addr} {ks : List Nat} {vs : List V} {x : Option O} (ha : σ a = none) (h : Q (.obj C ks vs) σ) : frzQ Q (.ref a) ((σ.set a x).set a (some (.inst C ks vs))) := by
  rw [AH.set_set]; exact inst_frz ha h
theorem inst_frz3 {a C : Addr} {ks : List Nat} {vs : List V} {x y : Option O} (ha : σ a = none) (h : Q (.obj C ks vs) σ) : frzQ Q (.ref a) (((σ.set a x).set a y).set a (some (.inst C ks vs))) := by
  rw [AH.set_set]; exact inst_frz2 ha h
theorem inst_frz4 {a C : Addr} {ks : List Nat} {vs : List V} {x y w : Option O} (ha : σ a = none) (h : Q (.obj C ks vs) σ) : frzQ Q (.ref a) ((((σ.set a x).set a y).set a w).set a (some (.inst C ks vs))) := by
  rw [AH.set_set]; exact inst_frz3 ha h
theorem down_get {m j : Nat} {v : V} (h : (downV ((m : Int) - 1 + 1).toNat)[j]? = some v) : j < m ∧ v = .int ((m - 1 - j : Nat) : Int) := by
  have h1 := (List.getElem?_eq_some_iff.mp h).1
  have h2 := downV_get h
  rw [downV_length] at h1
  have h3 : j < m := by omega
  exact ⟨h3, h2.trans (congrArg V.int (by omega))⟩
theorem item_at {xs : List V} {p : Nat} (h : p < xs.length) : itemAt xs ((p : Nat) : Int) = some xs[p] := by
  unfold itemAt
  rw [if_pos (Int.natCast_nonneg _), Int.toNat_natCast]
  exact List.getElem?_eq_getElem h
theorem drop_down {xs : List V} {j : Nat} (h : j < xs.length) : xs.drop (xs.length - (0 + j + 1)) = xs[xs.length - 1 - j]'(by omega) :: xs.drop (xs.length - (0 + j)) := by
  rw [List.drop_eq_getElem_cons (by omega)]
  congr 1
  · congr 1; omega
  · congr 1; omega
theorem down_len {m : Nat} : m - (0 + (downV ((m : Int) - 1 + 1).toNat).length) = 0 := by rw [downV_length]; omega
theorem even_int {m : Nat} : ((((m : Nat) : Int).fmod 2) == 0) = true ↔ m % 2 = 0 := by
  rw [Int.fmod_eq_emod_of_nonneg _ (by omega)]; simp; omega
theorem new_Pair (e : Env0 z) (hn : 2 ≤ n) {x y : V} (h : Q (pairV x y) σ) : 1 ≤ n ∧ ∀ a, σ a = none → SemCall z (n - 1) 146 [.ref a, x, y] (σ.set a (some (.inst 149 [] []))) (fun v σ => v = .none ∧ frzQ Q (.ref a) σ) X := by
  refine And.intro (lq hn rfl) fun a ha => e.go (fn_Pair_init e.zk) (lp hn rfl : 1 ≤ n - 1) 0 ?_
  exact sI (AH.set_self ..) (And.intro (by decide) (And.intro rfl (sI (AH.set_self ..) (And.intro (by decide) (And.intro rfl (And.intro rfl (inst_frz3 ha h)))))))
theorem new_Symbol (e : Env0 z) (hn : 2 ≤ n) {x y : V} (h : Q (.obj 65 [34, 35] [x, y]) σ) : 1 ≤ n ∧ ∀ a, σ a = none → SemCall z (n - 1) 62 [.ref a, x, y] (σ.set a (some (.inst 65 [] []))) (fun v σ => v = .none ∧ frzQ Q (.ref a) σ) X := by
  refine And.intro (lq hn rfl) fun a ha => e.go (fn_Symbol_init e.zk) (lp hn rfl : 1 ≤ n - 1) 0 ?_
  exact sI (AH.set_self ..) (And.intro (by decide) (And.intro rfl (sI (AH.set_self ..) (And.intro (by decide) (And.intro rfl (And.intro rfl (inst_frz3 ha h)))))))
theorem new_LocalName (e : Env0 z) (hn : 2 ≤ n) {x y : V} (h : Q (.obj 287 [34, 33] [x, y]) σ) : 1 ≤ n ∧ ∀ a, σ a = none → SemCall z (n - 1) 284 [.ref a, x, y] (σ.set a (some (.inst 287 [] []))) (fun v σ => v = .none ∧ frzQ Q (.ref a) σ) X := by
  refine And.intro (lq hn rfl) fun a ha => e.go (fn_LocalName_init e.zk) (lp hn rfl : 1 ≤ n - 1) 0 ?_
  exact sI (AH.set_self ..) (And.intro (by decide) (And.intro rfl (sI (AH.set_self ..) (And.intro (by decide) (And.intro rfl (And.intro rfl (inst_frz3 ha h)))))))
theorem new_GlobalName (e : Env0 z) (hn : 2 ≤ n) {x : V} (h : Q (.obj 308 [49] [x]) σ) : 1 ≤ n ∧ ∀ a, σ a = none → SemCall z (n - 1) 305 [.ref a, x] (σ.set a (some (.inst 308 [] []))) (fun v σ => v = .none ∧ frzQ Q (.ref a) σ) X := by
  refine And.intro (lq hn rfl) fun a ha => e.go (fn_GlobalName_init e.zk) (lp hn rfl : 1 ≤ n - 1) 0 ?_
  exact sI (AH.set_self ..) (And.intro (by decide) (And.intro rfl (And.intro rfl (inst_frz2 ha h))))
theorem new_Alias (e : Env0 z) (hn : 2 ≤ n) {x y w : V} (h : Q (.obj 245 [34, 45, 46] [x, y, w]) σ) : 1 ≤ n ∧ ∀ a, σ a = none → SemCall z (n - 1) 242 [.ref a, x, y, w] (σ.set a (some (.inst 245 [] []))) (fun v σ => v = .none ∧ frzQ Q (.ref a) σ) X := by
  refine And.intro (lq hn rfl) fun a ha => e.go (fn_Alias_init e.zk) (lp hn rfl : 1 ≤ n - 1) 0 ?_
  exact sI (AH.set_self ..) (And.intro (by decide) (And.intro rfl (sI (AH.set_self ..) (And.intro (by decide) (And.intro rfl (sI (AH.set_self ..) (And.intro (by decide) (And.intro rfl (And.intro rfl (inst_frz4 ha h))))))))))
theorem list_of_body (e : Env0 z) (hn : 3 ≤ n) {xs : List V} {t : V} (hl : xs.length ≤ 900000) (h : Q (chn xs t) σ) : WB z pg n ir_list_of X Q (fun _ σ => Q .none σ) [some (.lst xs), some t, none, none] σ := by
  refine And.intro (by omega) (And.intro (by omega) ?_)
  refine forN_inv (fun j ls σ' => ∃ u, ls = [some (.lst xs), some t, some (chn (xs.drop (xs.length - j)) t), u] ∧ σ' = σ) _ 0 _ _ ⟨none, by rw [Nat.sub_zero, List.drop_length]; rfl, rfl⟩ ?_ ?_
  · intro j v ls σ' K hv hI kk
    refine xEA hI fun u r1 r2 => ?_
    subst r1; subst r2
    refine xA (down_get hv) fun hlt r3 => ?_
    subst r3
    refine sm (item_at (by omega)) ?_
    refine new_Pair e (lq hn rfl) ?_
    refine kk _ _ ⟨some (.int ((xs.length - 1 - j : Nat) : Int)), ?_, rfl⟩
    rw [drop_down hlt]; rfl
  · intro ls σ' hI
    refine xEA hI fun u r1 r2 => ?_
    subst r1; subst r2
    rw [down_len]
    exact h
theorem c_list_of2 (e : Env0 z) (hn : 4 ≤ n) {xs : List V} {t : V} (hl : xs.length ≤ 900000) (h : Q (chn xs t) σ) : SemCall z n 182 [.lst xs, t] σ Q X := by
  obtain ⟨n, rfl⟩ : ∃ k, n = k + 1 := ⟨n - 1, by omega⟩
  refine sem_ir e.zo e.zk.gok e.zk.iok e.zk.tok e.zk.wok (fn_list_of e.zk e.zo.X) (args' := [.lst xs, t]) 2 (fun Φ vals hv => ?_) (list_of_body e (by omega) hl h)
  refine ⟨vals, .inl ?_, by rw [hv.length]; rfl, hv⟩
  revert hv; refine yEEAAEEAA fun a r u1 h1 b s u2 h2 h3 => ?_; obtain rfl := u1; obtain rfl := u2
  cases h3
  exact ⟨a, b, rfl, rfl⟩
theorem c_list_of1 (e : Env0 z) (hn : 4 ≤ n) {xs : List V} (hl : xs.length ≤ 900000) (h : Q (chn xs (.stat 44)) σ) : SemCall z n 182 [.lst xs] σ Q X := by
  obtain ⟨n, rfl⟩ : ∃ k, n = k + 1 := ⟨n - 1, by omega⟩
  refine sem_ir e.zo e.zk.gok e.zk.iok e.zk.tok e.zk.wok (fn_list_of e.zk e.zo.X) (args' := [.lst xs, .stat 44]) 2 (fun Φ vals hv => ?_) (list_of_body e (by omega) hl h)
  revert hv; refine yEEAA fun a r u3 h1 h3 => ?_; obtain rfl := u3
  cases h3
  exact ⟨[a, .ref 44], .inr ⟨a, rfl, rfl⟩, rfl, _, _, rfl, h1, _, _, rfl, ⟨rfl, .inl rfl⟩, rfl⟩
theorem c_split_list (e : Env0 z) (hn : 1 ≤ n) {xs : List V} {t : V} (ht : Term t) (hl : xs.length ≤ 900000) (h : Q (.tup [.lst xs, t]) σ) : SemCall z n 189 [chn xs t] σ Q X := by
  refine e.go (fn_split_list e.zk) hn 3 ?_
  intro a ha
  refine Exists.intro (xs.length + 1) (whileN_inv (fun k ls σ' => ∃ i, i + k = xs.length ∧ ls = [some (chn xs t), some (.ref a), some (chn (xs.drop i) t), some (chn (xs.drop (i / 2)) t)] ∧ σ' = σ.set a (some (.list (xs.take i)))) ?_ _ xs.length _ _ (Nat.lt_succ_self _) ⟨0, Nat.zero_add _, rfl, rfl⟩)
  intro k ls σ' hI W hW
  refine xEAA hI fun i hik r1 r2 => ?_
  subst r1; subst r2
  by_cases hlt : i < xs.length
  · have hc : chn (xs.drop i) t = pairV xs[i] (chn (xs.drop (i + 1)) t) := by rw [List.drop_eq_getElem_cons hlt]; rfl
    have htk : xs.take i ++ [xs[i]] = xs.take (i + 1) := by rw [List.take_succ_eq_append_getElem hlt]
    have hln : (xs.take (i + 1)).length = i + 1 := by rw [List.length_take]; omega
    rw [hc]
    refine And.intro (isL_l (AH.set_self ..)) (sO (AH.set_self ..) (And.intro (by rw [List.length_take]; omega) ?_))
    rw [AH.set_set, htk]
    refine smL (listAt_l (AH.set_self ..)) (And.intro (by decide) (bb (fun hev => ?_) fun hev => ?_))
    · have hev : (i + 1) % 2 = 0 := even_int.mp (by rw [← hln]; exact hev)
      have hi2 : i / 2 < xs.length := by omega
      have hc2 : chn (xs.drop (i / 2)) t = pairV xs[i / 2] (chn (xs.drop (i / 2 + 1)) t) := by rw [List.drop_eq_getElem_cons hi2]; rfl
      have he : (i + 1) / 2 = i / 2 + 1 := by omega
      have his : isV 149 (chn (xs.drop (i + 1)) t) (chn (xs.drop (i / 2 + 1)) t) = some false := isV_chn ht (by rw [List.length_drop, List.length_drop]; omega)
      rw [hc2]
      refine smB (show cmpV pg.pairC _ .is _ _ = some false from his) ?_
      refine hW (k - 1) _ _ (by omega) ⟨i + 1, by omega, ?_, rfl⟩
      rw [he]; rfl
    · have hev : ¬ (i + 1) % 2 = 0 := fun q => by rw [← hln] at q; rw [even_int.mpr q] at hev; cases hev
      have he : (i + 1) / 2 = i / 2 := by omega
      refine hW (k - 1) _ _ (by omega) ⟨i + 1, by omega, ?_, rfl⟩
      rw [he]; rfl
  · have hi : i = xs.length := by omega
    subst hi
    rw [List.drop_length]
    refine smB (isinst_term ht) (frz_l (AH.set_self ..) ?_)
    rw [AH.set_none ha, List.take_length]
    exact h
end
end Mine
end
noncomputable section
namespace Mine
theorem ExcSt.forget {z : Z} {c : Cx} {m : Str → Option Value} {Φ : Fz} {σ σ₁ : AH} {ea : Addr} {md : Md} {s : Shared} (x : ExcSt z c m Φ σ₁ ea md s) (h : ∀ a o, σ a = some o → σ₁ a = some o) : ExcSt z c m Φ σ ea md s :=
  let ⟨G, B, a0, f, hf, L, r⟩ := x.ex
  ⟨x.gens, x.drawn, x.os, G, B, a0, f, hf, { L with own := fun a o e => L.own a o (h a o e), cur := L.cur, outs := L.outs }, r⟩
theorem SemCall.forget {z : Z} {n : Nat} {f : Addr} {args : List V} {σ : AH} {Q : V → AH → Prop} {X : AH → Prop} (x : SemCall z n f args σ (fun v σ' => ∃ σ'', (∀ a o, σ'' a = some o → σ' a = some o) ∧ Q v σ'') (fun σ' => ∃ σ'', (∀ a o, σ'' a = some o → σ' a = some o) ∧ X σ'')) :
    SemCall z n f args σ Q X := fun c o s m Φ vals ha hi => codeAny_mono (x c o s m Φ vals ha hi) fun r s' h => by
  cases r with
  | ok f => cases f with
    | ret v => revert h; refine yEEEAAAEA fun Φ' v' σ' a b d σ'' q w => ?_; exact ⟨Φ', v', σ'', a, b, d.forget q, w⟩
    | _ => exact h
  | error e => revert h; refine yEEEAAAEA fun Φ' σ' ea a b d σ'' q w => ?_; exact ⟨Φ', σ'', ea, a, b, d.forget q, w⟩
noncomputable def takeJ (v : V) : V := .tup [.str 30, v]
noncomputable def listJ (n : Nat) : V := .tup [.str 31, .int n]
noncomputable def Atom (σ : AH) (v : V) : Prop := isinstV σ (.own 245) v = some false ∧ isinstV σ (.own 149) v = some false ∧ isinstV σ (.own 170) v = some false
section
variable {z : Z} {n : Nat} {X : AH → Prop} {σ : AH} {Q : V → AH → Prop}
theorem take_atom (e : Env0 z) (hn : 2 ≤ n) {v : V} {j dn : Addr} {ds : List V} (ha : Atom σ v) (hd : σ dn = some (.list ds)) (hl : ds.length < 1000000) (h : Q .none (σ.set dn (some (.list (ds ++ [v]))))) : SemCall z n 445 [v, .ref j, .ref dn] σ Q X := by
  exact e.go (fn_strip_take e.zk) hn 3 (smB ha.1 (smB ha.2.1 (smB ha.2.2 (And.intro (isL_l hd) (sO hd (And.intro hl h))))))
theorem take_pair (e : Env0 z) (hn : 2 ≤ n) {x : V} {xs : List V} {t : V} (ht : Term t) {j dn : Addr} {js : List V} (hj : σ j = some (.list js)) (hl : js.length + xs.length + 3 < 900000)
    (h : Q .none (σ.set j (some (.list (js ++ [listJ (x :: xs).length, takeJ t] ++ ((x :: xs).map takeJ).reverse))))) : SemCall z n 445 [chn (x :: xs) t, .ref j, .ref dn] σ Q X := by
  refine e.go (fn_strip_take e.zk) hn 3 (c_split_list e (lp hn rfl) ht (Nat.le_of_lt (Nat.lt_of_le_of_lt (by show xs.length + 1 ≤ js.length + xs.length + 3; omega) hl)) ?_)
  have his : cmpV pg.pairC σ .is t .none = some false := by rcases ht with rfl | rfl <;> rfl
  refine smB his (And.intro (isL_l hj) (sO hj (And.intro (by omega) (And.intro (isL_l (AH.set_self ..)) (sO (AH.set_self ..) (And.intro (by rw [List.length_append]; show js.length + 1 < 1000000; omega) (And.intro (by omega) (And.intro (by show ((xs.length + 1 : Nat) : Int) - 1 ≤ 1000000; omega) ?_))))))))
  rw [AH.set_set]
  refine forN_inv (fun i ls σ' => ∃ u, ls = [some (chn (x :: xs) t), some (.ref j), some (.ref dn), u, some (.lst (x :: xs)), some t] ∧ σ' = σ.set j (some (.list (js ++ [listJ (x :: xs).length, takeJ t] ++ (((x :: xs).drop ((x :: xs).length - i)).map takeJ).reverse)))) _ 0 _ _ ⟨none, rfl, ?_⟩ ?_ ?_
  · rw [Nat.sub_zero, List.drop_length, List.append_assoc, List.map_nil, List.reverse_nil, List.append_nil]; rfl
  · intro i v ls σ' K hv hI kk
    refine xEA hI fun u r1 r2 => ?_
    subst r1; subst r2
    have hyl : (x :: xs).length = xs.length + 1 := rfl
    generalize x :: xs = ys at *
    refine xA (down_get hv) fun hlt r3 => ?_
    subst r3
    refine And.intro (isL_l (AH.set_self ..)) (sm (item_at (by omega)) (sO (AH.set_self ..) (And.intro (by simp [listJ, takeJ]; omega) ?_)))
    rw [AH.set_set]
    refine kk _ _ ⟨some (.int ((ys.length - 1 - i : Nat) : Int)), rfl, ?_⟩
    rw [drop_down hlt, List.map_cons, List.reverse_cons, ← List.append_assoc]; rfl
  · intro ls σ' hI
    refine xEA hI fun u r1 r2 => ?_
    subst r1; subst r2
    rw [down_len]
    exact h
end
end Mine
end
noncomputable section
namespace Mine
theorem xEEEEEEEAAAA {T0 T1 T2 T3 T4 T5 T6 : Type} {p7 : T0 → T1 → T2 → T3 → T4 → T5 → T6 → Prop} {p8 : T0 → T1 → T2 → T3 → T4 → T5 → T6 → Prop} {p9 : T0 → T1 → T2 → T3 → T4 → T5 → T6 → Prop} {p10 : T0 → T1 → T2 → T3 → T4 → T5 → T6 → Prop} {p11 : T0 → T1 → T2 → T3 → T4 → T5 → T6 → Prop} {C : Prop} (h : ∃ x0, ∃ x1, ∃ x2, ∃ x3, ∃ x4, ∃ x5, ∃ x6, p7 x0 x1 x2 x3 x4 x5 x6 ∧ p8 x0 x1 x2 x3 x4 x5 x6 ∧ p9 x0 x1 x2 x3 x4 x5 x6 ∧ p10 x0 x1 x2 x3 x4 x5 x6 ∧ p11 x0 x1 x2 x3 x4 x5 x6) (k : ∀ x0, ∀ x1, ∀ x2, ∀ x3, ∀ x4, ∀ x5, ∀ x6, p7 x0 x1 x2 x3 x4 x5 x6 → p8 x0 x1 x2 x3 x4 x5 x6 → p9 x0 x1 x2 x3 x4 x5 x6 → p10 x0 x1 x2 x3 x4 x5 x6 → p11 x0 x1 x2 x3 x4 x5 x6 → C) : C := by
  obtain ⟨x0, x1, x2, x3, x4, x5, x6, h7, h8, h9, h10, h11⟩ := h
  exact k x0 x1 x2 x3 x4 x5 x6 h7 h8 h9 h10 h11
theorem itt {t : Bool} {A B : Prop} (h : t = true) (q : A) : if t = true then A else B := by subst h; exact q
theorem sPop {o : Option O} {vs : List V} {u : V} {G : List V → V → Prop} (h : o = some (.list (vs ++ [u]))) (q : G (vs ++ [u]) u) : (match (generalizing := false) o with
    | some (.list vs) => (match vs.getLast? with
      | some u => G vs u
      | none => False)
    | _ => False : Prop) := by
  subst h
  exact sm List.getLast?_concat q
theorem sPart {o : Option (List V)} {vs : List V} {k l : Int} {F : List V → Int → Int → Prop} (h : o = some vs) (q : F vs k l) : (match (generalizing := false) o, V.int k, V.int l with
    | some vs, .int k, .int l => F vs k l
    | _, _, _ => False : Prop) := by subst h; exact q
theorem lenpos {l : List V} {x : V} : decide ((((l ++ [x]).length : Nat) : Int) > 0) = true := decide_eq_true (by rw [List.length_append]; show ((l.length + 1 : Nat) : Int) > 0; omega)
noncomputable def stripC : IE := .cmp .gt (.len (.loc 1)) (.val (.int 0))
noncomputable def stripB : IB := (.cons (.unpack false [3, 4] (.pop (.loc 1))) (.cons (.ifs (.cmp .eq (.loc 3) (.val (.str 30))) (.cons (.expr (.call 445 (.cons (.loc 4) (.cons (.loc 1) (.cons (.loc 2) .nil))))) .nil) (.cons (.ifs (.cmp .eq (.loc 3) (.val (.str 31))) (.cons (.set 5 (.sub (.sub (.len (.loc 2)) (.loc 4)) (.val (.int 1)))) (.cons (.set 6 (.call 182 (.cons (.frz (.part (.loc 2) (.loc 5) (.add (.loc 5) (.loc 4)))) (.cons (.idx (.loc 2) (.val (.int (-1)))) .nil)))) (.cons (.set 2 (.upto (.frz (.loc 2)) (.loc 5))) (.cons (.expr (.append (.loc 2) (.loc 6))) .nil)))) (.cons (.set 5 (.sub (.len (.loc 2)) (.loc 4))) (.cons (.set 6 (.stop)) (.cons (.set 2 (.upto (.frz (.loc 2)) (.loc 5))) (.cons (.expr (.append (.loc 2) (.loc 6))) .nil))))) .nil)) .nil))
noncomputable def SW (z : Z) (n : Nat) (X : AH → Prop) (Q : V → AH → Prop) (f : Nat) (ls : Ls) (σ : AH) : Prop :=
  whileN (fun T ls σ => WE z pg n stripC X ls (fun v σ => match v with | .bool t => T t σ | _ => False) σ) (fun N ls σ => WB z pg n stripB X Q N ls σ) (fun ls σ => WB z pg n (.cons (.ret (.idx (.loc 2) (.val (.int 0)))) .nil) X Q (fun _ σ => Q .none σ) ls σ) f ls σ
noncomputable def SSt (σ₀ : AH) (js ds : List V) (ls : Ls) (σ : AH) : Prop := ∃ j dn u0 u3 u4 u5 u6, ls = [u0, some (.ref j), some (.ref dn), u3, u4, u5, u6] ∧ σ₀ j = none ∧ σ₀ dn = none ∧ dn ≠ j ∧ σ = (σ₀.set j (some (.list js))).set dn (some (.list ds))
section
variable {z : Z} {n : Nat} {X : AH → Prop} {σ₀ : AH} {Q : V → AH → Prop}
noncomputable def SP (z : Z) (n : Nat) (X : AH → Prop) (Q : V → AH → Prop) (σ₀ : AH) (f : Nat) (js ds : List V) : Prop := ∀ ls σ, SSt σ₀ js ds ls σ → SW z n X Q f ls σ
theorem sw_atom (e : Env0 z) (hn : 2 ≤ n) {f : Nat} {js ds : List V} {v : V} (ha : ∀ σ, Atom σ v) (hl : ds.length < 900000) (hj : js.length < 900000) (h : SP z n X Q σ₀ f js (ds ++ [v])) : SP z n X Q σ₀ (f + 1) (js ++ [takeJ v]) ds := by
  intro ls σ hS
  refine xEEEEEEEAAAA hS fun j dn u0 u3 u4 u5 u6 r1 h1 h2 h3 r2 => ?_
  subst r1; subst r2
  refine smL (listAt_l ((AH.set_ne (Ne.symm h3)).trans (AH.set_self ..))) (itt lenpos (sPop ((AH.set_ne (Ne.symm h3)).trans (AH.set_self ..)) ?_))
  rw [List.dropLast_concat]
  refine take_atom e hn (ha _) (ds := ds) ((AH.set_ne h3).trans (AH.set_self ..)) (Nat.lt_trans hl (by decide)) ?_
  refine h _ _ ⟨j, dn, _, _, _, _, _, rfl, h1, h2, h3, ?_⟩
  rw [AH.set_comm h3, AH.set_set, AH.set_set]
theorem sw_pair (e : Env0 z) (hn : 2 ≤ n) {f : Nat} {js ds : List V} {x : V} {xs : List V} {t : V} (ht : Term t) (hj : js.length + xs.length + 3 < 900000)
    (h : SP z n X Q σ₀ f (js ++ [listJ (x :: xs).length, takeJ t] ++ ((x :: xs).map takeJ).reverse) ds) : SP z n X Q σ₀ (f + 1) (js ++ [takeJ (chn (x :: xs) t)]) ds := by
  intro ls σ hS
  refine xEEEEEEEAAAA hS fun j dn u0 u3 u4 u5 u6 r1 h1 h2 h3 r2 => ?_
  subst r1; subst r2
  refine smL (listAt_l ((AH.set_ne (Ne.symm h3)).trans (AH.set_self ..))) (itt lenpos (sPop ((AH.set_ne (Ne.symm h3)).trans (AH.set_self ..)) ?_))
  rw [List.dropLast_concat]
  refine take_pair e hn ht (js := js) (AH.set_self ..) hj ?_
  refine h _ _ ⟨j, dn, _, _, _, _, _, rfl, h1, h2, h3, ?_⟩
  rw [AH.set_set, AH.set_comm h3, AH.set_set]
theorem itemAt_last {l : List V} {t : V} : itemAt (l ++ [t]) (-1) = some t := by
  unfold itemAt
  have hl : (l ++ [t]).length = l.length + 1 := by rw [List.length_append]; rfl
  rw [if_neg (by decide), if_pos (by rw [hl]; omega)]
  have : (-1 + (((l ++ [t]).length : Nat) : Int)).toNat = l.length := by rw [hl]; omega
  rw [this, List.getElem?_append_right (Nat.le_refl _), Nat.sub_self]; rfl
theorem drop_le' {l : List V} {k b : Nat} (h : l.length ≤ b) : (l.drop k).length ≤ b := by rw [List.length_drop]; exact Nat.le_trans (Nat.sub_le ..) h
theorem drop_le {l : List V} {k : Nat} (h : l.length ≤ 900000) : (l.drop k).length ≤ 1000000 := Nat.le_trans (drop_le' h) (by decide)
theorem sw_list (e : Env0 z) (hn : 4 ≤ n) {f : Nat} {js ds vs : List V} {t : V} (hj : js.length < 900000) (hl : ds.length + vs.length + 2 < 900000)
    (h : ∀ v, SP z n X Q σ₀ f js (ds ++ [v])) : SP z n X Q σ₀ (f + 1) (js ++ [listJ vs.length]) (ds ++ vs ++ [t]) := by
  intro ls σ hS
  refine xEEEEEEEAAAA hS fun j dn u0 u3 u4 u5 u6 r1 h1 h2 h3 r2 => ?_
  subst r1; subst r2
  refine smL (listAt_l ((AH.set_ne (Ne.symm h3)).trans (AH.set_self ..))) (itt lenpos (sPop ((AH.set_ne (Ne.symm h3)).trans (AH.set_self ..)) ?_))
  rw [List.dropLast_concat]
  rw [AH.set_comm h3, AH.set_set]
  have eL : (ds ++ vs ++ [t]).length = ds.length + vs.length + 1 := by rw [List.length_append, List.length_append]; rfl
  have ef : (((ds ++ vs ++ [t]).length : Nat) : Int) - (vs.length : Int) - 1 = (ds.length : Int) := by rw [eL]; omega
  have eb : ∀ k : Nat, ((ds ++ vs ++ [t]).take k).length ≤ 900000 := fun k => by rw [List.length_take, eL]; exact Nat.le_trans (Nat.min_le_right ..) (by omega)
  have ei : itemAt (ds ++ vs ++ [t]) (-1) = some t := itemAt_last
  have et : (ds ++ vs ++ [t]).take ((((ds ++ vs ++ [t]).length : Nat) : Int) - (vs.length : Int) - 1).toNat = ds := by rw [ef, Int.toNat_natCast, List.append_assoc, List.take_left]
  have gd := AH.set_self (σ₀.set j (some (.list js))) dn (some (.list (ds ++ vs ++ [t])))
  refine smL (listAt_l gd) (sPart (listAt_l gd) ?_)
  refine And.intro (by rw [ef]; omega) (And.intro (by rw [ef]; omega) (And.intro (by rw [ef]; omega) (newL_frz (drop_le (eb _)) (sAt (seqAt_l gd) ei ?_))))
  refine c_list_of2 e hn (drop_le' (eb _)) (frz_l gd ?_)
  refine And.intro (by rw [ef]; omega) (And.intro (by rw [ef]; omega) (And.intro (Nat.le_trans (eb _) (by decide)) fun dn' hdn' => ?_))
  rw [AH.set_none ((AH.set_ne h3).trans h2)] at hdn'
  have n1 : dn' ≠ j := by rintro rfl; rw [AH.set_self] at hdn'; cases hdn'
  refine And.intro (isL_l (AH.set_self ..)) (sO (AH.set_self ..) (And.intro (Nat.lt_of_le_of_lt (eb _) (by decide)) ?_))
  rw [AH.set_set, et, AH.set_none ((AH.set_ne h3).trans h2)]
  exact h _ _ _ ⟨j, dn', _, _, _, _, _, rfl, h1, (AH.set_ne n1).symm.trans hdn', n1, rfl⟩
theorem sw_end {v : V} (h : ∀ σ', (∀ a o, σ₀ a = some o → σ' a = some o) → Q v σ') : SP z n X Q σ₀ 1 [] [v] := by
  intro ls σ hS
  refine xEEEEEEEAAAA hS fun j dn u0 u3 u4 u5 u6 r1 h1 h2 h3 r2 => ?_
  subst r1; subst r2
  refine smL (listAt_l ((AH.set_ne (Ne.symm h3)).trans (AH.set_self ..))) (sAt (seqAt_l (AH.set_self ..)) rfl ?_)
  refine h _ fun a o ha => ?_
  rw [AH.set_ne, AH.set_ne]
  · exact ha
  · rintro rfl; rw [h1] at ha; cases ha
  · rintro rfl; rw [h2] at ha; cases ha
end
end Mine
end
noncomputable section
namespace Mine
noncomputable def symV (i : Int) (k : Nat) : V := .obj 65 [34, 35] [.int i, .str k]
noncomputable def endV (dot : Bool) : V := if dot then .int 5 else .stat 44
theorem endV_term (dot : Bool) : Term (endV dot) := by cases dot <;> simp [Term, endV]
mutual
noncomputable def dat (T : List Nat) : Fm → V
  | .num => .int 5
  | .str k => symV (T.idxOf k : Nat) k
  | .row l dot => chn (dats T l) (endV dot)
noncomputable def dats (T : List Nat) : List Fm → List V
  | [] => []
  | a :: l => dat T a :: dats T l
end
theorem dats_map (T : List Nat) : ∀ l, dats T l = l.map (dat T)
  | [] => rfl
  | a :: l => by simp [dats, dats_map T l]
theorem dats_length (T : List Nat) (l : List Fm) : (dats T l).length = l.length := by rw [dats_map, List.length_map]
section
variable {z : Z} {n : Nat} {X : AH → Prop} {σ₀ σ : AH} {Q : V → AH → Prop} {T : List Nat}
theorem atom_term {σ : AH} {t : V} (h : Term t) : Atom σ t := by rcases h with rfl | rfl <;> exact ⟨rfl, rfl, rfl⟩
theorem atom_sym {σ : AH} {i : Int} {k : Nat} : Atom σ (symV i k) := ⟨rfl, rfl, rfl⟩
theorem strip_items (e : Env0 z) {w d : Nat} (one : ∀ F, Fok w d F → ∃ cost, ∀ f js ds, js.length + (w + 3) * (d + 1) ≤ 800000 → ds.length + (w + 3) * (d + 1) ≤ 800000 → (∀ v, SP z n X Q σ₀ f js (ds ++ [v])) → SP z n X Q σ₀ (f + cost) (js ++ [takeJ (dat T F)]) ds) :
    ∀ m : List Fm, Foks w d m → ∃ cost, ∀ f js ds, js.length + m.length + (w + 3) * (d + 1) ≤ 800000 → ds.length + m.length + (w + 3) * (d + 1) ≤ 800000 → (∀ vs, vs.length = m.length → SP z n X Q σ₀ f js (ds ++ vs)) → SP z n X Q σ₀ (f + cost) (js ++ ((dats T m).map takeJ).reverse) ds
  | [], _ => ⟨0, fun f js ds _ _ h => by simpa [dats] using h [] rfl⟩
  | x :: r, hm => by
    obtain ⟨c1, h1⟩ := one x (hm x (.head _))
    obtain ⟨c2, h2⟩ := strip_items e one r fun y hy => hm y (.tail _ hy)
    refine ⟨c2 + c1, fun f js ds b1 b2 h => ?_⟩
    simp only [List.length_cons] at b1 b2
    rw [dats, List.map_cons, List.reverse_cons, ← List.append_assoc, ← Nat.add_assoc]
    refine h1 (f + c2) _ ds (by rw [List.length_append, List.length_reverse, List.length_map, dats_length]; omega) (by omega) fun v => ?_
    refine h2 f js (ds ++ [v]) (by omega) (by simp only [List.length_append, List.length_cons, List.length_nil]; omega) fun vs hv => ?_
    rw [List.append_assoc]
    exact h _ (by simp [hv])
theorem strip_one (e : Env0 z) (hn : 4 ≤ n) {w : Nat} : ∀ (d : Nat) (F : Fm), Fok w d F → ∃ cost, ∀ f js ds, js.length + (w + 3) * (d + 1) ≤ 800000 → ds.length + (w + 3) * (d + 1) ≤ 800000 → (∀ v, SP z n X Q σ₀ f js (ds ++ [v])) → SP z n X Q σ₀ (f + cost) (js ++ [takeJ (dat T F)]) ds := by
  intro d
  have at1 : ∀ (d : Nat) (v : V), (∀ σ, Atom σ v) → ∃ cost, ∀ f js ds, js.length + (w + 3) * (d + 1) ≤ 800000 → ds.length + (w + 3) * (d + 1) ≤ 800000 → (∀ v, SP z n X Q σ₀ f js (ds ++ [v])) → SP z n X Q σ₀ (f + cost) (js ++ [takeJ v]) ds :=
    fun d v hv => ⟨1, fun f js ds b1 b2 h => sw_atom e (by omega) hv (by omega) (by omega) (h v)⟩
  induction d with
  | zero =>
    intro F hF
    cases F with
    | num => exact at1 0 _ fun σ => atom_term (.inr rfl)
    | str k => exact at1 0 _ fun σ => atom_sym
    | row l dot => exact hF.elim
  | succ d ih =>
    intro F hF
    cases F with
    | num => exact at1 _ _ fun σ => atom_term (.inr rfl)
    | str k => exact at1 _ _ fun σ => atom_sym
    | row l dot =>
      revert hF; refine yAA fun f1 f2 f3 => ?_
      cases l with
      | nil => exact at1 _ _ fun σ => atom_term (endV_term dot)
      | cons x r =>
        obtain ⟨c, hc⟩ := strip_items (n := n) (X := X) (Q := Q) (σ₀ := σ₀) (T := T) e ih (x :: r) f3
        refine ⟨1 + 1 + c + 1, fun f js ds b1 b2 h => ?_⟩
        simp only [List.length_cons] at f1
        have hm : (w + 3) * (d + 1 + 1) = (w + 3) * (d + 1) + (w + 3) := by rw [Nat.mul_add, Nat.mul_one]
        rw [hm] at b1 b2
        have hd : dat T (.row (x :: r) dot) = chn (dat T x :: dats T r) (endV dot) := rfl
        rw [hd, show f + (1 + 1 + c + 1) = (f + 1 + 1 + c) + 1 by omega]
        refine sw_pair e (by omega) (endV_term dot) (by rw [dats_length]; omega) ?_
        have hl : (dat T x :: dats T r) = dats T (x :: r) := rfl
        rw [hl]
        refine hc (f + 1 + 1) _ ds (by simp only [List.length_append, List.length_cons, List.length_nil]; omega) (by simp only [List.length_cons]; omega) fun vs hv => ?_
        simp only [List.length_cons] at hv
        rw [show js ++ [listJ (dats T (x :: r)).length, takeJ (endV dot)] = (js ++ [listJ (dats T (x :: r)).length]) ++ [takeJ (endV dot)] by simp]
        refine sw_atom e (by omega) (fun σ => atom_term (endV_term dot)) (by simp only [List.length_append]; omega) (by simp only [List.length_append, List.length_cons, List.length_nil]; omega) ?_
        rw [dats_length, show (x :: r).length = vs.length by rw [hv]; rfl]
        exact sw_list e hn (by omega) (by omega) h
theorem c_strip (e : Env0 z) (hn : 5 ≤ n) {w d : Nat} {F : Fm} (hF : Fok w d F) (hb : (w + 3) * (d + 1) ≤ 700000) (h : ∀ v, Q v σ) : SemCall z n 452 [dat T F] σ Q X := by
  refine SemCall.forget (e.go (fn_strip e.zk) hn 6 ?_)
  intro j hj
  intro dn hdn
  have n1 : dn ≠ j := by rintro rfl; rw [AH.set_self] at hdn; cases hdn
  rw [AH.set_ne n1] at hdn
  refine Exists.elim (strip_one (X := fun σ' => ∃ σ'', (∀ a o, σ'' a = some o → σ' a = some o) ∧ X σ'') (Q := fun v σ' => ∃ σ'', (∀ a o, σ'' a = some o → σ' a = some o) ∧ Q v σ'') (σ₀ := σ) (T := T) e (n := n - 1) (lp hn rfl) d F hF) fun c hc => ?_
  have hb : 0 + (w + 3) * (d + 1) ≤ 800000 := by omega
  exact Exists.intro (1 + c) (hc 1 [] [] hb hb (fun v => sw_end fun σ' hs => ⟨σ, hs, h v⟩) _ _ ⟨j, dn, _, _, _, _, _, rfl, hj, hdn, n1, rfl⟩)
end
end Mine
end
noncomputable section
namespace Mine
structure Wa where
  w : Addr
  t : Addr
  rw : Addr
  bt : Addr
  rt : Addr
  rn : Addr
noncomputable def symsFrom : Nat → List Nat → List V
  | _, [] => []
  | i, k :: r => symV (i : Nat) k :: symsFrom (i + 1) r
theorem symsFrom_length : ∀ (i : Nat) (T : List Nat), (symsFrom i T).length = T.length
  | _, [] => rfl
  | i, k :: r => by simp [symsFrom, symsFrom_length (i + 1) r]
theorem symsFrom_snoc : ∀ (i : Nat) (T : List Nat) (k : Nat), symsFrom i (T ++ [k]) = symsFrom i T ++ [symV ((i + T.length : Nat) : Int) k]
  | _, [], _ => rfl
  | i, j :: r, k => by
    simp only [List.cons_append, symsFrom, symsFrom_snoc (i + 1) r k, List.length_cons]
    rw [show i + 1 + r.length = i + (r.length + 1) by omega]
theorem find_syms : ∀ (i : Nat) (T : List Nat) (k : Nat), findK T (symsFrom i T) k = if k ∈ T then some (symV ((i + T.idxOf k : Nat) : Int) k) else none
  | _, [], _ => by simp [findK]
  | i, j :: r, k => by
    unfold symsFrom findK
    by_cases h : j = k
    · subst h; simp
    · rw [if_neg h, find_syms (i + 1) r k, List.idxOf_cons]
      have : (j == k) = false := by simpa using h
      simp only [this, List.mem_cons, Ne.symm h, false_or, cond_false]
      rw [show i + 1 + List.idxOf k r = i + (List.idxOf k r + 1) by omega]
theorem len_of_small : ∀ (m : Nat) (l : List Nat), l.Nodup → (∀ k ∈ l, k < m) → l.length ≤ m
  | 0, l, _, h => by
    cases l with
    | nil => simp
    | cons a r => exact absurd (h a (.head _)) (Nat.not_lt_zero _)
  | m + 1, l, nd, h => by
    have h1 := len_of_small m (l.erase m) (nd.erase m) fun k hk => by
      have h2 := h k (List.mem_of_mem_erase hk)
      have h3 : k ≠ m := fun q => by rw [q] at hk; exact nd.not_mem_erase hk
      omega
    have := List.length_erase (a := m) (l := l)
    split at this <;> omega
structure Wd (a : Wa) (σ : AH) (T : List Nat) : Prop where
  w : ∃ l ti op, σ a.w = some (.inst 677 [50, 51, 52, 53, 54] [.ref a.t, .int l, ti, op, .ref a.rt])
  t : σ a.t = some (.inst 128 [36, 37] [.ref a.rw, .ref a.bt])
  rw : σ a.rw = some (.list (symsFrom 0 T))
  bt : σ a.bt = some (.dictS T (symsFrom 0 T))
  rt : σ a.rt = some (.inst 413 [47, 48] [.none, .ref a.rn])
  rn : σ a.rn = some (.dictI [] [])
  nd : T.Nodup
  sm : ∀ k ∈ T, k < strMany
theorem Wd.len {a : Wa} {σ : AH} {T : List Nat} (W : Wd a σ T) : T.length ≤ 63 := len_of_small 63 T W.nd W.sm
noncomputable def Same (a : Wa) (σ σ' : AH) : Prop := ∀ b, b ≠ a.w → b ≠ a.rw → b ≠ a.bt → σ' b = σ b
theorem Same.refl {a : Wa} {σ : AH} : Same a σ σ := fun _ _ _ _ => rfl
theorem Same.trans {a : Wa} {σ σ' σ'' : AH} (x : Same a σ σ') (y : Same a σ' σ'') : Same a σ σ'' := fun b h1 h2 h3 => (y b h1 h2 h3).trans (x b h1 h2 h3)
theorem ne_of_vals {σ : AH} {a b : Addr} {x y : O} (h : σ a = some x) (h' : σ b = some y) (ne : x ≠ y) : a ≠ b := by rintro rfl; rw [h] at h'; exact ne (Option.some.inj h')
theorem idxOf_app {k : Nat} {r : List Nat} : ∀ {T : List Nat}, k ∈ T → (T ++ r).idxOf k = T.idxOf k
  | j :: T, h => by
    rw [List.cons_append, List.idxOf_cons, List.idxOf_cons]
    by_cases q : j = k
    · subst q; simp
    · have : (j == k) = false := by simpa using q
      rw [this]
      simp only [cond_false]
      rw [idxOf_app]
      rcases List.mem_cons.mp h with h | h
      · exact absurd h.symm q
      · exact h
theorem idxOf_new {k : Nat} : ∀ {T : List Nat}, k ∉ T → (T ++ [k]).idxOf k = T.length
  | [], _ => by simp
  | j :: T, h => by
    rw [List.mem_cons, not_or] at h
    have : (j == k) = false := by simpa using Ne.symm h.1
    rw [List.cons_append, List.idxOf_cons, this]
    simp only [cond_false, List.length_cons]
    rw [idxOf_new h.2]
theorem idx_mono {T T' : List Nat} (h : T <+: T') {k : Nat} (hk : k ∈ T) : T'.idxOf k = T.idxOf k := by
  obtain ⟨r, rfl⟩ := h
  exact idxOf_app hk
section
variable {z : Z} {n : Nat} {X : AH → Prop} {σ : AH} {Q : V → AH → Prop} {a : Wa} {T : List Nat}
theorem Wd.grow {k : Nat} (W : Wd a σ T) (hk : k < strMany) (hn : k ∉ T) : Wd a ((σ.set a.rw (some (.list (symsFrom 0 (T ++ [k]))))).set a.bt (some (.dictS (T ++ [k]) (symsFrom 0 (T ++ [k]))))) (T ++ [k]) ∧ Same a σ ((σ.set a.rw (some (.list (symsFrom 0 (T ++ [k]))))).set a.bt (some (.dictS (T ++ [k]) (symsFrom 0 (T ++ [k]))))) := by
  refine xEEE (W.w) fun l ti op hw => ?_
  have n1 : a.w ≠ a.rw := ne_of_vals hw W.rw nofun
  have n2 : a.w ≠ a.bt := ne_of_vals hw W.bt nofun
  have n3 : a.t ≠ a.rw := ne_of_vals W.t W.rw nofun
  have n4 : a.t ≠ a.bt := ne_of_vals W.t W.bt nofun
  have n5 : a.rw ≠ a.bt := ne_of_vals W.rw W.bt nofun
  have n6 : a.rt ≠ a.rw := ne_of_vals W.rt W.rw nofun
  have n7 : a.rt ≠ a.bt := ne_of_vals W.rt W.bt nofun
  have n8 : a.rn ≠ a.rw := ne_of_vals W.rn W.rw nofun
  have n9 : a.rn ≠ a.bt := ne_of_vals W.rn W.bt nofun
  refine ⟨⟨⟨l, ti, op, ?_⟩, ?_, ?_, ?_, ?_, ?_, ?_, ?_⟩, fun b h1 h2 h3 => ?_⟩
  · rw [AH.set_ne n2, AH.set_ne n1]; exact hw
  · rw [AH.set_ne n4, AH.set_ne n3]; exact W.t
  · rw [AH.set_ne n5, AH.set_self]
  · rw [AH.set_self]
  · rw [AH.set_ne n7, AH.set_ne n6]; exact W.rt
  · rw [AH.set_ne n9, AH.set_ne n8]; exact W.rn
  · rw [List.nodup_append]
    exact ⟨W.nd, by simp, fun x hx y hy => by rw [List.mem_singleton.mp hy]; rintro rfl; exact hn hx⟩
  · intro j hj
    rcases List.mem_append.mp hj with hj | hj
    · exact W.sm j hj
    · rw [List.mem_singleton.mp hj]; exact hk
  · rw [AH.set_ne h3, AH.set_ne h2]
theorem at_i {b C : Addr} {ks : List Nat} {vs : List V} {k : Nat} {v : V} (h : σ b = some (.inst C ks vs)) (q : (if (methOf C k).isSome then none else findK ks vs k) = some v) : attrOf σ (.ref b) k = some v := by simp only [attrOf, h]; exact q
theorem mt_i {b C : Addr} {ks : List Nat} {vs : List V} {k : Nat} {f : Addr} (h : σ b = some (.inst C ks vs)) (q : (if k ∈ ks then none else methOf C k) = some f) : methAt σ (.ref b) k = some f := by simp only [methAt, h]; exact q
theorem isD_s {b : Addr} {ks : List Nat} {vs : List V} (h : σ b = some (.dictS ks vs)) : isD σ (.ref b) = true := by simp only [isD, h]
theorem isD_i {b : Addr} {ks : List Int} {vs : List V} (h : σ b = some (.dictI ks vs)) : isD σ (.ref b) = true := by simp only [isD, h]
theorem c_tab_symbol (e : Env0 z) (hn : 3 ≤ n) {k : Nat} (hk : k < strMany) (W : Wd a σ T) (h : ∀ σ' T', Wd a σ' T' → T <+: T' → k ∈ T' → Same a σ σ' → Q (symV (T'.idxOf k : Nat) k) σ') : SemCall z n 90 [.ref a.t, .str k] σ Q X := by
  refine e.go (fn_SymbolTable_symbol e.zk) hn 1 (sm (at_i W.t rfl) (And.intro (isD_s W.bt) (sDs W.bt ?_)))
  rw [find_syms]
  by_cases hm : k ∈ T
  · rw [if_pos hm, Nat.zero_add]
    exact h σ T W List.prefix_rfl hm Same.refl
  · rw [if_neg hm]
    refine sm (at_i W.t rfl) (smL (listAt_l W.rw) (new_Symbol e (lp hn rfl) ?_))
    have n3 : a.t ≠ a.rw := ne_of_vals W.t W.rw nofun
    have n5 : a.rw ≠ a.bt := ne_of_vals W.rw W.bt nofun
    have hlen : (symsFrom 0 T).length ≤ 63 := by rw [symsFrom_length]; exact W.len
    refine sm (at_i W.t rfl) (And.intro (isL_l W.rw) (sO W.rw (And.intro (Nat.lt_of_le_of_lt hlen (by decide)) ?_)))
    refine sm (at_i ((AH.set_ne n3).trans W.t) rfl) (sSs ((AH.set_ne (Ne.symm n5)).trans W.bt) (And.intro (Nat.le_trans hlen (by decide)) (And.intro hm ?_)))
    have hs : symsFrom 0 T ++ [V.obj 65 [34, 35] [V.int ((symsFrom 0 T).length : Int), V.str k]] = symsFrom 0 (T ++ [k]) := by rw [symsFrom_snoc, Nat.zero_add, symsFrom_length]; rfl
    rw [hs]
    refine xA (W.grow hk hm) fun W' S' => ?_
    have := h _ _ W' (List.prefix_append _ _) (List.mem_append_right _ (.head _)) S'
    rw [idxOf_new hm, ← symsFrom_length 0 T] at this
    exact this
theorem c_symbol (e : Env0 z) (hn : 4 ≤ n) {k : Nat} (hk : k < strMany) (W : Wd a σ T) (h : ∀ σ' T', Wd a σ' T' → T <+: T' → k ∈ T' → Same a σ σ' → Q (symV (T'.idxOf k : Nat) k) σ') : SemCall z n 625 [.ref a.w, .str k] σ Q X := by
  exact xEEE W.w fun l ti op hw => e.go (fn_Names_symbol e.zk) hn 0 (sm (at_i hw rfl) (smF (mt_i W.t rfl) (c_tab_symbol e (lp hn rfl) hk W h)))
theorem c_fresh (e : Env0 z) (hn : 1 ≤ n) (W : Wd a σ T) (h : ∀ v σ', Wd a σ' T → Same a σ σ' → Q v σ') : SemCall z n 618 [.ref a.w] σ Q X := by
  refine xEEE W.w fun l ti op hw => e.go (fn_Names_fresh e.zk) hn 0 (sm (at_i hw rfl) (sI hw (And.intro (by decide) (And.intro rfl (sm (at_i (AH.set_self ..) rfl) ?_)))))
  refine h _ _ ⟨⟨l + 1, ti, op, AH.set_self ..⟩, ?_, ?_, ?_, ?_, ?_, W.nd, W.sm⟩ fun b h1 _ _ => AH.set_ne h1
  · exact (AH.set_ne (ne_of_vals W.t hw nofun)).trans W.t
  · exact (AH.set_ne (ne_of_vals W.rw hw nofun)).trans W.rw
  · exact (AH.set_ne (ne_of_vals W.bt hw nofun)).trans W.bt
  · exact (AH.set_ne (ne_of_vals W.rt hw nofun)).trans W.rt
  · exact (AH.set_ne (ne_of_vals W.rn hw nofun)).trans W.rn
theorem c_alias_of (e : Env0 z) (hn : 3 ≤ n) {x y : V} (W : Wd a σ T) (h : ∀ v σ', Wd a σ' T → Same a σ σ' → Q v σ') : SemCall z n 438 [x, y, .ref a.w] σ Q X := by
  exact xEEE W.w fun l ti op hw => e.go (fn_alias_of e.zk) hn 0 (smF (mt_i hw rfl) (c_fresh e (lp hn rfl) W fun v σ' W' S' => new_Alias e (lp hn rfl) (h _ _ W' S')))
noncomputable def Gr (a : Wa) (σ : AH) (T : List Nat) (Q : V → AH → Prop) : Prop := ∀ v σ' T', Wd a σ' T' → T <+: T' → Same a σ σ' → Q v σ'
theorem c_word_of (e : Env0 z) (hn : 4 ≤ n) {k : Nat} (hk : k < strMany) (W : Wd a σ T) (h : Gr a σ T Q) : SemCall z n 459 [.ref a.w, .str k] σ Q X := by
  exact xEEE W.w fun l ti op hw => e.go (fn_word_of e.zk) hn 0 (sm (at_i hw rfl) (smF (mt_i W.t rfl) (c_tab_symbol e (lp hn rfl) hk W fun σ' T' W' P' _ S' =>
    xEEE W'.w fun l' ti' op' hw' => sm (at_i hw' rfl) (c_alias_of e (lp hn rfl) W' fun v σ'' W'' S'' => h v σ'' T' W'' P' (S'.trans S'')))))
end
end Mine
end
noncomputable section
namespace Mine
noncomputable def locV (k : Nat) : V := .obj 287 [34, 33] [.int 1, .str k]
noncomputable def gloV (v : V) : V := .obj 308 [49] [v]
structure Sc (a : Wa) (sc : Addr) (bd T0 : List Nat) (σ : AH) : Prop where
  ex : ∃ sn, σ sc = some (.inst 413 [47, 48] [.ref a.rt, .ref sn]) ∧ σ sn = some (.dictI (bd.map fun k => 2 * (T0.idxOf k : Int)) (bd.map locV))
  sub : ∀ k ∈ bd, k ∈ T0
theorem Sc.same {a : Wa} {sc : Addr} {bd T0 T : List Nat} {σ σ' : AH} (S : Sc a sc bd T0 σ) (W : Wd a σ T) (x : Same a σ σ') : Sc a sc bd T0 σ' := by
  refine xEA (S.ex) fun sn h1 h2 => ?_
  refine xEEE (W.w) fun l ti op hw => ?_
  refine ⟨⟨sn, ?_, ?_⟩, S.sub⟩
  · rw [x sc (ne_of_vals h1 hw (by simp)) (ne_of_vals h1 W.rw nofun) (ne_of_vals h1 W.bt nofun)]; exact h1
  · rw [x sn (ne_of_vals h2 hw nofun) (ne_of_vals h2 W.rw nofun) (ne_of_vals h2 W.bt nofun)]; exact h2
theorem idxOf_inj : ∀ {T : List Nat} {j k : Nat}, j ∈ T → k ∈ T → T.idxOf j = T.idxOf k → j = k
  | i :: T, j, k, hj, hk, h => by
    rw [List.idxOf_cons, List.idxOf_cons] at h
    by_cases q1 : i = j
    · subst q1
      by_cases q2 : i = k
      · exact q2
      · have : (i == k) = false := by simpa using q2
        rw [this] at h
        simp at h
    · have h1 : (i == j) = false := by simpa using q1
      rw [h1] at h
      by_cases q2 : i = k
      · subst q2; simp at h
      · have h2 : (i == k) = false := by simpa using q2
        rw [h2] at h
        simp only [cond_false, Nat.add_right_cancel_iff] at h
        rcases List.mem_cons.mp hj with hj | hj
        · exact absurd hj.symm q1
        · rcases List.mem_cons.mp hk with hk | hk
          · exact absurd hk.symm q2
          · exact idxOf_inj hj hk h
theorem find_bound {T0 : List Nat} {k : Nat} (hk : k ∈ T0) : ∀ bd : List Nat, (∀ j ∈ bd, j ∈ T0) → findI (bd.map fun k => 2 * (T0.idxOf k : Int)) (bd.map locV) (2 * (T0.idxOf k : Int)) = if bd.contains k then some (locV k) else none
  | [], _ => rfl
  | b :: r, h => by
    simp only [List.map_cons, findI, List.contains_cons]
    by_cases q : b = k
    · subst q; simp
    · have : ¬ (2 * (T0.idxOf b : Int) = 2 * (T0.idxOf k : Int)) := fun e => q (idxOf_inj (h b (.head _)) hk (by omega))
      rw [if_neg this, find_bound hk r fun j hj => h j (.tail _ hj)]
      have : (k == b) = false := by simpa using Ne.symm q
      rw [this, Bool.false_or]
section
variable {z : Z} {n : Nat} {X : AH → Prop} {σ : AH} {Q : V → AH → Prop} {a : Wa} {T T0 bd : List Nat} {sc : Addr}
theorem c_is_identifier (e : Env0 z) (hn : 1 ≤ n) {T : List Nat} {F : Fm} (h : Q (.bool (isStr F)) σ) : SemCall z n 340 [dat T F] σ Q X := by
  refine e.go (fn_is_identifier e.zk) hn 0 ?_
  cases F with
  | num => exact h
  | str k => exact h
  | row l b =>
    cases l with
    | nil => cases b <;> exact h
    | cons x r => exact h
theorem c_key_of (e : Env0 z) (hn : 1 ≤ n) {i : Nat} {k : Nat} (hi : i ≤ 1000) (h : Q (.int (2 * (i : Int))) σ) : SemCall z n 347 [symV i k] σ Q X := by
  exact e.go (fn_key_of e.zk) hn 0 (And.intro (by decide) (And.intro (by omega) h))
theorem is_none' {σ : AH} {v : V} (h : v ≠ .none) : cmpV pg.pairC σ .is v .none = some false := by
  show isV 149 v .none = _
  cases v <;> first | rfl | exact absurd rfl h
theorem c_bound_root (e : Env0 z) (hn : 2 ≤ n) {i k : Nat} (hi : i ≤ 1000) (W : Wd a σ T) (h : Q .none σ) : SemCall z n 389 [.ref a.rt, symV i k] σ Q X := by
  refine e.go (fn_Scope_bound e.zk) hn 3 (c_key_of e (lp hn rfl) hi ?_)
  exact Exists.intro 2 (sm (at_i W.rt rfl) (And.intro (isD_i W.rn) (sDi W.rn (sm (at_i W.rt rfl) h))))
theorem c_bound (e : Env0 z) (hn : 2 ≤ n) {k : Nat} (W : Wd a σ T) (S : Sc a sc bd T0 σ) (hp : T0 <+: T) (hk : k ∈ T0) (h : Q (if bd.contains k then locV k else .none) σ) : SemCall z n 389 [.ref sc, symV (T0.idxOf k : Nat) k] σ Q X := by
  refine xEA S.ex fun sn s1 s2 => ?_
  have hlen := W.len
  have hidx : T0.idxOf k ≤ 1000 := by
    have h1 := List.idxOf_lt_length_of_mem hk
    have h2 := hp.length_le
    omega
  refine e.go (fn_Scope_bound e.zk) hn 3 (c_key_of e (lp hn rfl) hidx ?_)
  refine Exists.intro 3 (sm (at_i s1 rfl) (And.intro (isD_i s2) (sDi s2 ?_)))
  rw [find_bound hk bd S.sub]
  cases hc : bd.contains k with
  | true =>
    rw [hc] at h
    exact h
  | false =>
    rw [hc] at h
    exact sm (at_i s1 rfl) (sm (at_i W.rt rfl) (And.intro (isD_i W.rn) (sDi W.rn (sm (at_i W.rt rfl) h))))
theorem find_tail (e : Env0 z) (hn : 2 ≤ n) {s0 : V} {i : Int} {k : Nat} {u v : V} (hu : u = .none ∧ v = gloV (symV i k) ∨ u ≠ .none ∧ v = u) (h : Q v σ) :
    WB z pg n (ir_Scope_find.drop 3) X Q (fun _ σ => Q .none σ) [some s0, some (symV i k), some s0, some (symV i k), some u] σ := by
  refine Exists.intro 1 ?_
  rcases hu with ⟨rfl, rfl⟩ | ⟨hne, rfl⟩
  · exact new_GlobalName e hn h
  · exact smB (is_none' hne) (smB (is_none' hne) h)
theorem c_find_root (e : Env0 z) (hn : 3 ≤ n) {i k : Nat} (hi : i ≤ 1000) (W : Wd a σ T) (h : Q (gloV (symV i k)) σ) : SemCall z n 396 [.ref a.rt, symV i k] σ Q X := by
  refine e.go (fn_Scope_find e.zk) hn 3 (smF (mt_i W.rt rfl) (c_bound_root e (lp hn rfl) hi W ?_))
  exact find_tail e (lp hn rfl) (.inl ⟨rfl, rfl⟩) h
theorem c_find (e : Env0 z) (hn : 3 ≤ n) {k : Nat} (W : Wd a σ T) (S : Sc a sc bd T0 σ) (hp : T0 <+: T) (hk : k ∈ T0) (h : Q (if bd.contains k then locV k else gloV (symV (T0.idxOf k : Nat) k)) σ) : SemCall z n 396 [.ref sc, symV (T0.idxOf k : Nat) k] σ Q X := by
  refine xEA S.ex fun sn s1 s2 => e.go (fn_Scope_find e.zk) hn 3 (smF (mt_i s1 rfl) (c_bound e (lp hn rfl) W S hp hk ?_))
  cases hc : bd.contains k with
  | true =>
    rw [hc] at h
    exact find_tail e (lp hn rfl) (.inr ⟨nofun, rfl⟩) h
  | false =>
    rw [hc] at h
    exact find_tail e (lp hn rfl) (.inl ⟨rfl, rfl⟩) h
theorem c_sd_loc (e : Env0 z) (hn : 1 ≤ n) {k : Nat} {v : V} (h : Q (.bool false) σ) : SemCall z n 424 [locV k, gloV v] σ Q X := by
  exact e.go (fn_same_denotation e.zk) hn 0 h
theorem c_sd_glo (e : Env0 z) (hn : 1 ≤ n) {i j : Int} {k l : Nat} (h : Q (.bool (i == j)) σ) : SemCall z n 424 [gloV (symV i k), gloV (symV j l)] σ Q X := by
  exact e.go (fn_same_denotation e.zk) hn 0 h
theorem c_same (e : Env0 z) (hn : 4 ≤ n) {k l j : Nat} (hj : j ≤ 1000) (W : Wd a σ T) (S : Sc a sc bd T0 σ) (hp : T0 <+: T) (hk : k ∈ T0) (h : Q (.bool (!(bd.contains k) && ((T0.idxOf k : Int) == (j : Int)))) σ) :
    SemCall z n 431 [symV (T0.idxOf k : Nat) k, .ref sc, symV j l, .ref a.rt] σ Q X := by
  refine xEA S.ex fun sn s1 s2 => e.go (fn_same e.zk) hn 0 (smF (mt_i s1 rfl) (c_find e (lp hn rfl) W S hp hk (smF (mt_i W.rt rfl) (c_find_root e (lp hn rfl) hj W ?_))))
  cases hc : bd.contains k with
  | true =>
    rw [hc] at h
    exact c_sd_loc e (lp hn rfl) h
  | false =>
    rw [hc] at h
    exact c_sd_glo e (lp hn rfl) h
end
end Mine
end
noncomputable section
namespace Mine
mutual
noncomputable def FIn (T : List Nat) : Fm → Prop
  | .num => True
  | .str k => k ∈ T
  | .row l _ => FIns T l
noncomputable def FIns (T : List Nat) : List Fm → Prop
  | [] => True
  | a :: l => FIn T a ∧ FIns T l
end
theorem FIns.mem {T : List Nat} : ∀ {l : List Fm}, FIns T l → ∀ x ∈ l, FIn T x
  | [], _, _, h => nomatch h
  | a :: l, ⟨h1, h2⟩, x, h => by
    rcases List.mem_cons.mp h with rfl | h
    · exact h1
    · exact FIns.mem h2 x h
noncomputable def items : Fm → List Fm
  | .row l _ => l
  | _ => []
structure Dx (a : Wa) (sc : Addr) (bd T0 T : List Nat) (σ : AH) : Prop where
  W : Wd a σ T
  S : Sc a sc bd T0 σ
  p : T0 <+: T
theorem Dx.step {a : Wa} {sc : Addr} {bd T0 T T' : List Nat} {σ σ' : AH} (D : Dx a sc bd T0 T σ) (W : Wd a σ' T') (P : T <+: T') (S : Same a σ σ') : Dx a sc bd T0 T' σ' := ⟨W, D.S.same D.W S, D.p.trans P⟩
structure Fo (F : Fm) : Prop where
  ok : ∃ w d, Fok w d F ∧ (w + 3) * (d + 1) ≤ 700000
section
variable {z : Z} {n : Nat} {X : AH → Prop} {σ : AH} {Q : V → AH → Prop} {a : Wa} {T T0 bd : List Nat} {sc : Addr} {F0 : Fm}
theorem c_is_word (e : Env0 z) (hn : 6 ≤ n) {F : Fm} {k : Nat} (hk : k < strMany) (D : Dx a sc bd T0 T σ) (hF : FIn T0 F) (h : ∀ σ' T', Dx a sc bd T0 T' σ' → T <+: T' → Same a σ σ' → Q (.bool (strEq k F && !(bd.contains k))) σ') :
    SemCall z n 480 [dat T0 F, .str k, .ref sc, .ref a.w] σ Q X := by
  refine xEEE D.W.w fun l ti op hw => e.go (fn_is_word e.zk) hn 0 (c_is_identifier (T := T0) (F := F) e (lp hn rfl) ?_)
  cases F with
  | num => exact h σ T D List.prefix_rfl Same.refl
  | row l b => exact h σ T D List.prefix_rfl Same.refl
  | str j =>
    refine sm (at_i hw rfl) (smF (mt_i D.W.t rfl) (c_tab_symbol e (lp hn rfl) hk D.W fun σ' T' W' P' hk' S' => ?_))
    have D' := D.step W' P' S'
    refine xEEE (W'.w) fun l' ti' op' hw' => ?_
    have hj : j ∈ T0 := hF
    have hlen := W'.len
    have hi := List.idxOf_lt_length_of_mem hk'
    refine sm (at_i hw' rfl) (c_same (j := T'.idxOf k) (l := k) e (lp hn rfl) (by omega) W' D'.S D'.p hj ?_)
    have := h σ' T' D' P' S'
    have e1 : T0.idxOf j = T'.idxOf j := (idx_mono D'.p hj).symm
    have e2 : (!(bd.contains j) && ((T0.idxOf j : Int) == (T'.idxOf k : Int))) = (strEq k (.str j) && !(bd.contains k)) := by
      simp only [strEq]
      by_cases q : j = k
      · subst q
        rw [e1]; simp
      · have h1 : (j == k) = false := by simpa using q
        have h2 : ((T0.idxOf j : Int) == (T'.idxOf k : Int)) = false := by
          rw [e1]
          simp only [beq_eq_false_iff_ne]
          intro hh
          exact q (idxOf_inj (D'.p.subset hj) hk' (by omega))
        rw [h1, h2]; simp
    rw [e2]
    exact this
theorem c_sequence (e : Env0 z) (hn : 6 ≤ n) {ps : List V} (hp : ps ≠ []) (hl : ps.length ≤ 800000) (W : Wd a σ T) (h : Gr a σ T Q) : SemCall z n 494 [.ref a.w, .lst ps] σ Q X := by
  refine e.go (fn_sequence e.zk) hn 0 ?_
  cases ps with
  | nil => exact absurd rfl hp
  | cons x r => exact bb (fun _ => h x σ T W List.prefix_rfl Same.refl) fun _ => c_word_of e (lp hn rfl) (by decide) W fun v σ' T' W' P' S' => c_list_of1 e (lp hn rfl) (Nat.le_trans hl (by decide)) (new_Pair e (lp hn rfl) (h _ σ' T' W' P' S'))
theorem c_choice (e : Env0 z) (hn : 6 ≤ n) {x y v : V} (W : Wd a σ T) (h : Gr a σ T Q) : SemCall z n 501 [.ref a.w, x, y, v] σ Q X := by
  exact e.go (fn_choice e.zk) hn 0 (c_word_of e (lp hn rfl) (by decide) W fun v σ' T' W' P' S' => lst_frz (c_list_of1 e (lp hn rfl) (Nat.le_of_ble_eq_true rfl) (h _ σ' T' W' P' S')))
theorem c_procedure (e : Env0 z) (hn : 6 ≤ n) {x : V} {ps : List V} (hl : ps.length ≤ 800000) (W : Wd a σ T) (h : Gr a σ T Q) : SemCall z n 508 [.ref a.w, x, .lst ps] σ Q X := by
  exact e.go (fn_procedure e.zk) hn 0 (c_word_of e (lp hn rfl) (by decide) W fun v σ' T' W' P' S' => c_list_of1 e (lp hn rfl) (Nat.le_trans hl (by decide)) (new_Pair e (lp hn rfl) (new_Pair e (lp hn rfl) (h _ σ' T' W' P' S'))))
theorem c_kept (e : Env0 z) (hn : 7 ≤ n) {x y v : V} (W : Wd a σ T) (h : Gr a σ T Q) : SemCall z n 515 [.ref a.w, x, y, v] σ Q X := by
  exact e.go (fn_kept e.zk) hn 0 (lst_frz (c_list_of1 e (lp hn rfl) (Nat.le_of_ble_eq_true rfl) (lst_frz (c_procedure e (lp hn rfl) (Nat.le_of_ble_eq_true rfl) W fun v σ' T' W' P' S' => lst_frz (c_list_of1 e (lp hn rfl) (Nat.le_of_ble_eq_true rfl) (h _ σ' T' W' P' S'))))))
theorem c_case_test (e : Env0 z) (hn : 6 ≤ n) {x y : V} (W : Wd a σ T) (h : Gr a σ T Q) : SemCall z n 569 [x, y, .ref a.w] σ Q X := by
  exact e.go (fn_case_test e.zk) hn 1 (c_word_of e (lp hn rfl) (by decide) W fun v σ' T' W' P' S' => lst_frz (c_list_of1 e (lp hn rfl) (Nat.le_of_ble_eq_true rfl)
    (c_word_of e (lp hn rfl) (by decide) W' fun v σ'' T'' W'' P'' S'' => lst_frz (c_list_of1 e (lp hn rfl) (Nat.le_of_ble_eq_true rfl) (h _ σ'' T'' W'' (P'.trans P'') (S'.trans S''))))))
theorem c_split_atom (e : Env0 z) (hn : 1 ≤ n) {t : V} (ht : ∀ σ, isinstV σ (.own 149) t = some false) (h : Q (.tup [.lst [], t]) σ) : SemCall z n 189 [t] σ Q X := by
  refine e.go (fn_split_list e.zk) hn 3 ?_
  intro ad ha
  refine Exists.intro 1 (smB (ht _) (frz_l (AH.set_self ..) ?_))
  rw [AH.set_none ha]
  exact h
theorem c_strip' (e : Env0 z) (hn : 5 ≤ n) (hF : Fo F0) (h : ∀ v, Q v σ) : SemCall z n 452 [dat T0 F0] σ Q X :=
  xEEA hF.ok fun _ _ h1 h2 => c_strip e hn h1 h2 h
theorem c_inner_list (e : Env0 z) (hn : 6 ≤ n) {F : Fm} (hF : Fo F0) (hl : (items F).length ≤ 800000) (h1 : isRow F = true → Q (.lst (dats T0 (items F))) σ) (h2 : isRow F = false → X σ) : SemCall z n 473 [dat T0 F, dat T0 F0] σ Q X := by
  refine e.go (fn_inner_list e.zk) hn 2 ?_
  cases F with
  | num => exact c_split_atom e (lp hn rfl) (fun _ => rfl) (c_strip' e (lp hn rfl) hF fun v => And.intro rfl (And.intro (lp hn rfl) (h2 rfl)))
  | str k => exact c_split_atom e (lp hn rfl) (fun _ => rfl) (c_strip' e (lp hn rfl) hF fun v => And.intro rfl (And.intro (lp hn rfl) (h2 rfl)))
  | row l dot =>
    refine c_split_list e (lp hn rfl) (endV_term dot) (by rw [dats_length]; exact Nat.le_trans hl (by decide)) ?_
    cases dot with
    | true => exact c_strip' e (lp hn rfl) hF fun v => And.intro rfl (And.intro (lp hn rfl) (h2 rfl))
    | false => exact h1 rfl
theorem c_things_of (e : Env0 z) (hn : 6 ≤ n) {l : List Fm} {dot : Bool} {least : Nat} (hF : Fo (.row l dot)) (hl : l.length ≤ 800000) (h1 : dot = false → least + 1 ≤ l.length → Q (.lst (dats T0 (l.drop 1))) σ) (h2 : (dot = true ∨ l.length < least + 1) → X σ) :
    SemCall z n 466 [dat T0 (.row l dot), .int least] σ Q X := by
  refine e.go (fn_things_of e.zk) hn 2 (c_split_list e (lp hn rfl) (endV_term dot) (by rw [dats_length]; exact Nat.le_trans hl (by decide)) ?_)
  cases dot with
  | true => exact c_strip' e (lp hn rfl) hF fun v => And.intro rfl (And.intro (lp hn rfl) (h2 (.inl rfl)))
  | false =>
    refine bb (fun hs => c_strip' e (lp hn rfl) hF fun v => And.intro rfl (And.intro (lp hn rfl) (h2 (.inr ?_)))) fun hs => And.intro (by decide) (And.intro (by decide) (newL_frz (drop_le (by rw [dats_length]; exact Nat.le_trans hl (by decide))) ?_))
    · have hs := of_decide_eq_true hs
      rw [dats_length] at hs
      omega
    · have hs := of_decide_eq_false hs
      rw [dats_length] at hs
      have e1 : (dats T0 l).drop (1 : Int).toNat = dats T0 (l.drop 1) := by rw [dats_map, dats_map, List.map_drop]; rfl
      rw [e1]
      exact h1 rfl (by omega)
end
end Mine
end
noncomputable section
namespace Mine
noncomputable def Fw (w : Nat) (F : Fm) : Prop := ∃ d, Fok w d F
theorem Fw.items {w : Nat} {F : Fm} (h : Fw w F) : (items F).length ≤ w ∧ ∀ x ∈ items F, Fw w x := by
  obtain ⟨d, h⟩ := h
  cases F with
  | num => exact ⟨Nat.zero_le _, fun _ h => nomatch h⟩
  | str k => exact ⟨Nat.zero_le _, fun _ h => nomatch h⟩
  | row l b =>
    cases d with
    | zero => exact h.elim
    | succ d => exact ⟨h.1, fun x hx => ⟨d, h.2.2 x hx⟩⟩
theorem dat_get {T : List Nat} {l : List Fm} {j : Nat} {v : V} (h : (dats T l)[j]? = some v) : ∃ x, l[j]? = some x ∧ v = dat T x := by
  rw [dats_map, List.getElem?_map] at h
  refine xEA (Option.map_eq_some_iff.mp h) fun x h1 h2 => ?_
  exact ⟨x, h1, h2.symm⟩
theorem itemAt_dats {T : List Nat} {l : List Fm} {p : Nat} {x : Fm} (h : l[p]? = some x) : itemAt (dats T l) p = some (dat T x) := by
  unfold itemAt
  rw [if_pos (by omega), Int.toNat_natCast, dats_map, List.getElem?_map, h]; rfl
section
variable {z : Z} {n : Nat} {X : AH → Prop} {σ : AH} {Q : V → AH → Prop} {a : Wa} {T T0 bd : List Nat} {sc : Addr} {F0 : Fm}
theorem bindOk_row {m : Nat} {x : Fm} : bindOk m x = (isRow x && (decide (2 ≤ (items x).length) && decide ((items x).length ≤ m) && hd1 isStr (items x))) := by
  cases x with
  | num => rfl
  | str k => rfl
  | row p b => cases b <;> rfl
theorem areB_row {m : Nat} {F : Fm} : areB m F = (isRow F && (items F).all (bindOk m)) := by
  cases F with
  | num => rfl
  | str k => rfl
  | row p b => cases b <;> rfl
theorem xA' {p : Prop} {q : p → Prop} {C : Prop} (h : ∃ x : p, q x) (k : ∀ x : p, q x → C) : C := Exists.elim h k
theorem c_bindings_of (e : Env0 z) (hn : 7 ≤ n) {F : Fm} {w : Nat} (hw : w ≤ 800000) (hFw : Fw w F) (hF : Fo F0) (h1 : areB 2 F = true → ∀ ns ps : List V, ns.length = ps.length → ns.length ≤ w → Q (.tup [.lst ns, .lst ps]) σ) (h2 : areB 2 F = false → ∀ σ', X σ') :
    SemCall z n 487 [dat T0 F, dat T0 F0] σ Q X := by
  refine xA hFw.items fun fl fi => e.go (fn_bindings_of e.zk) hn 4 ?_
  intro a1 ha1
  intro a2 ha2
  have n12 : a2 ≠ a1 := by rintro rfl; rw [AH.set_self] at ha2; cases ha2
  rw [AH.set_ne n12] at ha2
  rw [areB_row] at h1 h2
  refine c_inner_list e (lp hn rfl) hF (Nat.le_trans fl hw) (fun hr => ?_) (fun hr => h2 (by rw [hr]; rfl) _)
  rw [hr, Bool.true_and] at h1 h2
  refine forN_inv (fun j ls σ' => ∃ ns ps u4 u5, ls = [some (dat T0 F), some (dat T0 F0), some (.ref a1), some (.ref a2), u4, u5] ∧ σ' = (σ.set a1 (some (.list ns))).set a2 (some (.list ps)) ∧ ns.length = j ∧ ps.length = j ∧
    (items F).all (bindOk 2) = ((items F).drop j).all (bindOk 2)) _ 0 _ _ ⟨[], [], _, _, rfl, rfl, rfl, rfl, rfl⟩ ?_ ?_
  · intro j v ls σ' K hv hI kk
    refine xEEEEAAAA hI fun ns ps u4 u5 r1 r2 hns hps hall => ?_
    subst r1; subst r2
    refine xEA (dat_get hv) fun x hx r3 => ?_
    subst r3
    refine xA' (List.getElem?_eq_some_iff.mp hx) fun hlt hxe => ?_
    rw [Nat.zero_add] at hns hps
    rw [Nat.zero_add, List.drop_eq_getElem_cons hlt, hxe, List.all_cons] at hall
    refine xA (fi x (hxe ▸ List.getElem_mem hlt)).items fun xl xi => ?_
    have bad : bindOk 2 x = false → ∀ σ', X σ' := fun q => h2 (by rw [hall, q]; rfl)
    have good : bindOk 2 x = true → ∀ u4 u5 y v, K [some (dat T0 F), some (dat T0 F0), some (.ref a1), some (.ref a2), u4, u5] ((σ.set a1 (some (.list (ns ++ [y])))).set a2 (some (.list (ps ++ [v])))) := fun q u4 u5 y v => by
      rw [q, Bool.true_and] at hall
      exact kk _ _ ⟨ns ++ [y], ps ++ [v], u4, u5, rfl, rfl, by rw [List.length_append, hns, Nat.zero_add]; rfl, by rw [List.length_append, hps, Nat.zero_add]; rfl, by rw [Nat.zero_add]; exact hall⟩
    rw [bindOk_row] at bad good
    refine c_inner_list e (lp hn rfl) hF (Nat.le_trans xl hw) (fun hxr => ?_) (fun hxr => bad (by rw [hxr]; rfl) _)
    rw [hxr, Bool.true_and] at bad good
    have raise : (decide (2 ≤ (items x).length) && decide ((items x).length ≤ 2) && hd1 isStr (items x)) = false → ∀ u5, WL z pg (n - 1) (.cons (.val (.str 27)) (.cons (.call 452 (.cons (.loc 1) .nil)) .nil)) X [some (dat T0 F), some (dat T0 F0), some (.ref a1), some (.ref a2), some (dat T0 x), u5] (fun vs σ => vs.length = 2 ∧ 3 ≤ n - 1 ∧ X σ) ((σ.set a1 (some (.list ns))).set a2 (some (.list ps))) := fun q u5 =>
      c_strip' e (lp hn rfl) hF fun v => And.intro rfl (And.intro (lp hn rfl) (bad q _))
    generalize items x = p at *
    match p with
    | [] => exact raise rfl _
    | [y] => exact raise rfl _
    | y :: y2 :: y3 :: r =>
      exact raise (by rw [decide_eq_false (show ¬ (y :: y2 :: y3 :: r).length ≤ 2 by simp only [List.length_cons]; omega), Bool.and_false]; rfl) _
    | [y, y2] =>
      have e1 : ∀ l, ((σ.set a1 (some (.list ns))).set a2 l) a1 = some (.list ns) := fun _ => (AH.set_ne (Ne.symm n12)).trans (AH.set_self ..)
      refine c_is_identifier e (lp hn rfl) (bb (fun hs => raise (not_t hs) _) fun hs => ?_)
      refine And.intro (isL_l (e1 _)) (sO (e1 _) (And.intro (by omega) ?_))
      rw [AH.set_comm n12, AH.set_set]
      refine And.intro (isL_l (AH.set_self ..)) (sO (AH.set_self ..) (And.intro (by omega) ?_))
      rw [AH.set_set]
      exact good (not_f hs) _ _ _ _
  · intro ls σ' hI
    refine xEEEEAAAA hI fun ns ps u4 u5 r1 r2 hns hps hall => ?_
    subst r1; subst r2
    rw [Nat.zero_add, dats_length] at hns hps
    rw [Nat.zero_add, dats_length, List.drop_length] at hall
    refine frz_l ((AH.set_ne (Ne.symm n12)).trans (AH.set_self ..)) ?_
    rw [AH.set_comm n12, AH.set_set, AH.set_same ha1]
    refine frz_l (AH.set_self ..) ?_
    rw [AH.set_none ha2]
    exact h1 hall ns ps (hns.trans hps.symm) (hns ▸ fl)
theorem in_23 {k : Nat} : (((2 : Int) == (k : Int)) || (((3 : Int) == (k : Int)) || false)) = (decide (2 ≤ k) && decide (k ≤ 3)) := by
  rw [Bool.eq_iff_iff]; simp; omega
theorem c_step_of (e : Env0 z) (hn : 6 ≤ n) {p : List Fm} (hF : Fo F0) (h1 : (decide (2 ≤ p.length) && decide (p.length ≤ 3) && hd1 isStr p) = true → ∀ x y v, Q (.tup [x, y, v]) σ) (h2 : (decide (2 ≤ p.length) && decide (p.length ≤ 3) && hd1 isStr p) = false → X σ) :
    SemCall z n 583 [.lst (dats T0 p), dat T0 F0] σ Q X := by
  refine e.go (fn_step_of e.zk) hn 0 ?_
  have raise : (decide (2 ≤ p.length) && decide (p.length ≤ 3) && hd1 isStr p) = false → WL z pg (n - 1) (.cons (.val (.str 27)) (.cons (.call 452 (.cons (.loc 1) .nil)) .nil)) X [some (.lst (dats T0 p)), some (dat T0 F0)] (fun vs σ => vs.length = 2 ∧ 3 ≤ n - 1 ∧ X σ) σ := fun q =>
    c_strip' e (lp hn rfl) hF fun v => And.intro rfl (And.intro (lp hn rfl) (h2 q))
  refine bb (fun hq => ?_) fun hq => ?_
  · have hq := not_t hq
    rw [in_23, dats_length] at hq
    exact raise (by rw [hq]; rfl)
  · have hq := not_f hq
    rw [in_23, dats_length] at hq
    rw [hq, Bool.true_and] at h1 raise
    have hq := of_decide_eq_true (Bool.and_eq_true_iff.mp hq).1
    match p with
    | [] => exact absurd hq (by decide)
    | [x] => exact absurd hq (Nat.not_succ_le_self 1)
    | [x, y] => exact c_is_identifier e (lp hn rfl) (bb (fun hs => raise (not_t hs)) fun hs => h1 (not_f hs) _ _ _)
    | x :: y :: v :: r => exact c_is_identifier e (lp hn rfl) (bb (fun hs => raise (not_t hs)) fun hs => bb (fun _ => h1 (not_f hs) _ _ _) fun _ => h1 (not_f hs) _ _ _)
end
end Mine
end
noncomputable section
namespace Mine
structure Do (a : Wa) (sc : Addr) (bd T0 T : List Nat) (w : Nat) (ps : List Fm) (dot : Bool) (σ : AH) : Prop where
  D : Dx a sc bd T0 T σ
  fo : Fo (.row (.str w :: ps) dot)
  fw : ∃ m, m ≤ 700000 ∧ ps.length + 1 ≤ m ∧ ∀ x ∈ ps, Fw m x
  fi : FIns T0 ps
section
variable {z : Z} {n : Nat} {X : AH → Prop} {σ : AH} {Q : V → AH → Prop} {a : Wa} {T T0 bd : List Nat} {sc : Addr} {F0 : Fm} {w : Nat} {ps : List Fm} {dot : Bool}
theorem Do.len (H : Do a sc bd T0 T w ps dot σ) : (Fm.str w :: ps).length ≤ 700000 := by
  refine xEAA (H.fw) fun m h1 h2 _ => ?_
  simp only [List.length_cons]; omega
theorem Do.len' (H : Do a sc bd T0 T w ps dot σ) : ps.length ≤ 700000 := by have := H.len; simp only [List.length_cons] at this; omega
theorem item_last {l : List V} (h : l ≠ []) : ∃ v, itemAt l (-1) = some v := ⟨l.getLast h, by
  have := itemAt_last (l := l.dropLast) (t := l.getLast h)
  rwa [List.dropLast_concat_getLast] at this⟩
theorem back_le {T : List Nat} {l : List Fm} (h : l.length ≤ 700000) : (dats T l).dropLast.reverse.length ≤ 1000000 := by
  rw [List.length_reverse, List.length_dropLast, dats_length]; omega
theorem c_do_and (e : Env0 z) (hn : 8 ≤ n) (H : Do a sc bd T0 T 7 ps dot σ) (h1 : dot = false → ∀ v σ', Q v σ') (h2 : dot = true → ∀ σ', X σ') : SemCall z n 522 [dat T0 (.row (.str 7 :: ps) dot), .ref sc, .ref a.w] σ Q X := by
  refine e.go (fn_do_and e.zk) hn 3 (c_things_of (least := 0) e (lp hn rfl) H.fo (Nat.le_trans H.len (by decide)) (fun hd _ => ?_) (fun q => ?_))
  · cases ps with
    | nil => exact h1 hd _ _
    | cons x r =>
      refine Exists.elim (item_last (l := dats T0 (x :: r)) nofun) fun v hv => sm hv ?_
      refine newL_frz (back_le H.len') ?_
      refine forN_inv (fun j ls σ' => ∃ v u T', ls = [some (dat T0 (.row (.str 7 :: x :: r) dot)), some (.ref sc), some (.ref a.w), some (.lst (dats T0 (x :: r))), some v, u] ∧ Wd a σ' T') _ 0 _ _ ⟨_, _, T, rfl, H.D.W⟩ ?_ ?_
      · intro j x ls σ' K hx hI kk
        refine xEEEA hI fun v u T' r1 W => ?_
        subst r1
        exact c_choice e (lp hn rfl) W fun v σ'' T'' W'' _ _ => kk _ _ ⟨_, _, T'', rfl, W''⟩
      · intro ls σ' hI
        refine xEEEA hI fun v u T' r1 W => ?_
        subst r1
        exact h1 hd _ _
  · exact Or.elim q (fun q => h2 q _) fun q => absurd (Nat.lt_of_succ_lt_succ q) (Nat.not_lt_zero _)
theorem c_do_or (e : Env0 z) (hn : 10 ≤ n) (H : Do a sc bd T0 T 8 ps dot σ) (h1 : dot = false → ∀ v σ', Q v σ') (h2 : dot = true → ∀ σ', X σ') : SemCall z n 529 [dat T0 (.row (.str 8 :: ps) dot), .ref sc, .ref a.w] σ Q X := by
  refine e.go (fn_do_or e.zk) hn 4 (c_things_of (least := 0) e (lp hn rfl) H.fo (Nat.le_trans H.len (by decide)) (fun hd _ => ?_) (fun q => ?_))
  · cases ps with
    | nil => exact h1 hd _ _
    | cons x r =>
      refine Exists.elim (item_last (l := dats T0 (x :: r)) nofun) fun v hv => sm hv ?_
      refine newL_frz (back_le H.len') ?_
      refine forN_inv (fun j ls σ' => ∃ v u u6 T', ls = [some (dat T0 (.row (.str 8 :: x :: r) dot)), some (.ref sc), some (.ref a.w), some (.lst (dats T0 (x :: r))), some v, u, u6] ∧ Wd a σ' T') _ 0 _ _ ⟨_, _, _, T, rfl, H.D.W⟩ ?_ ?_
      · intro j x ls σ' K hx hI kk
        refine xEEEEA hI fun v u u6 T' r1 W => ?_
        subst r1
        exact c_word_of e (lp hn rfl) (by decide) W fun nm σ1 T1 W1 _ _ => c_choice e (lp hn rfl) W1 fun v2 σ2 T2 W2 _ _ => c_kept e (lp hn rfl) W2 fun v3 σ3 T3 W3 _ _ => kk _ _ ⟨_, _, _, T3, rfl, W3⟩
      · intro ls σ' hI
        refine xEEEEA hI fun v u u6 T' r1 W => ?_
        subst r1
        exact h1 hd _ _
  · exact Or.elim q (fun q => h2 q _) fun q => absurd (Nat.lt_of_succ_lt_succ q) (Nat.not_lt_zero _)
theorem c_do_delay (e : Env0 z) (hn : 8 ≤ n) (H : Do a sc bd T0 T 6 ps dot σ) (h1 : dot = false → ps.length = 1 → ∀ v σ', Q v σ') (h2 : (dot = true ∨ ps.length ≠ 1) → ∀ σ', X σ') : SemCall z n 597 [dat T0 (.row (.str 6 :: ps) dot), .ref sc, .ref a.w] σ Q X := by
  refine e.go (fn_do_delay e.zk) hn 1 (c_things_of (least := 1) e (lp hn rfl) H.fo (Nat.le_trans H.len (by decide)) (fun hd hl => bb (fun hq => ?_) fun hq => ?_) (fun q => ?_))
  · have hq := ne_of_beq_false (not_t hq)
    rw [dats_length] at hq
    exact c_strip' e (lp hn rfl) H.fo fun v => And.intro rfl (And.intro (lp hn rfl) (h2 (.inr fun q => hq (congrArg Nat.cast q)) _))
  · have hq := eq_of_beq (not_f hq)
    rw [dats_length] at hq
    exact c_word_of e (lp hn rfl) (by decide) H.D.W fun nm σ1 T1 W1 _ _ => c_procedure e (lp hn rfl) (by rw [dats_length]; exact Nat.le_trans H.len' (by decide)) W1 fun v2 σ2 T2 W2 _ _ => lst_frz (c_list_of1 e (lp hn rfl) (Nat.le_of_ble_eq_true rfl) (h1 hd (Int.ofNat_inj.mp hq) _ _))
  · exact Or.elim q (fun q => h2 (.inl q) _) fun q => h2 (.inr fun w => by rw [List.length_cons, w] at q; exact absurd q (by decide)) _
end
end Mine
end
noncomputable section
namespace Mine
section
variable {z : Z} {n : Nat} {X : AH → Prop} {σ : AH} {Q : V → AH → Prop} {a : Wa} {T T0 bd : List Nat} {sc : Addr} {F0 : Fm} {w : Nat} {ps : List Fm} {dot : Bool}
theorem right_short {w : Nat} (hw : w = 0 ∨ w = 1 ∨ w = 2 ∨ w = 4 ∨ w = 5) (q : dot = true ∨ ps.length < 2) : right bd w ps dot = false := by
  rcases q with q | q
  · rw [q]; rfl
  · unfold right partsOk
    rw [if_neg (by omega), if_neg (by omega), if_neg (by omega), if_pos (by omega)]
    simp
theorem short_of {w : Nat} {k : Nat} (q : dot = true ∨ (Fm.str w :: ps).length < k + 1) : dot = true ∨ ps.length < k := by
  rcases q with q | q
  · exact .inl q
  · simp only [List.length_cons] at q; exact .inr (by omega)
theorem two_of {f : Fm} {ps : List Fm} (h : 2 + 1 ≤ (f :: ps).length) : ∃ x y r, ps = x :: y :: r := by
  match ps, h with
  | x :: y :: r, _ => exact ⟨x, y, r, rfl⟩
  | [x], h => exact absurd (show 3 ≤ 2 from h) (by decide)
  | [], h => exact absurd (show 3 ≤ 1 from h) (by decide)
theorem not_short {x y : Fm} {r : List Fm} : ¬ (x :: y :: r).length < 2 := by simp only [List.length_cons]; omega
theorem right_let {x y : Fm} {r : List Fm} : right bd 0 (x :: y :: r) false = if isStr x = true then decide (2 < (x :: y :: r).length) && areB 2 y else areB 2 x := by
  unfold right partsOk
  rw [if_neg (by decide), if_neg (by decide), if_neg (by decide), if_neg not_short, if_neg (by decide), if_neg (by decide)]
  by_cases hs : isStr x = true
  · rw [if_pos ⟨rfl, hs⟩, if_pos hs]; rfl
  · rw [if_neg (fun q => hs q.2), if_neg hs]; rfl
theorem right_12 {w : Nat} (hw : w = 1 ∨ w = 2) {x y : Fm} {r : List Fm} : right bd w (x :: y :: r) false = areB 2 x := by
  unfold right partsOk
  rcases hw with rfl | rfl
  · rw [if_neg (by decide), if_neg (by decide), if_neg (by decide), if_neg not_short, if_neg (by decide), if_neg (by decide), if_neg (fun q => absurd q.1 (by decide))]; rfl
  · rw [if_neg (by decide), if_neg (by decide), if_neg (by decide), if_neg not_short, if_neg (by decide), if_neg (by decide), if_neg (fun q => absurd q.1 (by decide))]; rfl
theorem dd {T : List Nat} {l : List Fm} {k b : Nat} (h : l.length ≤ 700000) (hb : Nat.ble 700000 b = true := by rfl) : ((dats T l).drop k).length ≤ b := by
  rw [List.length_drop, dats_length]; exact Nat.le_trans (Nat.sub_le ..) (Nat.le_trans h (Nat.le_of_ble_eq_true hb))
theorem l9 {m k b : Nat} (h : m ≤ k) (h2 : k ≤ 700000) (hb : Nat.ble 700000 b = true := by rfl) : m ≤ b := Nat.le_trans h (Nat.le_trans h2 (Nat.le_of_ble_eq_true hb))
theorem item_of {l : List V} {p : Nat} (h : p < l.length) : ∃ v, itemAt l (p : Int) = some v := ⟨_, item_at h⟩
theorem down_of {m j : Nat} {v : V} (h : (downV ((m : Int) - 1 - 1 + 1).toNat)[j]? = some v) : ∃ p : Nat, v = .int p ∧ p < m := by
  have h1 := (List.getElem?_eq_some_iff.mp h).1
  have h2 := downV_get h
  rw [downV_length] at h1
  exact ⟨m - 2 - j, h2.trans (congrArg V.int (by omega)), by omega⟩
theorem c_do_let (e : Env0 z) (hn : 9 ≤ n) (H : Do a sc bd T0 T 0 ps dot σ) (h1 : right bd 0 ps dot = true → ∀ v σ', Q v σ') (h2 : right bd 0 ps dot = false → ∀ σ', X σ') : SemCall z n 536 [dat T0 (.row (.str 0 :: ps) dot), .ref sc, .ref a.w] σ Q X := by
  have hl' := H.len'
  refine e.go (fn_do_let e.zk) hn 5 (c_things_of (least := 2) e (lp hn rfl) H.fo (Nat.le_trans H.len (by decide)) (fun hd hl => ?_) (fun q => h2 (right_short (.inl rfl) (short_of q)) _))
  subst hd
  refine xEEE (two_of hl) fun x y r hps => ?_
  subst hps
  rw [right_let] at h1 h2
  refine xEAA H.fw fun m hm1 hm2 hm3 => c_is_identifier e (lp hn rfl) (bb (fun hs => ?_) fun hs => ?_)
  · rw [not_t hs, if_neg Bool.false_ne_true] at h1 h2
    exact c_bindings_of (w := m) e (lp hn rfl) (l9 (Nat.le_refl m) hm1) (hm3 x (.head _)) H.fo (fun hb ns gs hng hnm => c_list_of1 e (lp hn rfl) (l9 hnm hm1) (And.intro (by decide) (And.intro (by decide) (newL_frz (dd hl') (c_procedure e (lp hn rfl) (dd hl') H.D.W fun v2 σ2 T2 W2 _ _ =>
      c_list_of1 e (lp hn rfl) (l9 (hng ▸ hnm) hm1) (new_Pair e (lp hn rfl) (h1 hb _ _))))))) (fun hb => h2 hb)
  · rw [not_f hs, if_pos rfl] at h1 h2
    refine bb (fun h3 => c_strip' e (lp hn rfl) H.fo fun v => And.intro rfl (And.intro (lp hn rfl) (h2 ?_ _))) fun h3 => ?_
    · have h3 := of_decide_eq_true h3
      rw [dats_length] at h3
      have h3 : (((x :: y :: r).length : Nat) : Int) < 3 := h3
      rw [decide_eq_false (fun q => by have q := Int.ofNat_lt.mpr q; omega), Bool.false_and]
    · have h3 := of_decide_eq_false h3
      rw [dats_length] at h3
      rw [decide_eq_true (show 2 < (x :: y :: r).length from Nat.lt_of_not_le fun q => h3 (Int.ofNat_lt.mpr (Nat.lt_succ_of_le q))), Bool.true_and] at h1 h2
      refine c_bindings_of (w := m) e (lp hn rfl) (l9 (Nat.le_refl m) hm1) (hm3 y (.tail _ (.head _))) H.fo (fun hb ns gs hng hnm => ?_) (fun hb => h2 hb)
      refine c_list_of1 e (lp hn rfl) (l9 hnm hm1) (And.intro (by decide) (And.intro (by decide) (newL_frz (dd hl') (c_procedure e (lp hn rfl) (dd hl') H.D.W fun v2 σ2 T2 W2 _ _ => lst_frz (c_list_of1 e (lp hn rfl) (Nat.le_of_ble_eq_true rfl) ?_)))))
      refine c_word_of e (lp hn rfl) (by decide) W2 fun nm σ3 T3 W3 _ _ => lst_frz (c_list_of1 e (lp hn rfl) (Nat.le_of_ble_eq_true rfl) (lst_frz (c_list_of1 e (lp hn rfl) (Nat.le_of_ble_eq_true rfl) ?_)))
      exact c_list_of1 e (lp hn rfl) (l9 (hng ▸ hnm) hm1) (new_Pair e (lp hn rfl) (h1 hb _ _))
theorem c_do_let_star (e : Env0 z) (hn : 9 ≤ n) (H : Do a sc bd T0 T 1 ps dot σ) (h1 : right bd 1 ps dot = true → ∀ v σ', Q v σ') (h2 : right bd 1 ps dot = false → ∀ σ', X σ') : SemCall z n 543 [dat T0 (.row (.str 1 :: ps) dot), .ref sc, .ref a.w] σ Q X := by
  have hl' := H.len'
  refine e.go (fn_do_let_star e.zk) hn 6 (c_things_of (least := 2) e (lp hn rfl) H.fo (Nat.le_trans H.len (by decide)) (fun hd hl => ?_) (fun q => h2 (right_short (.inr (.inl rfl)) (short_of q)) _))
  subst hd
  refine xEEE (two_of hl) fun x y r hps => ?_
  subst hps
  rw [right_12 (.inl rfl)] at h1 h2
  refine xEAA H.fw fun m hm1 hm2 hm3 => c_bindings_of (w := m) e (lp hn rfl) (l9 (Nat.le_refl m) hm1) (hm3 x (.head _)) H.fo (fun hb ns gs hng hnm => bb (fun hq => ?_) fun hq => ?_) (fun hb => h2 hb)
  · exact And.intro (by decide) (And.intro (by decide) (newL_frz (dd hl') (c_procedure e (lp hn rfl) (dd hl') H.D.W fun v2 σ2 T2 W2 _ _ => lst_frz (c_list_of1 e (lp hn rfl) (Nat.le_of_ble_eq_true rfl) (h1 hb _ _)))))
  · have hq := ne_of_beq_false hq
    have hn0 : 0 < ns.length := Nat.pos_of_ne_zero fun q => hq (congrArg Nat.cast q)
    have hnb := l9 (b := 700000) hnm hm1
    have hc : (ns.length : Int) - 1 = ((ns.length - 1 : Nat) : Int) := by omega
    refine Exists.elim (item_of (l := ns) (p := ns.length - 1) (Nat.sub_lt hn0 (by decide))) fun v1 hv1 => Exists.elim (item_of (l := gs) (p := ns.length - 1) (hng ▸ Nat.sub_lt hn0 (by decide))) fun v2 hv2 => ?_
    rw [← hc] at hv1 hv2
    refine sm hv1 (lst_frz (c_list_of1 e (lp hn rfl) (Nat.le_of_ble_eq_true rfl) (And.intro (by decide) (And.intro (by decide) (newL_frz (dd hl') (c_procedure e (lp hn rfl) (dd hl') H.D.W fun v3 σ2 T2 W2 _ _ => sm hv2 (lst_frz (c_list_of1 e (lp hn rfl) (Nat.le_of_ble_eq_true rfl) ?_))))))))
    refine And.intro (by omega) (And.intro (by omega) ?_)
    refine forN_inv (fun j ls σ' => ∃ v u T', ls = [some (dat T0 (.row (.str 1 :: x :: y :: r) false)), some (.ref sc), some (.ref a.w), some (.lst (dats T0 (x :: y :: r))), some (.lst ns), some (.lst gs), some (.int ((ns.length : Int) - 1)), some v, u] ∧ Wd a σ' T') _ 0 _ _ ⟨_, _, T2, rfl, W2⟩ ?_ ?_
    · intro j vv ls σ' K hx hI kk
      refine xEEEA hI fun v u T' r1 W => ?_
      subst r1
      refine xEA (down_of hx) fun p r2 hlt => ?_
      subst r2
      exact Exists.elim (item_of hlt) fun v4 hv4 => Exists.elim (item_of (hng ▸ hlt)) fun v5 hv5 => sm hv4 (lst_frz (c_list_of1 e (lp hn rfl) (Nat.le_of_ble_eq_true rfl) (lst_frz (c_procedure e (lp hn rfl) (Nat.le_of_ble_eq_true rfl) W fun v6 σ6 T6 W6 _ _ => sm hv5 (lst_frz (c_list_of1 e (lp hn rfl) (Nat.le_of_ble_eq_true rfl) (kk _ _ ⟨_, _, T6, rfl, W6⟩)))))))
    · intro ls σ' hI
      refine xEEEA hI fun v u T' r1 W => ?_
      subst r1
      exact h1 hb _ _
theorem c_do_letrec (e : Env0 z) (hn : 9 ≤ n) (H : Do a sc bd T0 T 2 ps dot σ) (h1 : right bd 2 ps dot = true → ∀ v σ', Q v σ') (h2 : right bd 2 ps dot = false → ∀ σ', X σ') : SemCall z n 548 [dat T0 (.row (.str 2 :: ps) dot), .ref sc, .ref a.w] σ Q X := by
  have hl' := H.len'
  refine e.go (fn_do_letrec e.zk) hn 7 (c_things_of (least := 2) e (lp hn rfl) H.fo (Nat.le_trans H.len (by decide)) (fun hd hl => ?_) (fun q => h2 (right_short (.inr (.inr (.inl rfl))) (short_of q)) _))
  subst hd
  refine xEEE (two_of hl) fun x y r hps => ?_
  subst hps
  rw [right_12 (.inr rfl)] at h1 h2
  refine xEAA H.fw fun m hm1 hm2 hm3 => c_bindings_of (w := m) e (lp hn rfl) (l9 (Nat.le_refl m) hm1) (hm3 x (.head _)) H.fo (fun hb ns gs hng hnm => ?_) (fun hb => h2 hb)
  refine And.intro (by decide) (And.intro (by decide) (newL_frz (dd hl') (c_procedure e (lp hn rfl) (dd hl') H.D.W fun v2 σ2 T2 W2 _ _ => lst_frz (c_list_of1 e (lp hn rfl) (Nat.le_of_ble_eq_true rfl) (bb (fun hq => h1 hb _ _) fun hq => ?_)))))
  refine compN_inv (fun j acc σ' => acc.length = j ∧ ∃ T', Wd a σ' T') _ 0 _ _ ⟨rfl, T2, W2⟩ ?_ ?_
  · intro j v acc σ' P hv hI kk
    refine xAE hI fun hj T' W => ?_
    refine xEEAA (zipV_get hv) fun u1 u2 g1 g2 r1 => ?_
    subst r1
    exact c_word_of e (lp hn rfl) (by decide) W fun nm σ3 T3 W3 _ _ => lst_frz (c_list_of1 e (lp hn rfl) (Nat.le_of_ble_eq_true rfl) (kk _ _ ⟨by rw [List.length_append, hj]; rfl, T3, W3⟩))
  · intro acc σ' hI
    refine xAE hI fun hj T' W => ?_
    rw [Nat.zero_add, zipV_length] at hj
    have hacc : acc.length ≤ 700000 := by have := l9 (b := 700000) hnm hm1; omega
    refine And.intro (l9 hacc (Nat.le_refl _)) fun b hb0 => lst_frz ?_
    have W' : Wd a (σ'.set b (some (.list acc))) T' := by
      refine xEEE W.w fun l ti op hw => ?_
      exact ⟨⟨l, ti, op, (AH.set_ne (ne_of_none hw hb0)).trans hw⟩, (AH.set_ne (ne_of_none W.t hb0)).trans W.t, (AH.set_ne (ne_of_none W.rw hb0)).trans W.rw, (AH.set_ne (ne_of_none W.bt hb0)).trans W.bt,
          (AH.set_ne (ne_of_none W.rt hb0)).trans W.rt, (AH.set_ne (ne_of_none W.rn hb0)).trans W.rn, W.nd, W.sm⟩
    have hap : ∀ u : V, (acc ++ [u]).length ≤ 700001 := fun u => by rw [List.length_append]; exact Nat.succ_le_succ hacc
    exact sLL (listAt_l (AH.set_self ..)) rfl (newL_frz (Nat.le_trans (hap _) (by decide)) (c_procedure e (lp hn rfl) (Nat.le_trans (hap _) (by decide)) W' fun v4 σ4 T4 W4 _ _ => lst_frz (c_list_of1 e (lp hn rfl) (Nat.le_of_ble_eq_true rfl) (h1 hb _ _))))
end
end Mine
end
noncomputable section
namespace Mine
theorem areC_drop {w : Nat} {bd : List Nat} : ∀ {l : List Fm} (k : Nat), areC w bd l = true → areC w bd (l.drop k) = true
  | _, 0, h => h
  | [], _ + 1, _ => rfl
  | c :: r, k + 1, h => by
    simp only [areC, Bool.and_eq_true] at h
    exact areC_drop k h.2
section
variable {z : Z} {n : Nat} {X : AH → Prop} {σ : AH} {Q : V → AH → Prop} {a : Wa} {T T0 bd : List Nat} {sc : Addr} {F0 : Fm} {w : Nat} {ps : List Fm} {dot : Bool}
noncomputable def GrD (a : Wa) (sc : Addr) (bd T0 T : List Nat) (σ : AH) (Q : V → AH → Prop) : Prop := ∀ v σ' T', Dx a sc bd T0 T' σ' → T <+: T' → Same a σ σ' → Q v σ'
theorem is_none_any {σ : AH} (v : V) : ∃ b, cmpV pg.pairC σ .is v .none = some b := by
  by_cases h : v = .none
  · subst h; exact ⟨true, rfl⟩
  · exact ⟨false, is_none' h⟩
theorem bil {z : Z} {g : Pg} {n : Nat} {X : AH → Prop} {ls : Ls} {t : Bool} {u w : V} {i : Nat} {F : V → AH → Prop} {σ : AH} (hw : ls[i]? = some (some w)) (q : ∀ v, F v σ) : (match V.bool t with
    | .bool true => WE z g n (.val u) X ls F σ
    | .bool false => WE z g n (.loc i) X ls F σ
    | _ => False : Prop) := by
  cases t with
  | true => exact q u
  | false =>
    show (match ls[i]? with
      | some (some v) => F v σ
      | _ => False)
    rw [hw]; exact q w
theorem c_cond_clause (e : Env0 z) (hn : 9 ≤ n) {c : Fm} {m : Nat} {rest : V} (hm : m ≤ 700000) (hc : Fw m c) (hi : FIn T0 c) (hF : Fo F0) (D : Dx a sc bd T0 T σ)
    (h1 : (isRow c && (decide (1 ≤ (items c).length) && !(decide (1 < (items c).length) && (hd1 (strEq 15) ((items c).drop 1) && (!(bd.contains 15) && decide ((items c).length ≠ 3)))))) = true → GrD a sc bd T0 T σ Q)
    (h2 : (isRow c && (decide (1 ≤ (items c).length) && !(decide (1 < (items c).length) && (hd1 (strEq 15) ((items c).drop 1) && (!(bd.contains 15) && decide ((items c).length ≠ 3)))))) = false → ∀ σ', X σ') :
    SemCall z n 555 [dat T0 c, rest, dat T0 F0, .ref sc, .ref a.w] σ Q X := by
  refine xA hc.items fun cl1 cl2 => e.go (fn_cond_clause e.zk) hn 3 (c_inner_list e (lp hn rfl) hF (l9 cl1 hm) (fun hr => ?_) (fun hr => h2 (by rw [hr]; rfl) _))
  rw [hr, Bool.true_and] at h1 h2
  have hin : FIns T0 (items c) := by
    cases c with
    | row l b => exact hi
    | num => trivial
    | str k => trivial
  have cl1 := Nat.le_trans cl1 hm
  generalize items c = p at *
  cases p with
  | nil => exact c_strip' e (lp hn rfl) hF fun v => And.intro rfl (And.intro (lp hn rfl) (h2 rfl _))
  | cons y q =>
    refine Exists.elim (is_none_any (σ := σ) rest) fun bn hbn => ?_
    cases q with
    | nil =>
      refine smB hbn ?_
      exact bb (fun _ => h1 rfl _ σ T D List.prefix_rfl Same.refl) fun _ => c_word_of e (lp hn rfl) (by decide) D.W fun nm σ1 T1 W1 P1 S1 => c_choice e (lp hn rfl) W1 fun v2 σ2 T2 W2 P2 S2 => c_kept e (lp hn rfl) W2 fun v3 σ3 T3 W3 P3 S3 =>
        h1 rfl _ σ3 T3 (((D.step W1 P1 S1).step W2 P2 S2).step W3 P3 S3) ((P1.trans P2).trans P3) ((S1.trans S2).trans S3)
    | cons y2 q =>
      have hx : (decide (1 ≤ (y :: y2 :: q).length) && !(decide (1 < (y :: y2 :: q).length) && (hd1 (strEq 15) ((y :: y2 :: q).drop 1) && (!(bd.contains 15) && decide ((y :: y2 :: q).length ≠ 3))))) = !((strEq 15 y2 && !(bd.contains 15)) && decide ((y :: y2 :: q).length ≠ 3)) := by
        rw [decide_eq_true (show 1 ≤ (y :: y2 :: q).length from Nat.succ_le_succ (Nat.zero_le _)), decide_eq_true (show 1 < (y :: y2 :: q).length from Nat.succ_le_succ (Nat.succ_le_succ (Nat.zero_le _))), Bool.and_assoc]; rfl
      rw [hx] at h1 h2
      refine smB hbn ?_
      refine bil (w := rest) rfl fun bh => ?_
      refine c_is_word e (lp hn rfl) (by decide) D (hin.mem y2 (.tail _ (.head _))) fun σ1 T1 D1 P1 S1 => bb (fun hw => ?_) fun hw => ?_
      · rw [hw, Bool.true_and] at h1 h2
        match q with
        | [] => exact c_strip' e (lp hn rfl) hF fun v => And.intro rfl (And.intro (lp hn rfl) (h2 rfl _))
        | [y3] =>
          exact c_word_of e (lp hn rfl) (by decide) D1.W fun nm σ2 T2 W2 P2 S2 => lst_frz (c_list_of1 e (lp hn rfl) (Nat.le_of_ble_eq_true rfl) (c_choice e (lp hn rfl) W2 fun v3 σ3 T3 W3 P3 S3 => c_kept e (lp hn rfl) W3 fun v4 σ4 T4 W4 P4 S4 =>
            h1 rfl _ σ4 T4 (((D1.step W2 P2 S2).step W3 P3 S3).step W4 P4 S4) (((P1.trans P2).trans P3).trans P4) (((S1.trans S2).trans S3).trans S4)))
        | y3 :: y4 :: r => exact c_strip' e (lp hn rfl) hF fun v => And.intro rfl (And.intro (lp hn rfl) (h2 (by rw [decide_eq_true (fun q => by simp only [List.length_cons] at q; omega)]; rfl) _))
      · rw [hw, Bool.false_and] at h1
        exact And.intro (by decide) (And.intro (by decide) (newL_frz (dd cl1) (c_sequence e (lp hn rfl) (List.cons_ne_nil _ _) (dd cl1) D1.W fun v2 σ2 T2 W2 P2 S2 => c_choice e (lp hn rfl) W2 fun v3 σ3 T3 W3 P3 S3 =>
          h1 rfl _ σ3 T3 ((D1.step W2 P2 S2).step W3 P3 S3) ((P1.trans P2).trans P3) ((S1.trans S2).trans S3))))
end
end Mine
end
noncomputable section
namespace Mine
section
variable {z : Z} {n : Nat} {X : AH → Prop} {σ : AH} {Q : V → AH → Prop} {a : Wa} {T T0 bd : List Nat} {sc : Addr} {F0 : Fm} {w : Nat} {ps : List Fm} {dot : Bool}
theorem down_at {T : List Nat} {l : List Fm} {j : Nat} {v : V} (h : (downV (((dats T l).length : Int) - 1 + 1).toNat)[j]? = some v) : ∃ p : Nat, p + j + 1 = l.length ∧ v = .int p := by
  refine xA (down_get h) fun hlt hv => ⟨l.length - 1 - j, ?_, ?_⟩
  · rw [dats_length] at hlt; omega
  · rw [hv, dats_length]
theorem down_lo {m : Nat} : -1 ≤ (m : Int) - 1 := by omega
theorem down_hi {T : List Nat} {l : List Fm} (h : l.length ≤ 700000) : ((dats T l).length : Int) - 1 ≤ 1000000 := by rw [dats_length]; omega
theorem right_cond (h : 0 < ps.length) : right bd 3 ps false = areC 3 bd ps := by
  unfold right partsOk
  rw [if_neg (by decide), if_neg (by decide), if_pos rfl, decide_eq_true h]; rfl
theorem last_iff {p j m : Nat} (h : p + j + 1 = m) {l : List Fm} (hl : l.length = m) : (l.drop (p + 1)).isEmpty = ((p : Int) == (m : Int) - 1) := by
  rw [Bool.eq_iff_iff, List.isEmpty_iff, List.drop_eq_nil_iff, beq_iff_eq, hl]; omega
theorem items_in {T : List Nat} {c : Fm} (h : FIn T c) : FIns T (items c) := by
  cases c with
  | row l b => exact h
  | num => trivial
  | str k => trivial
theorem clOk_row {w : Nat} {last : Bool} {c : Fm} : clOk w bd last c = (isRow c && (if (items c).length < (if w = 3 then 1 else 2) then false
    else if hd1 (strEq 14) (items c) && !(bd.contains 14) then last && decide (2 ≤ (items c).length)
    else if w = 4 then hd1 isRow (items c)
    else !(decide (1 < (items c).length) && (hd1 (strEq 15) ((items c).drop 1) && (!(bd.contains 15) && decide ((items c).length ≠ 3)))))) := by
  cases c with
  | num => rfl
  | str k => rfl
  | row p b => cases b <;> rfl
theorem c_do_cond (e : Env0 z) (hn : 11 ≤ n) (H : Do a sc bd T0 T 3 ps dot σ) (h1 : right bd 3 ps dot = true → ∀ v σ', Q v σ') (h2 : right bd 3 ps dot = false → ∀ σ', X σ') : SemCall z n 562 [dat T0 (.row (.str 3 :: ps) dot), .ref sc, .ref a.w] σ Q X := by
  have hl' := H.len'
  refine xEAA H.fw fun m hm1 hm2 hm3 => e.go (fn_do_cond e.zk) hn 4 (c_things_of (least := 1) e (lp hn rfl) H.fo (Nat.le_trans H.len (by decide)) (fun hd hl => ?_) (fun q => h2 ?_ _))
  · subst hd
    rw [right_cond (Nat.le_of_succ_le_succ hl)] at h1 h2
    refine And.intro down_lo (And.intro (down_hi hl') ?_)
    refine forN_inv (fun j ls σ' => ∃ v u5 u6 T', ls = [some (dat T0 (.row (.str 3 :: ps) false)), some (.ref sc), some (.ref a.w), some (.lst (dats T0 ps)), some v, u5, u6] ∧ Dx a sc bd T0 T' σ' ∧ areC 3 bd (ps.drop (ps.length - j)) = true) _ 0 _ _ ⟨_, _, _, T, rfl, H.D, by rw [Nat.sub_zero, List.drop_length]; rfl⟩ ?_ ?_
    · intro j vv ls σ' K hx hI kk
      refine xEEEEAA hI fun v u5 u6 T' r1 D hok => ?_
      subst r1
      refine xEA (down_at (l := ps) hx) fun p hp r2 => ?_
      subst r2
      have hlt : p < ps.length := by omega
      rw [Nat.zero_add, show ps.length - j = p + 1 by omega] at hok
      have hdr : ps.drop p = ps[p] :: ps.drop (p + 1) := List.drop_eq_getElem_cons hlt
      have hget : ps[p]? = some ps[p] := List.getElem?_eq_getElem hlt
      have hmem : ps[p] ∈ ps := List.getElem_mem hlt
      generalize hc : ps[p] = c at hdr hget hmem
      have bad : clOk 3 bd (ps.drop (p + 1)).isEmpty c = false → ∀ σ', X σ' := fun q => h2 (by
        cases hh : areC 3 bd ps with
        | false => rfl
        | true =>
          have := areC_drop p hh
          rw [hdr, areC, q, Bool.false_and] at this; cases this)
      have good : clOk 3 bd (ps.drop (p + 1)).isEmpty c = true → ∀ v u5 u6 T' σ', Dx a sc bd T0 T' σ' → K [some (dat T0 (.row (.str 3 :: ps) false)), some (.ref sc), some (.ref a.w), some (.lst (dats T0 ps)), some v, u5, u6] σ' := fun q v u5 u6 T' σ' D' =>
        kk _ _ ⟨v, u5, u6, T', rfl, D', by rw [show ps.length - (0 + j + 1) = p by omega, hdr, areC, q, hok]; rfl⟩
      have hcw := hm3 c hmem
      have hin := items_in (H.fi.mem c hmem)
      refine xA hcw.items fun cl1 cl2 => ?_
      have cl1 := Nat.le_trans cl1 hm1
      rw [clOk_row] at bad good
      have kp : itemAt (dats T0 ps) (p : Int) = some (dat T0 c) := itemAt_dats hget
      refine sm kp (c_inner_list e (lp hn rfl) H.fo (Nat.le_trans cl1 (by decide)) (fun hr => ?_) (fun hr => bad (by rw [hr]; rfl) _))
      have clause : (hd1 (strEq 14) (items c) && !(bd.contains 14)) = false → ∀ T1 σ1, Dx a sc bd T0 T1 σ1 → ∀ Q' : V → AH → Prop, (∀ v2 σ2, (∀ u5 u6, K [some (dat T0 (.row (.str 3 :: ps) false)), some (.ref sc), some (.ref a.w), some (.lst (dats T0 ps)), some v2, u5, u6] σ2) → Q' v2 σ2) → SemCall z (n - 1) 555 [dat T0 c, v, dat T0 (.row (.str 3 :: ps) false), .ref sc, .ref a.w] σ1 Q' X := fun hne T1 σ1 D1 Q' kq => by
        rw [hr, Bool.true_and, hne, if_neg Bool.false_ne_true, if_neg (show ¬ (3 : Nat) = 4 by decide), if_pos rfl] at bad good
        have key : ∀ y : Bool, (isRow c && (decide (1 ≤ (items c).length) && y)) = (if (items c).length < 1 then false else y) := fun y => by
          rw [hr, Bool.true_and]
          by_cases h0 : (items c).length < 1
          · rw [if_pos h0, decide_eq_false (Nat.not_le_of_lt h0), Bool.false_and]
          · rw [if_neg h0, decide_eq_true (Nat.le_of_not_lt h0), Bool.true_and]
        exact c_cond_clause (m := m) e (lp hn rfl) hm1 hcw (H.fi.mem c hmem) H.fo D1 (fun hk v2 σ2 T2 D2 _ _ => kq v2 σ2 fun u5 u6 => good ((key _).symm.trans hk) _ _ _ _ _ D2) (fun hk => bad ((key _).symm.trans hk))
      have hdl : (dats T0 (items c)).length = (items c).length := dats_length ..
      cases hyq : items c with
      | nil =>
        exact sm kp (clause (by rw [hyq]; rfl) T' σ' D _ fun v2 σ2 k => k _ _)
      | cons y q =>
        rw [hyq] at clause bad good hin cl1
        refine bt (decide_eq_true (Int.natCast_pos.mpr (Nat.succ_pos _))) ?_
        refine c_is_word e (lp hn rfl) (by decide) D (hin.mem y (.head _)) fun σ1 T1 D1 P1 S1 => bb (fun hw => ?_) fun hw => sm kp (clause hw T1 σ1 D1 _ fun v2 σ2 k => k _ _)
        have hel : (hd1 (strEq 14) (y :: q) && !(bd.contains 14)) = true := hw
        rw [hr, Bool.true_and, if_neg (show ¬ (y :: q).length < (if (3 : Nat) = 3 then 1 else 2) from fun h => by rw [if_pos rfl] at h; exact absurd h (Nat.not_lt_of_le (Nat.succ_le_succ (Nat.zero_le _)))), hel, if_pos rfl] at bad good
        have raise : ((ps.drop (p + 1)).isEmpty && decide (2 ≤ (y :: q).length)) = false → WL z pg (n - 1) (.cons (.val (.str 28)) (.cons (.call 452 (.cons (.loc 0) .nil)) .nil)) X [some (dat T0 (.row (.str 3 :: ps) false)), some (.ref sc), some (.ref a.w), some (.lst (dats T0 ps)), some v, some (.int p), some (.lst (dats T0 (y :: q)))] (fun vs σ => vs.length = 2 ∧ 3 ≤ n - 1 ∧ X σ) σ1 := fun q =>
          c_strip' e (lp hn rfl) H.fo fun v => And.intro rfl (And.intro (lp hn rfl) (bad q _))
        rw [last_iff hp rfl] at raise good
        refine bb (fun hq => raise ?_) fun hq => ?_
        · have hq := not_t hq
          rw [dats_length] at hq
          have hq : ((p : Int) == (ps.length : Int) - 1) = false := hq
          rw [hq]; rfl
        · have hq := not_f hq
          rw [dats_length] at hq
          have hq : ((p : Int) == (ps.length : Int) - 1) = true := hq
          rw [hq, Bool.true_and] at raise good
          cases q with
          | nil => exact raise rfl
          | cons y2 q =>
            have h22 : 2 ≤ (y :: y2 :: q).length := Nat.succ_le_succ (Nat.succ_le_succ (Nat.zero_le _))
            exact And.intro (by decide) (And.intro (by decide) (newL_frz (dd cl1) (c_sequence e (lp hn rfl) (List.cons_ne_nil _ _) (dd cl1) D1.W fun v2 σ2 T2 W2 P2 S2 => good (decide_eq_true h22) _ _ _ _ _ (D1.step W2 P2 S2))))
    · intro ls σ' hI
      refine xEEEEAA hI fun v u5 u6 T' r1 D hok => ?_
      subst r1
      rw [dats_length] at hok
      have hok : areC 3 bd (ps.drop (ps.length - (0 + (downV ((ps.length : Int) - 1 + 1).toNat).length))) = true := hok
      rw [down_len] at hok
      exact h1 hok _ _
  · unfold right partsOk
    rcases q with q | q
    · rw [q]; rfl
    · have q : ps.length = 0 := Nat.le_zero.mp (Nat.le_of_lt_succ (Nat.lt_of_succ_lt_succ q))
      rw [if_neg (by decide), if_neg (by decide), if_pos rfl, q]
      cases dot <;> rfl
end
end Mine
end
noncomputable section
namespace Mine
section
variable {z : Z} {n : Nat} {X : AH → Prop} {σ : AH} {Q : V → AH → Prop} {a : Wa} {T T0 bd : List Nat} {sc : Addr} {F0 : Fm} {w : Nat} {ps : List Fm} {dot : Bool}
theorem c_do_case (e : Env0 z) (hn : 11 ≤ n) (H : Do a sc bd T0 T 4 ps dot σ) (h1 : right bd 4 ps dot = true → ∀ v σ', Q v σ') (h2 : right bd 4 ps dot = false → ∀ σ', X σ') : SemCall z n 576 [dat T0 (.row (.str 4 :: ps) dot), .ref sc, .ref a.w] σ Q X := by
  have hl' := H.len'
  refine xEAA H.fw fun m hm1 hm2 hm3 => e.go (fn_do_case e.zk) hn 6 (c_things_of (least := 2) e (lp hn rfl) H.fo (Nat.le_trans H.len (by decide)) (fun hd hl => ?_) (fun q => h2 (right_short (.inr (.inr (.inr (.inl rfl)))) (short_of q)) _))
  subst hd
  refine xEEE (two_of hl) fun x c0 cs0 hps => ?_
  have hcs : (c0 :: cs0).length ≤ 700000 := by rw [hps] at hl'; exact Nat.le_of_succ_le hl'
  generalize c0 :: cs0 = cs at hps hcs
  subst hps
  have er : right bd 4 (x :: cs) false = areC 4 bd cs := by
    have : ¬ (x :: cs).length < 2 := fun q => absurd (Nat.succ_lt_succ q) (Nat.not_lt_of_le hl)
    unfold right partsOk
    rw [if_neg (by decide), if_neg (by decide), if_neg (by decide), if_neg this, if_pos rfl]
    rfl
  rw [er] at h1 h2
  refine And.intro (by decide) (And.intro (by decide) (newL_frz (dd hl') (c_word_of e (lp hn rfl) (by decide) H.D.W fun nm σ0 T1 W1 P1 S1 => And.intro down_lo (And.intro (down_hi hcs) ?_))))
  refine forN_inv (fun j ls σ' => ∃ v u7 u8 T', ls = [some (dat T0 (.row (.str 4 :: x :: cs) false)), some (.ref sc), some (.ref a.w), some (.lst (dats T0 (x :: cs))), some (.lst (dats T0 cs)), some nm, some v, u7, u8] ∧ Dx a sc bd T0 T' σ' ∧ areC 4 bd (cs.drop (cs.length - j)) = true) _ 0 _ _ ⟨_, _, _, T1, rfl, H.D.step W1 P1 S1, by rw [Nat.sub_zero, List.drop_length]; rfl⟩ ?_ ?_
  · intro j vv ls σ' K hx hI kk
    refine xEEEEAA hI fun v u7 u8 T' r1 D hok => ?_
    subst r1
    refine xEA (down_at (l := cs) hx) fun p hp r2 => ?_
    subst r2
    have hlt : p < cs.length := by omega
    rw [Nat.zero_add, show cs.length - j = p + 1 by omega] at hok
    have hdr : cs.drop p = cs[p] :: cs.drop (p + 1) := List.drop_eq_getElem_cons hlt
    have hget : cs[p]? = some cs[p] := List.getElem?_eq_getElem hlt
    have hmem : cs[p] ∈ cs := List.getElem_mem hlt
    generalize hc : cs[p] = c at hdr hget hmem
    have bad : clOk 4 bd (cs.drop (p + 1)).isEmpty c = false → ∀ σ', X σ' := fun q => h2 (by
      cases hh : areC 4 bd cs with
      | false => rfl
      | true =>
        have := areC_drop p hh
        rw [hdr, areC, q, Bool.false_and] at this; cases this)
    have good : clOk 4 bd (cs.drop (p + 1)).isEmpty c = true → ∀ v u7 u8 T' σ', Dx a sc bd T0 T' σ' → K [some (dat T0 (.row (.str 4 :: x :: cs) false)), some (.ref sc), some (.ref a.w), some (.lst (dats T0 (x :: cs))), some (.lst (dats T0 cs)), some nm, some v, u7, u8] σ' := fun q v u7 u8 T' σ' D' =>
      kk _ _ ⟨v, u7, u8, T', rfl, D', by rw [show cs.length - (0 + j + 1) = p by omega, hdr, areC, q, hok]; rfl⟩
    have hcw := hm3 c (.tail _ hmem)
    have hin := items_in (H.fi.mem c (.tail _ hmem))
    refine xA hcw.items fun cl1 cl2 => ?_
    have cl1 := Nat.le_trans cl1 hm1
    rw [clOk_row] at bad good
    have kp : itemAt (dats T0 cs) (p : Int) = some (dat T0 c) := itemAt_dats hget
    refine sm kp (c_inner_list e (lp hn rfl) H.fo (Nat.le_trans cl1 (by decide)) (fun hr => ?_) (fun hr => bad (by rw [hr]; rfl) _))
    rw [hr, Bool.true_and] at bad good
    match hit : items c with
    | [] =>
      rw [hit] at bad
      exact c_strip' e (lp hn rfl) H.fo fun v => And.intro rfl (And.intro (lp hn rfl) (bad rfl _))
    | [y] =>
      rw [hit] at bad
      exact c_strip' e (lp hn rfl) H.fo fun v => And.intro rfl (And.intro (lp hn rfl) (bad rfl _))
    | y :: y2 :: q =>
      rw [hit] at bad good hin cl1 cl2
      have h22 : 2 ≤ (y :: y2 :: q).length := Nat.succ_le_succ (Nat.succ_le_succ (Nat.zero_le _))
      rw [if_neg (show ¬ (y :: y2 :: q).length < (if (4 : Nat) = 3 then 1 else 2) from fun h => absurd h (Nat.not_lt_of_le h22))] at bad good
      refine c_is_word e (lp hn rfl) (by decide) D (hin.mem y (.head _)) fun σ1 T2 D2 P2 S2 => bb (fun hw => ?_) fun hw => ?_
      · have hel : (hd1 (strEq 14) (y :: y2 :: q) && !(bd.contains 14)) = true := hw
        rw [hel, if_pos rfl, last_iff hp rfl, decide_eq_true h22, Bool.and_true] at bad good
        refine bb (fun hq => c_strip' e (lp hn rfl) H.fo fun v => And.intro rfl (And.intro (lp hn rfl) (bad ?_ _))) fun hq => ?_
        · have hq := not_t hq
          rw [dats_length] at hq
          exact hq
        · have hq := not_f hq
          rw [dats_length] at hq
          exact And.intro (by decide) (And.intro (by decide) (newL_frz (dd cl1) (c_sequence e (lp hn rfl) (List.cons_ne_nil _ _) (dd cl1) D2.W fun v2 σ2 T3 W3 P3 S3 => good hq _ _ _ _ _ (D2.step W3 P3 S3))))
      · have hel : (hd1 (strEq 14) (y :: y2 :: q) && !(bd.contains 14)) = false := hw
        rw [hel, if_neg Bool.false_ne_true, if_pos rfl] at bad good
        refine xA (cl2 y (.head _)).items fun yl1 yl2 => c_inner_list e (lp hn rfl) H.fo (l9 yl1 hm1) (fun hr2 => ?_) (fun hr2 => bad hr2 _)
        exact c_case_test e (lp hn rfl) D2.W fun v2 σ2 T3 W3 P3 S3 => And.intro (by decide) (And.intro (by decide) (newL_frz (dd cl1) (c_sequence e (lp hn rfl) (List.cons_ne_nil _ _) (dd cl1) W3 fun v3 σ3 T4 W4 P4 S4 =>
          c_choice e (lp hn rfl) W4 fun v4 σ4 T5 W5 P5 S5 => good hr2 _ _ _ _ _ (((D2.step W3 P3 S3).step W4 P4 S4).step W5 P5 S5))))
  · intro ls σ' hI
    refine xEEEEAA hI fun v u7 u8 T' r1 D hok => ?_
    subst r1
    have hok : areC 4 bd (cs.drop (cs.length - (0 + (downV (((dats T0 cs).length : Int) - 1 + 1).toNat).length))) = true := hok
    rw [dats_length, down_len] at hok
    exact c_kept e (lp hn rfl) D.W fun v2 σ2 T3 W3 P3 S3 => h1 hok _ _
end
end Mine
end
noncomputable section
namespace Mine
structure Off (a : Wa) (b : Addr) : Prop where
  w : b ≠ a.w
  t : b ≠ a.t
  rw : b ≠ a.rw
  bt : b ≠ a.bt
  rt : b ≠ a.rt
  rn : b ≠ a.rn
theorem Wd.off {a : Wa} {σ : AH} {T : List Nat} (W : Wd a σ T) {b : Addr} (h : σ b = none) : Off a b := by
  refine xEEE (W.w) fun l ti op hw => ?_
  exact ⟨(ne_of_none hw h).symm, (ne_of_none W.t h).symm, (ne_of_none W.rw h).symm, (ne_of_none W.bt h).symm, (ne_of_none W.rt h).symm, (ne_of_none W.rn h).symm⟩
theorem Wd.put {a : Wa} {σ : AH} {T : List Nat} (W : Wd a σ T) {b : Addr} (h : Off a b) (o : Option O) : Wd a (σ.set b o) T := by
  refine xEEE (W.w) fun l ti op hw => ?_
  exact ⟨⟨l, ti, op, by rw [AH.set_ne h.w.symm]; exact hw⟩, by rw [AH.set_ne h.t.symm]; exact W.t, by rw [AH.set_ne h.rw.symm]; exact W.rw, by rw [AH.set_ne h.bt.symm]; exact W.bt,
    by rw [AH.set_ne h.rt.symm]; exact W.rt, by rw [AH.set_ne h.rn.symm]; exact W.rn, W.nd, W.sm⟩
theorem Same.at' {a : Wa} {σ σ' : AH} (S : Same a σ σ') {b : Addr} (h : Off a b) : σ' b = σ b := S b h.w h.rw h.bt
section
variable {z : Z} {n : Nat} {X : AH → Prop} {σ : AH} {Q : V → AH → Prop} {a : Wa} {T T0 bd : List Nat} {sc : Addr} {F0 : Fm} {w : Nat} {ps : List Fm} {dot : Bool}
noncomputable def three (σ : AH) (b1 b2 b3 : Addr) (l1 l2 l3 : List V) : AH := ((σ.set b1 (some (.list l1))).set b2 (some (.list l2))).set b3 (some (.list l3))
theorem xEEEEEEEAAAAA {T0 T1 T2 T3 T4 T5 T6 : Type} {p7 : T0 → T1 → T2 → T3 → T4 → T5 → T6 → Prop} {p8 : T0 → T1 → T2 → T3 → T4 → T5 → T6 → Prop} {p9 : T0 → T1 → T2 → T3 → T4 → T5 → T6 → Prop} {p10 : T0 → T1 → T2 → T3 → T4 → T5 → T6 → Prop} {p11 : T0 → T1 → T2 → T3 → T4 → T5 → T6 → Prop} {p12 : T0 → T1 → T2 → T3 → T4 → T5 → T6 → Prop} {C : Prop} (h : ∃ x0, ∃ x1, ∃ x2, ∃ x3, ∃ x4, ∃ x5, ∃ x6, p7 x0 x1 x2 x3 x4 x5 x6 ∧ p8 x0 x1 x2 x3 x4 x5 x6 ∧ p9 x0 x1 x2 x3 x4 x5 x6 ∧ p10 x0 x1 x2 x3 x4 x5 x6 ∧ p11 x0 x1 x2 x3 x4 x5 x6 ∧ p12 x0 x1 x2 x3 x4 x5 x6) (k : ∀ x0, ∀ x1, ∀ x2, ∀ x3, ∀ x4, ∀ x5, ∀ x6, p7 x0 x1 x2 x3 x4 x5 x6 → p8 x0 x1 x2 x3 x4 x5 x6 → p9 x0 x1 x2 x3 x4 x5 x6 → p10 x0 x1 x2 x3 x4 x5 x6 → p11 x0 x1 x2 x3 x4 x5 x6 → p12 x0 x1 x2 x3 x4 x5 x6 → C) : C := by
  obtain ⟨x0, x1, x2, x3, x4, x5, x6, h7, h8, h9, h10, h11, h12⟩ := h
  exact k x0 x1 x2 x3 x4 x5 x6 h7 h8 h9 h10 h11 h12
theorem right_do {x y : Fm} {r : List Fm} : right bd 5 (x :: y :: r) false = (areB 3 x && (isRow y && decide (0 < (items y).length))) := by
  unfold right partsOk
  rw [if_neg (by decide), if_neg (by decide), if_neg (by decide), if_neg not_short, if_neg (by decide), if_pos rfl]
  cases y with
  | num => rfl
  | str k => rfl
  | row p b => cases b <;> rfl
theorem dd1 {T : List Nat} {l : List Fm} {k b : Nat} {u : V} (h : l.length ≤ 700000) (hb : Nat.ble 700001 b = true := by rfl) : ((dats T l).drop k ++ [u]).length ≤ b := by
  rw [List.length_append, List.length_drop, dats_length]; exact Nat.le_trans (Nat.succ_le_succ (Nat.le_trans (Nat.sub_le ..) h)) (Nat.le_of_ble_eq_true hb)
theorem dd2 {T : List Nat} {l : List Fm} {k b : Nat} {u : V} (h : l.length ≤ 700000) (hb : Nat.ble 700001 b = true := by rfl) : ([u] ++ (dats T l).drop k).length ≤ b := by
  rw [List.length_append, List.length_drop, dats_length, Nat.add_comm]; exact Nat.le_trans (Nat.succ_le_succ (Nat.le_trans (Nat.sub_le ..) h)) (Nat.le_of_ble_eq_true hb)
theorem c_do_do (e : Env0 z) (hn : 11 ≤ n) (H : Do a sc bd T0 T 5 ps dot σ) (h1 : right bd 5 ps dot = true → ∀ v σ', Q v σ') (h2 : right bd 5 ps dot = false → ∀ σ', X σ') : SemCall z n 590 [dat T0 (.row (.str 5 :: ps) dot), .ref sc, .ref a.w] σ Q X := by
  have hl' := H.len'
  refine xEAA H.fw fun m hm1 hm2 hm3 => e.go (fn_do_do e.zk) hn 15 (c_things_of (least := 2) e (lp hn rfl) H.fo (Nat.le_trans H.len (by decide)) (fun hd hl => ?_) (fun q => h2 (right_short (.inr (.inr (.inr (.inr rfl)))) (short_of q)) _))
  subst hd
  refine xEEE (two_of hl) fun x y r hps => ?_
  subst hps
  rw [right_do] at h1 h2
  intro b1 hb1
  intro b2 hb2
  have n21 : b2 ≠ b1 := by rintro rfl; rw [AH.set_self] at hb2; cases hb2
  rw [AH.set_ne n21] at hb2
  intro b3 hb3
  have n32 : b3 ≠ b2 := by rintro rfl; rw [AH.set_self] at hb3; cases hb3
  rw [AH.set_ne n32] at hb3
  have n31 : b3 ≠ b1 := by rintro rfl; rw [AH.set_self] at hb3; cases hb3
  rw [AH.set_ne n31] at hb3
  have g1 : ∀ l1 l2 l3, three σ b1 b2 b3 l1 l2 l3 b1 = some (.list l1) := fun l1 l2 l3 => by unfold three; rw [AH.set_ne n31.symm, AH.set_ne n21.symm, AH.set_self]
  have g2 : ∀ l1 l2 l3, three σ b1 b2 b3 l1 l2 l3 b2 = some (.list l2) := fun l1 l2 l3 => by unfold three; rw [AH.set_ne n32.symm, AH.set_self]
  have g3 : ∀ l1 l2 l3, three σ b1 b2 b3 l1 l2 l3 b3 = some (.list l3) := fun l1 l2 l3 => by unfold three; rw [AH.set_self]
  have s1 : ∀ l1 l2 l3 l, (three σ b1 b2 b3 l1 l2 l3).set b1 (some (.list l)) = three σ b1 b2 b3 l l2 l3 := fun l1 l2 l3 l => by
    unfold three; rw [AH.set_comm n31, AH.set_comm n21, AH.set_set]
  have s2 : ∀ l1 l2 l3 l, (three σ b1 b2 b3 l1 l2 l3).set b2 (some (.list l)) = three σ b1 b2 b3 l1 l l3 := fun l1 l2 l3 l => by
    unfold three; rw [AH.set_comm n32, AH.set_set]
  have s3 : ∀ l1 l2 l3 l, (three σ b1 b2 b3 l1 l2 l3).set b3 (some (.list l)) = three σ b1 b2 b3 l1 l2 l := fun l1 l2 l3 l => by
    unfold three; rw [AH.set_set]
  have o1 := H.D.W.off hb1
  have o2 := H.D.W.off hb2
  have o3 := H.D.W.off hb3
  refine xA (hm3 x (.head _)).items fun xl xi => ?_
  refine xA (hm3 y (.tail _ (.head _))).items fun yl yi => ?_
  have yl := Nat.le_trans yl hm1
  rw [areB_row] at h1 h2
  refine c_inner_list e (lp hn rfl) H.fo (l9 xl hm1) (fun hr => ?_) (fun hr => h2 (by rw [hr]; rfl) _)
  rw [hr, Bool.true_and] at h1 h2
  refine forN_inv (fun j ls σ' => ∃ l1 l2 l3 u7 u8 u9 u10, ls = [some (dat T0 (.row (.str 5 :: x :: y :: r) false)), some (.ref sc), some (.ref a.w), some (.lst (dats T0 (x :: y :: r))), some (.ref b1), some (.ref b2), some (.ref b3), u7, u8, u9, u10, none, none, none, none, none, none, none] ∧ σ' = three σ b1 b2 b3 l1 l2 l3 ∧ l1.length = j ∧ l2.length = j ∧ l3.length = j ∧
    (items x).all (bindOk 3) = ((items x).drop j).all (bindOk 3)) _ 0 _ _ ⟨[], [], [], _, _, _, _, rfl, rfl, rfl, rfl, rfl, rfl⟩ ?_ ?_
  · intro j v ls σ' K hv hI kk
    refine xEEEEEEEAAAAA hI fun l1 l2 l3 u7 u8 u9 u10 q1 q2 hj1 hj2 hj3 hall => ?_
    subst q1; subst q2
    refine xEA (dat_get hv) fun c hc q3 => ?_
    subst q3
    refine xA' (List.getElem?_eq_some_iff.mp hc) fun hlt hce => ?_
    rw [Nat.zero_add] at hj1 hj2 hj3
    rw [Nat.zero_add, List.drop_eq_getElem_cons hlt, hce, List.all_cons] at hall
    refine xA (xi c (hce ▸ List.getElem_mem hlt)).items fun cl ci => ?_
    have hj : j < 1000000 := Nat.lt_of_lt_of_le hlt (l9 xl hm1)
    have bad : bindOk 3 c = false → ∀ σ', X σ' := fun q => h2 (by rw [hall, q]; rfl)
    have hap : ∀ (l : List V) (u : V), l.length = j → (l ++ [u]).length = 0 + j + 1 := fun l u h => by rw [List.length_append, h, Nat.zero_add]; rfl
    have good : bindOk 3 c = true → ∀ u7 u8 u9 u10 t1 t2 t3, K [some (dat T0 (.row (.str 5 :: x :: y :: r) false)), some (.ref sc), some (.ref a.w), some (.lst (dats T0 (x :: y :: r))), some (.ref b1), some (.ref b2), some (.ref b3), u7, u8, u9, u10, none, none, none, none, none, none, none] (three σ b1 b2 b3 (l1 ++ [t1]) (l2 ++ [t2]) (l3 ++ [t3])) := fun q u7 u8 u9 u10 t1 t2 t3 => by
      rw [q, Bool.true_and] at hall
      exact kk _ _ ⟨_, _, _, _, _, _, _, rfl, rfl, hap _ _ hj1, hap _ _ hj2, hap _ _ hj3, by rw [Nat.zero_add]; exact hall⟩
    rw [bindOk_row] at bad good
    refine c_inner_list e (lp hn rfl) H.fo (l9 cl hm1) (fun hcr => ?_) (fun hcr => bad (by rw [hcr]; rfl) _)
    rw [hcr, Bool.true_and] at bad good
    refine c_step_of e (lp hn rfl) H.fo (fun q t1 t2 t3 => ?_) (fun q => bad q _)
    refine And.intro (isL_l (g1 _ _ _)) (sO (g1 _ _ _) (And.intro (hj1 ▸ hj) ?_))
    rw [s1]
    refine And.intro (isL_l (g2 _ _ _)) (sO (g2 _ _ _) (And.intro (hj2 ▸ hj) ?_))
    rw [s2]
    refine And.intro (isL_l (g3 _ _ _)) (sO (g3 _ _ _) (And.intro (hj3 ▸ hj) ?_))
    rw [s3]
    exact good q _ _ _ _ _ _ _
  · intro ls σ' hI
    refine xEEEEEEEAAAAA hI fun l1 l2 l3 u7 u8 u9 u10 q1 q2 hj1 hj2 hj3 hall => ?_
    subst q1; subst q2
    rw [Nat.zero_add, dats_length] at hj1 hj2 hj3
    rw [Nat.zero_add, dats_length, List.drop_length] at hall
    rw [hall, show ([] : List Fm).all (bindOk 3) = true from rfl, Bool.true_and] at h1 h2
    have W0 : Wd a (three σ b1 b2 b3 l1 l2 l3) T := ((H.D.W.put o1 _).put o2 _).put o3 _
    have r1 := g1 l1 l2 l3
    have r2 := g2 l1 l2 l3
    have r3 := g3 l1 l2 l3
    have xl := l9 (b := 700000) xl hm1
    generalize three σ b1 b2 b3 l1 l2 l3 = τ at *
    refine c_inner_list e (lp hn rfl) H.fo (Nat.le_trans yl (by decide)) (fun hry => ?_) (fun hry => h2 (by rw [hry]; rfl) _)
    rw [hry, Bool.true_and] at h1 h2
    cases hy : items y with
    | nil =>
      rw [hy] at h2
      exact c_strip' e (lp hn rfl) H.fo fun v => And.intro rfl (And.intro (lp hn rfl) (h2 rfl _))
    | cons y0 yr =>
      have fin := h1 (by rw [hy]; exact decide_eq_true (Nat.succ_pos _))
      rw [hy] at yl
      refine c_word_of e (lp hn rfl) (by decide) W0 fun turn σ1 T1 W1 _ S1 => ?_
      have W1' := W1.put o3 none
      have p1 : (σ1.set b3 none) b1 = some (.list l1) := (AH.set_ne n31.symm).trans ((S1.at' o1).trans r1)
      have p2 : (σ1.set b3 none) b2 = some (.list l2) := (AH.set_ne n32.symm).trans ((S1.at' o2).trans r2)
      refine And.intro (by decide) (And.intro (by decide) (newL_frz (dd hl') (frz_l ((S1.at' o3).trans r3) ?_)))
      refine c_list_of1 e (lp hn rfl) (l9 (hj3 ▸ xl) (Nat.le_refl _)) (new_Pair e (lp hn rfl) (lst_frz (newL_frz (dd1 hl') ?_)))
      refine c_sequence e (lp hn rfl) (fun q => absurd (List.append_eq_nil_iff.mp q).2 (List.cons_ne_nil _ _)) (dd1 hl') W1' fun again σ2 T2 W2 _ S2 => ?_
      refine c_word_of e (lp hn rfl) (by decide) W2 fun wif σ3 T3 W3 _ S3 => lst_frz (c_list_of1 e (lp hn rfl) (Nat.le_of_ble_eq_true rfl) (lst_frz (And.intro (by decide) (And.intro (by decide) (newL_frz (dd yl) (newL_frz (dd2 yl) ?_))))))
      refine c_sequence e (lp hn rfl) nofun (dd2 yl) W3 fun told σ4 T4 W4 _ S4 => ?_
      have S14 := (S2.trans S3).trans S4
      have W4' := W4.put o1 none
      have q2' : (σ4.set b1 none) b2 = some (.list l2) := (AH.set_ne n21).trans ((S14.at' o2).trans p2)
      refine frz_l ((S14.at' o1).trans p1) (c_list_of1 e (lp hn rfl) (l9 (hj1 ▸ xl) (Nat.le_refl _)) ?_)
      refine c_choice e (lp hn rfl) W4' fun ch σ5 T5 W5 _ S5 => lst_frz ?_
      refine c_procedure e (lp hn rfl) (Nat.le_of_ble_eq_true rfl) W5 fun lp0 σ6 T6 W6 _ S6 => ?_
      refine lst_frz (c_list_of1 e (lp hn rfl) (Nat.le_of_ble_eq_true rfl) (lst_frz (c_list_of1 e (lp hn rfl) (Nat.le_of_ble_eq_true rfl) ?_)))
      refine c_word_of e (lp hn rfl) (by decide) W6 fun wl σ7 T7 W7 _ S7 => ?_
      exact frz_l ((((S5.trans S6).trans S7).at' o2).trans q2') (c_list_of1 e (lp hn rfl) (l9 (hj2 ▸ xl) (Nat.le_refl _)) (new_Pair e (lp hn rfl) (lst_frz (c_list_of1 e (lp hn rfl) (Nat.le_of_ble_eq_true rfl) (fin _ _)))))
end
end Mine
end
noncomputable section
namespace Mine
section
variable {z : Z} {n : Nat} {X : AH → Prop} {σ : AH} {Q : V → AH → Prop} {a : Wa} {T T0 bd : List Nat} {sc : Addr} {F0 : Fm} {w : Nat} {ps : List Fm} {dot : Bool}
theorem right_78 {w : Nat} (h : w = 7 ∨ w = 8) : right bd w ps dot = !dot := by
  unfold right partsOk; rw [if_pos h, Bool.and_true]
@[elab_as_elim] theorem nat9 {P : Nat → Prop} {w : Nat} (h : w < 9) (h0 : P 0) (h1 : P 1) (h2 : P 2) (h3 : P 3) (h4 : P 4) (h5 : P 5) (h6 : P 6) (h7 : P 7) (h8 : P 8) : P w := by
  match w, h with
  | 0, _ => exact h0
  | 1, _ => exact h1
  | 2, _ => exact h2
  | 3, _ => exact h3
  | 4, _ => exact h4
  | 5, _ => exact h5
  | 6, _ => exact h6
  | 7, _ => exact h7
  | 8, _ => exact h8
theorem right_6 : right bd 6 ps dot = (!dot && decide (ps.length = 1)) := by
  unfold right partsOk; rw [if_neg (by decide), if_pos rfl]
theorem c_law_turned (e : Env0 z) (hn : 12 ≤ n) (hw : w < 9) (H : Do a sc bd T0 T w ps dot σ) (h1 : right bd w ps dot = true → ∀ v σ', Q v σ') (h2 : right bd w ps dot = false → ∀ σ', X σ') : SemCall z n 774 [.str w, dat T0 (.row (.str w :: ps) dot), .ref sc, .ref a.w] σ Q X := by
  revert H h1 h2
  refine nat9 hw ?_ ?_ ?_ ?_ ?_ ?_ ?_ ?_ ?_ <;> intro H h1 h2
  · exact e.go (fn_law_turned e.zk) hn 0 (c_do_let e (lp hn rfl) H h1 h2)
  · exact e.go (fn_law_turned e.zk) hn 0 (c_do_let_star e (lp hn rfl) H h1 h2)
  · exact e.go (fn_law_turned e.zk) hn 0 (c_do_letrec e (lp hn rfl) H h1 h2)
  · exact e.go (fn_law_turned e.zk) hn 0 (c_do_cond e (lp hn rfl) H h1 h2)
  · exact e.go (fn_law_turned e.zk) hn 0 (c_do_case e (lp hn rfl) H h1 h2)
  · exact e.go (fn_law_turned e.zk) hn 0 (c_do_do e (lp hn rfl) H h1 h2)
  · rw [right_6] at h1 h2
    exact e.go (fn_law_turned e.zk) hn 0 (c_do_delay e (lp hn rfl) H (fun q q2 => h1 (by rw [q, q2]; rfl)) (fun q => h2 (Or.elim q (fun q => by rw [q]; rfl) (fun q => by rw [decide_eq_false q, Bool.and_false]))))
  · rw [right_78 (.inl rfl)] at h1 h2
    exact e.go (fn_law_turned e.zk) hn 0 (c_do_and e (lp hn rfl) H (fun q => h1 (by rw [q]; rfl)) (fun q => h2 (by rw [q]; rfl)))
  · rw [right_78 (.inr rfl)] at h1 h2
    exact e.go (fn_law_turned e.zk) hn 0 (c_do_or e (lp hn rfl) H (fun q => h1 (by rw [q]; rfl)) (fun q => h2 (by rw [q]; rfl)))
theorem c_law_is_let (e : Env0 z) (hn : 13 ≤ n) (hw : w < 9) (H : Do a sc bd T0 T w ps dot σ) (h : ∀ σ', Q (.bool (right bd w ps dot)) σ') : SemCall z n 781 [.str w, dat T0 (.row (.str w :: ps) dot), .ref sc, .ref a.w] σ Q X := by
  exact e.go (fn_law_is_let e.zk) hn 0 (c_law_turned e (lp hn rfl) hw H (fun q _ σ' => by have := h σ'; rw [q] at this; exact this) (fun q σ' => by have := h σ'; rw [q] at this; exact this))
mutual
theorem FIn.grow {T T' : List Nat} (p : T <+: T') : ∀ {F : Fm}, FIn T F → FIn T' F
  | .num, _ => trivial
  | .str _, h => p.subset h
  | .row l _, h => FIns.grow p (l := l) h
theorem FIns.grow {T T' : List Nat} (p : T <+: T') : ∀ {l : List Fm}, FIns T l → FIns T' l
  | [], _ => trivial
  | _ :: _, h => ⟨FIn.grow p h.1, FIns.grow p h.2⟩
end
mutual
theorem dat_grow {T T' : List Nat} (p : T <+: T') : ∀ {F : Fm}, FIn T F → dat T' F = dat T F
  | .num, _ => rfl
  | .str k, h => by simp only [dat]; rw [idx_mono p h]
  | .row l _, h => by simp only [dat]; rw [dats_grow p (l := l) h]
theorem dats_grow {T T' : List Nat} (p : T <+: T') : ∀ {l : List Fm}, FIns T l → dats T' l = dats T l
  | [], _ => rfl
  | a :: l, h => by simp only [dats]; rw [dat_grow p h.1, dats_grow p h.2]
end
theorem FIns.append {T : List Nat} {r : List Fm} : ∀ {l : List Fm}, FIns T l → FIns T r → FIns T (l ++ r)
  | [], _, h => h
  | _ :: _, h, h' => ⟨h.1, FIns.append h.2 h'⟩
theorem dats_append {T : List Nat} (l r : List Fm) : dats T (l ++ r) = dats T l ++ dats T r := by simp only [dats_map, List.map_append]
theorem c_law_datum (e : Env0 z) {wd : Nat} (hwd : wd ≤ 800000) : ∀ (d : Nat) {n : Nat} {X : AH → Prop} {σ : AH} {Q : V → AH → Prop} {T : List Nat} {F : Fm}, d + 6 ≤ n → Fok wd d F → Wd a σ T → (∀ σ' T', Wd a σ' T' → T <+: T' → Same a σ σ' → FIn T' F → Q (dat T' F) σ') →
    SemCall z n 762 [enc F, .ref a.w] σ Q X := by
  intro d
  induction d with
  | zero =>
    intro n X σ Q T F hn hF W h
    cases F with
    | num => exact e.go (fn_law_datum e.zk) hn 1 (h σ T W List.prefix_rfl Same.refl trivial)
    | str k => exact xEEE W.w fun l ti op hw => e.go (fn_law_datum e.zk) hn 1 (smF (mt_i hw rfl) (c_symbol e (lp hn rfl) hF W fun σ' T' W' P' m' S' => h σ' T' W' P' S' m'))
    | row l dot => exact hF.elim
  | succ d ih =>
    intro n X σ Q T F hn hF W h
    cases F with
    | num => exact e.go (fn_law_datum e.zk) hn 1 (h σ T W List.prefix_rfl Same.refl trivial)
    | str k => exact xEEE W.w fun l ti op hw => e.go (fn_law_datum e.zk) hn 1 (smF (mt_i hw rfl) (c_symbol e (lp hn rfl) hF W fun σ' T' W' P' m' S' => h σ' T' W' P' S' m'))
    | row l dot =>
      revert hF; refine yAA fun f1 f2 f3 => e.go (fn_law_datum e.zk) hn 1 ?_
      refine compN_inv (fun j acc σ' => ∃ T', Wd a σ' T' ∧ T <+: T' ∧ Same a σ σ' ∧ acc = dats T' (l.take j) ∧ FIns T' (l.take j)) _ 0 _ _ ⟨T, W, List.prefix_rfl, Same.refl, rfl, trivial⟩ ?_ ?_
      · intro j v acc σ' P hv hI kk
        refine xEAAAA hI fun T' W' P' S' r1 hin => ?_
        subst r1
        refine xEAA (encs_get hv) fun x r2 hx hd => ?_
        subst r2
        rw [Nat.zero_add] at hin
        refine ih (by omega) (f3 x (List.mem_of_getElem? hx)) W' fun σ2 T2 W2 P2 S2 h2 => ?_
        have ht : l.take (0 + j + 1) = l.take j ++ [x] := by rw [Nat.zero_add, List.take_add_one, hx]; rfl
        exact kk _ _ ⟨T2, W2, P'.trans P2, S'.trans S2, by rw [ht, dats_append, dats_grow P2 hin, Nat.zero_add]; rfl, by rw [ht]; exact (hin.grow P2).append ⟨h2, trivial⟩⟩
      · intro acc σ' hI
        refine xEAAAA hI fun T' W' P' S' r1 hin => ?_
        subst r1
        rw [Nat.zero_add, encs_length, List.take_length] at hin ⊢
        have hl : (dats T' l).length ≤ 800000 := by rw [dats_length]; exact Nat.le_trans f1 hwd
        refine newL_frz (Nat.le_trans hl (by decide)) ?_
        have fin := h σ' T' W' P' S' hin
        cases dot with
        | true => exact c_list_of2 e (lp hn rfl) (Nat.le_trans hl (by decide)) fin
        | false => exact c_list_of2 e (lp hn rfl) (Nat.le_trans hl (by decide)) fin
theorem c_law_told (e : Env0 z) {wd : Nat} (hwd : wd ≤ 800000) : ∀ (d : Nat) {n : Nat} {X : AH → Prop} {σ : AH} {Q : V → AH → Prop} {F : Fm}, d + 6 ≤ n → Fok wd d F → Q (enc F) σ → SemCall z n 767 [dat T F] σ Q X := by
  intro d
  induction d with
  | zero =>
    intro n X σ Q F hn hF h
    cases F with
    | num => exact e.go (fn_law_told e.zk) hn 3 h
    | str k => exact e.go (fn_law_told e.zk) hn 3 h
    | row l dot => exact hF.elim
  | succ d ih =>
    intro n X σ Q F hn hF h
    cases F with
    | num => exact e.go (fn_law_told e.zk) hn 3 h
    | str k => exact e.go (fn_law_told e.zk) hn 3 h
    | row l dot =>
      revert hF; refine yAA fun f1 f2 f3 => e.go (fn_law_told e.zk) hn 3 ?_
      have hl := Nat.le_trans f1 hwd
      have rest : WB z pg (n - 1) (.cons (.unpack false [1, 2] (.call 189 (.cons (.loc 0) .nil))) (.cons (.ret (.tup (.cons (.val (.str 16)) (.cons (.frz (.comp (.call 767 (.cons (.loc 3) .nil)) 3 (.seq (.loc 1)))) (.cons (.ite (.cmp .is (.loc 2) (.val (.stat 44))) (.val .none) (.loc 2)) .nil))))) .nil)) X Q (fun _ σ => Q .none σ) [some (chn (dats T l) (endV dot)), none, none, none] σ := by
        refine c_split_list e (lp hn rfl) (endV_term dot) (by rw [dats_length]; exact Nat.le_trans hl (by decide)) ?_
        refine compN_inv (fun j acc σ' => σ' = σ ∧ acc = encs (l.take j)) _ 0 _ _ ⟨rfl, rfl⟩ ?_ ?_
        · intro j v acc σ' P hv hI kk
          refine xA hI fun r1 r2 => ?_
          subst r1; subst r2
          refine xEA (dat_get hv) fun x hx r3 => ?_
          subst r3
          exact ih (by omega) (f3 x (List.mem_of_getElem? hx)) (kk _ _ ⟨rfl, by rw [Nat.zero_add, List.take_add_one, hx, encs_append]; rfl⟩)
        · intro acc σ' hI
          refine xA hI fun r1 r2 => ?_
          subst r1; subst r2
          rw [Nat.zero_add, dats_length, List.take_length]
          refine newL_frz (by rw [encs_length]; exact Nat.le_trans hl (by decide)) ?_
          cases dot with
          | true => exact h
          | false => exact h
      cases l with
      | nil =>
        cases dot with
        | true => exact absurd rfl (f2 rfl)
        | false => exact rest
      | cons x r => exact rest
theorem eqL_refl {f : V → V → Option Bool} : ∀ {l : List V}, (∀ v ∈ l, f v v = some true) → eqL f l l = some true
  | [], _ => rfl
  | a :: l, h => by
    unfold eqL
    rw [h a (.head _), eqL_refl fun v hv => h v (.tail _ hv)]; rfl
theorem eqD_enc {w : Nat} : ∀ (d : Nat) {f : Nat} {F : Fm}, 2 * d + 1 ≤ f → Fok w d F → eqD f (enc F) (enc F) = some true := by
  intro d
  induction d with
  | zero =>
    intro f F hf hF
    obtain ⟨f, rfl⟩ : ∃ k, f = k + 1 := ⟨f - 1, by omega⟩
    cases F with
    | num => rfl
    | str k => exact congrArg some (beq_self_eq_true k)
    | row l dot => exact hF.elim
  | succ d ih =>
    intro f F hf hF
    obtain ⟨f, rfl⟩ : ∃ k, f = k + 2 := ⟨f - 2, by omega⟩
    cases F with
    | num => rfl
    | str k => exact congrArg some (beq_self_eq_true k)
    | row l dot =>
      revert hF; refine yAA fun f1 f2 f3 => ?_
      rw [enc_row']
      have e1 : eqD (f + 1) (.lst (encs l)) (.lst (encs l)) = some true := by
        show eqL (eqD f) (encs l) (encs l) = some true
        refine eqL_refl fun v hv => ?_
        rw [encs_map] at hv
        refine xEA (List.mem_map.mp hv) fun x hx u3 => ?_; obtain rfl := u3
        exact ih (by omega) (f3 x hx)
      have e2 : eqD (f + 1) (dotV dot) (dotV dot) = some true := by cases dot <;> rfl
      have e3 : eqD (f + 1) (.str 16) (.str 16) = some true := rfl
      show eqL (eqD (f + 1)) [.str 16, .lst (encs l), dotV dot] [.str 16, .lst (encs l), dotV dot] = some true
      refine eqL_refl fun v hv => ?_
      simp only [List.mem_cons, List.not_mem_nil, or_false] at hv
      rcases hv with rfl | rfl | rfl
      · exact e3
      · exact e1
      · exact e2
end
end Mine
end
noncomputable section
namespace Mine
noncomputable def Ext (σ σ' : AH) : Prop := ∀ b o, σ b = some o → σ' b = some o
theorem Ext.trans {σ σ' σ'' : AH} (h : Ext σ σ') (h' : Ext σ' σ'') : Ext σ σ'' := fun b o q => h' b o (h b o q)
theorem Ext.new {σ : AH} {a : Addr} {o : O} (h : σ a = none) : Ext σ (σ.set a (some o)) := fun b p q => by
  rw [AH.set_ne (ne_of_none q h)]; exact q
theorem Ext.none {σ σ' : AH} (h : Ext σ σ') {a : Addr} (q : σ' a = none) : σ a = none := by
  cases hh : σ a with
  | none => rfl
  | some o => rw [h a o hh] at q; cases q
section
variable {z : Z} {n : Nat} {X : AH → Prop} {σ : AH} {Q : V → AH → Prop} {a : Wa} {T T0 bd : List Nat} {sc : Addr} {F0 : Fm} {w : Nat} {ps : List Fm} {dot : Bool}
theorem new_Scope {P : Addr → AH → Prop} (e : Env0 z) (hn : 2 ≤ n) {p : V} (h : ∀ s r σ', σ s = none → σ r = none → Ext σ σ' → σ' s = some (.inst 413 [47, 48] [p, .ref r]) → σ' r = some (.dictI [] []) → P s σ') : 1 ≤ n ∧ ∀ a, σ a = none → SemCall z (n - 1) 368 [.ref a, p] (σ.set a (some (.inst 413 [] []))) (fun v σ => v = .none ∧ P a σ) X := by
  refine And.intro (lq hn rfl) fun a ha => e.go (fn_Scope_init e.zk) (lp hn rfl : 1 ≤ n - 1) 0 (sI (AH.set_self ..) (And.intro (by decide) (And.intro rfl ?_)))
  intro r hr
  rw [AH.set_set] at hr
  have nra : r ≠ a := by rintro rfl; rw [AH.set_self] at hr; cases hr
  rw [AH.set_ne nra] at hr
  refine sI ((AH.set_ne nra.symm).trans (AH.set_self ..)) (And.intro (by decide) (And.intro rfl (And.intro rfl (h a r _ ha hr ?_ (AH.set_self ..) ((AH.set_ne nra).trans (AH.set_self ..))))))
  intro b o q
  rw [AH.set_ne (ne_of_none q ha), AH.set_ne (ne_of_none q hr), AH.set_set, AH.set_ne (ne_of_none q ha)]; exact q
theorem new_Table {P : Addr → AH → Prop} (e : Env0 z) (hn : 2 ≤ n) (h : ∀ t r b σ', σ t = none → σ r = none → σ b = none → Ext σ σ' → σ' t = some (.inst 128 [36, 37] [.ref r, .ref b]) → σ' r = some (.list []) → σ' b = some (.dictS [] []) → P t σ') : 1 ≤ n ∧ ∀ a, σ a = none → SemCall z (n - 1) 83 [.ref a] (σ.set a (some (.inst 128 [] []))) (fun v σ => v = .none ∧ P a σ) X := by
  refine And.intro (lq hn rfl) fun a ha => e.go (fn_SymbolTable_init e.zk) (lp hn rfl : 1 ≤ n - 1) 0 ?_
  intro r hr
  have nra : r ≠ a := by rintro rfl; rw [AH.set_self] at hr; cases hr
  rw [AH.set_ne nra] at hr
  refine sI ((AH.set_ne nra.symm).trans (AH.set_self ..)) (And.intro (by decide) (And.intro rfl ?_))
  intro b hb
  have nba : b ≠ a := by rintro rfl; rw [AH.set_self] at hb; cases hb
  rw [AH.set_ne nba] at hb
  have nbr : b ≠ r := by rintro rfl; rw [AH.set_self] at hb; cases hb
  rw [AH.set_ne nbr, AH.set_ne nba] at hb
  refine sI ((AH.set_ne nba.symm).trans (AH.set_self ..)) (And.intro (by decide) (And.intro rfl (And.intro rfl (h a r b _ ha hr hb ?_ (AH.set_self ..) ?_ ((AH.set_ne nba).trans (AH.set_self ..))))))
  · intro c o q
    rw [AH.set_ne (ne_of_none q ha), AH.set_ne (ne_of_none q hb), AH.set_ne (ne_of_none q ha), AH.set_ne (ne_of_none q hr), AH.set_ne (ne_of_none q ha)]; exact q
  · rw [AH.set_ne nra, AH.set_ne nbr.symm, AH.set_ne nra, AH.set_self]
structure W0 (w t r b : Addr) (σ : AH) : Prop where
  w : ∃ l ti op, σ w = some (.inst 677 [50, 51, 52, 53, 54] [.ref t, .int l, ti, op, .none])
  t : σ t = some (.inst 128 [36, 37] [.ref r, .ref b])
  r : σ r = some (.list [])
  b : σ b = some (.dictS [] [])
theorem new_Names {P : Addr → AH → Prop} (e : Env0 z) (hn : 4 ≤ n) (h : ∀ w t r b σ', σ w = none → σ t = none → σ r = none → σ b = none → Ext σ σ' → W0 w t r b σ' → P w σ') : 1 ≤ n ∧ ∀ a, σ a = none → SemCall z (n - 1) 611 [.ref a] (σ.set a (some (.inst 677 [] []))) (fun v σ => v = .none ∧ P a σ) X := by
  refine And.intro (lq hn rfl) fun a ha => e.go (fn_Names_init e.zk) (lp hn rfl : 3 ≤ n - 1) 0 ?_
  refine new_Table e (lp (lp hn rfl : 3 ≤ n - 1) rfl) fun t r b σ1 ht hr hb x1 t1 r1 b1 => ?_
  have nta : t ≠ a := by rintro rfl; rw [AH.set_self] at ht; cases ht
  have nra : r ≠ a := by rintro rfl; rw [AH.set_self] at hr; cases hr
  have nba : b ≠ a := by rintro rfl; rw [AH.set_self] at hb; cases hb
  rw [AH.set_ne nta] at ht
  rw [AH.set_ne nra] at hr
  rw [AH.set_ne nba] at hb
  have x1' : Ext σ σ1 := (Ext.new ha).trans x1
  refine sI (x1 a _ (AH.set_self ..)) (And.intro (by decide) (And.intro rfl (sI (AH.set_self ..) (And.intro (by decide) (And.intro rfl ?_)))))
  rw [AH.set_set]
  intro c hc
  have nca : c ≠ a := by rintro rfl; rw [AH.set_self] at hc; cases hc
  rw [AH.set_ne nca] at hc
  refine sI ((AH.set_ne nca.symm).trans (AH.set_self ..)) (And.intro (by decide) (And.intro rfl ?_))
  intro d hd
  have nda : d ≠ a := by rintro rfl; rw [AH.set_self] at hd; cases hd
  rw [AH.set_ne nda] at hd
  have ndc : d ≠ c := by rintro rfl; rw [AH.set_self] at hd; cases hd
  rw [AH.set_ne ndc, AH.set_ne nda] at hd
  refine sI ((AH.set_ne nda.symm).trans (AH.set_self ..)) (And.intro (by decide) (And.intro rfl (sI (AH.set_self ..) (And.intro (by decide) (And.intro rfl ?_)))))
  rw [AH.set_set]
  have away : ∀ y o, y ≠ a → σ1 y = some o → ∀ p q s u v, (((((σ1.set a p).set c q).set a s).set d u).set a v) y = some o := fun y o ya yo p q s u v => by
    rw [AH.set_ne ya, AH.set_ne (ne_of_none yo hd), AH.set_ne ya, AH.set_ne (ne_of_none yo hc), AH.set_ne ya]; exact yo
  exact And.intro rfl (h a t r b _ ha ht hr hb (fun y o q => away y o (ne_of_none q ha) (x1' y o q) _ _ _ _ _) ⟨⟨0, .ref c, .ref d, AH.set_self ..⟩, away _ _ nta t1 _ _ _ _ _, away _ _ nra r1 _ _ _ _ _, away _ _ nba b1 _ _ _ _ _⟩)
theorem c_bind (e : Env0 z) (hn : 2 ≤ n) {s r : Addr} {p v : V} {i k : Nat} {ks : List Int} {vs : List V} (hi : i ≤ 1000) (hs : σ s = some (.inst 413 [47, 48] [p, .ref r])) (hr : σ r = some (.dictI ks vs)) (hl : vs.length ≤ 1000) (hk : (2 * (i : Int)) ∉ ks)
    (h : Q .none (σ.set r (some (.dictI (ks ++ [2 * (i : Int)]) (vs ++ [v]))))) : SemCall z n 375 [.ref s, symV i k, v] σ Q X := by
  exact e.go (fn_Scope_bind e.zk) hn 0 (sm (at_i hs rfl) (c_key_of e (lp hn rfl) hi (sSi hr (And.intro hl (And.intro hk h)))))
end
end Mine
end
noncomputable section
namespace Mine
theorem Wd.ext {a : Wa} {σ σ' : AH} {T : List Nat} (W : Wd a σ T) (x : Ext σ σ') : Wd a σ' T := by
  refine xEEE (W.w) fun l ti op hw => ?_
  exact ⟨⟨l, ti, op, x _ _ hw⟩, x _ _ W.t, x _ _ W.rw, x _ _ W.bt, x _ _ W.rt, x _ _ W.rn, W.nd, W.sm⟩
theorem Sc.grow {a : Wa} {sc : Addr} {bd T T' : List Nat} {σ : AH} (S : Sc a sc bd T σ) (p : T <+: T') : Sc a sc bd T' σ := by
  refine xEA (S.ex) fun sn h1 h2 => ?_
  refine ⟨⟨sn, h1, ?_⟩, fun k hk => p.subset (S.sub k hk)⟩
  rw [h2]
  congr 2
  apply List.map_congr_left
  intro k hk
  rw [idx_mono p (S.sub k hk)]
section
variable {z : Z} {n : Nat} {X : AH → Prop} {N : Ls → AH → Prop} {σ : AH} {Q : V → AH → Prop} {a : Wa} {T T0 bd : List Nat} {sc : Addr} {F0 : Fm} {w : Nat} {ps : List Fm} {dot : Bool}
noncomputable def tail1 : IB := .cons (.set 10 (.call 762 (.cons (.loc 5) (.cons (.loc 2) .nil)))) (.cons (.ifs (.cmp .ne (.call 781 (.cons (.loc 4) (.cons (.loc 10) (.cons (.loc 8) (.cons (.loc 2) .nil))))) (.call 757 (.cons (.loc 5) (.cons (.loc 7) .nil)))) (.cons (.ret (.val (.bool false))) .nil) .nil) (.cons (.ret (.cmp .eq (.call 767 (.cons (.loc 10) .nil)) (.loc 5))) .nil))
theorem law_tail1 (e : Env0 z) (hn : 20 ≤ n) {F : Fm} {u0 u1 u3 u6 u9 u10 : Option V} (hw : w < 9) (hF : F = .row (.str w :: ps) dot) (ok : Fok 11 7 F) (W : Wd a σ T) (S : Sc a sc bd T σ) (h : ∀ σ', Q (.bool true) σ') :
    WB z pg n tail1 X Q N [u0, u1, some (.ref a.w), u3, some (.str w), some (enc F), u6, some (.lst (bd.map V.str)), some (.ref sc), u9, u10] σ := by
  subst hF
  have ok' := ok
  revert ok'; refine yAA fun f1 f2 f3 => ?_
  refine c_law_datum e (wd := 11) (by decide) 7 (lq hn rfl) ok W fun σ1 T1 W1 P1 S1 fi => ?_
  have H : Do a sc bd T1 T1 w ps dot σ1 := ⟨⟨W1, (S.same W S1).grow P1, List.prefix_rfl⟩, ⟨11, 7, ok, by decide⟩, ⟨11, by decide, f1, fun x hx => ⟨6, f3 x (.tail _ hx)⟩⟩, fi.2⟩
  refine c_law_is_let e (lq hn rfl) hw H fun σ2 => c_is_right e (lq hn rfl) (Nat.le_trans (Nat.le_of_succ_le f1) (by decide)) ?_
  refine bb (fun h => ?_) fun _ => ?_
  · rw [beq_self_eq_true] at h; cases h
  · refine c_law_told e (wd := 11) (by decide) 7 (lq hn rfl) ok ?_
    refine smB (show cmpV pg.pairC σ2 .eq (enc (.row (.str w :: ps) dot)) (enc (.row (.str w :: ps) dot)) = some true from eqD_enc 7 (by decide) ok) ?_
    exact h σ2
noncomputable def tail2 : IB := .cons (.unpack true [7, 8] (.tup (.cons (.idx (.frz (.lst (.cons (.frz (.lst .nil)) (.cons (.frz (.lst (.cons (.val (.str 14)) .nil))) (.cons (.frz (.lst (.cons (.val (.str 15)) .nil))) (.cons (.frz (.lst .nil)) .nil)))))) (.call 689 (.cons (.loc 1) (.cons (.val (.int 4)) .nil)))) (.cons (.new 413 368 (.cons (.attr (.loc 2) 54) .nil)) .nil)))) (.cons (.fors 9 (.seq (.loc 7)) (.cons (.expr (.meth (.loc 8) 60 (.cons (.meth (.loc 2) 49 (.cons (.loc 9) .nil)) (.cons (.frz (.new 287 284 (.cons (.val (.int 1)) (.cons (.loc 9) .nil)))) .nil)))) .nil)) tail1)
@[elab_as_elim] theorem int4 {P : Int → Prop} {i : Int} (h : 0 ≤ i) (h' : i < 4) (h0 : P 0) (h1 : P 1) (h2 : P 2) (h3 : P 3) : P i := by
  obtain rfl | rfl | rfl | rfl : i = 0 ∨ i = 1 ∨ i = 2 ∨ i = 3 := by omega
  · exact h0
  · exact h1
  · exact h2
  · exact h3
theorem law_tail2 (e : Env0 z) (hn : 20 ≤ n) {F : Fm} {d : Addr} {ds : List Int} {u0 u3 u6 u7 u8 u9 u10 : Option V} (hw : w < 9) (hF : F = .row (.str w :: ps) dot) (ok : Fok 11 7 F) (W : Wd a σ []) (o : Off a d) (hd : σ d = dk ds) (hD : Dk ds) (h : ∀ σ', Q (.bool true) σ') :
    WB z pg n tail2 X Q N [u0, some (.ref d), some (.ref a.w), u3, some (.str w), some (enc F), u6, u7, u8, u9, u10] σ := by
  refine lst_frz (lst_frz (lst_frz (lst_frz (lst_frz ?_))))
  refine c_draw e (lq hn rfl) hd hD (by decide) fun i ds1 h1 h2 hD1 => ?_
  have W1 := W.put o (dk ds1)
  generalize σ.set d (dk ds1) = σ1 at *
  have hb : ∃ bd : List Nat, itemAt [.lst [], .lst [.str 14], .lst [.str 15], .lst []] i = some (.lst (bd.map V.str)) ∧ (bd = [] ∨ ∃ k, k < strMany ∧ bd = [k]) :=
    int4 h1 h2 ⟨[], rfl, .inl rfl⟩ ⟨[14], rfl, .inr ⟨14, by decide, rfl⟩⟩ ⟨[15], rfl, .inr ⟨15, by decide, rfl⟩⟩ ⟨[], rfl, .inl rfl⟩
  refine xEA hb fun bd hb hbd => ?_
  refine xEEE W1.w fun l ti op hw1 => ?_
  refine sm hb (sm (at_i hw1 rfl) (new_Scope e (lq hn rfl) fun s sn σ2 hs hsn x2 s2 sn2 => ?_))
  have os := W1.off hs
  have osn := W1.off hsn
  have W2 := W1.ext x2
  rcases hbd with rfl | ⟨k, hk, rfl⟩
  · exact law_tail1 (bd := []) e hn hw hF ok W2 ⟨⟨sn, s2, sn2⟩, nofun⟩ h
  · refine xEEE W2.w fun l2 ti2 op2 hw2 => ?_
    refine smF (mt_i s2 rfl) (smF (mt_i hw2 rfl) (c_symbol e (lq hn rfl) hk W2 fun σ3 T3 W3 P3 k3 S3 => new_LocalName e (lq hn rfl) ?_))
    have e1 := (S3.at' os).trans s2
    have e2 := (S3.at' osn).trans sn2
    have hi : T3.idxOf k ≤ 1000 := Nat.le_of_lt (Nat.lt_of_lt_of_le (List.idxOf_lt_length_iff.mpr k3) (Nat.le_trans W3.len (by decide)))
    refine c_bind e (lq hn rfl) hi e1 e2 (by decide) nofun ?_
    exact law_tail1 (bd := [k]) e hn hw hF ok (W3.put osn _) ⟨⟨sn, (AH.set_ne (ne_of_vals s2 sn2 nofun)).trans e1, AH.set_self ..⟩, fun j hj => by rw [List.mem_singleton.mp hj]; exact k3⟩ h
end
end Mine
end
noncomputable section
namespace Mine
section
variable {z : Z} {n : Nat} {X : AH → Prop} {N : Ls → AH → Prop} {σ : AH} {Q : V → AH → Prop} {a : Wa} {T T0 bd : List Nat} {sc : Addr} {F0 : Fm} {w : Nat} {ps : List Fm} {dot : Bool}
noncomputable def tail3 : IB := .cons (.set 4 (.words 682 (.call 689 (.cons (.loc 1) (.cons (.val (.int 9)) .nil))))) (.cons (.set 5 (.call 722 (.cons (.loc 1) (.cons (.loc 4) .nil)))) (.cons (.fors 6 (.range1 (.call 689 (.cons (.loc 1) (.cons (.val (.int 4)) .nil)))) (.cons (.set 5 (.call 729 (.cons (.loc 1) (.cons (.loc 5) (.cons (.val (.bool true)) .nil))))) .nil)) tail2))
theorem xEEEEEAAAAA {T0 T1 T2 T3 T4 : Type} {p5 : T0 → T1 → T2 → T3 → T4 → Prop} {p6 : T0 → T1 → T2 → T3 → T4 → Prop} {p7 : T0 → T1 → T2 → T3 → T4 → Prop} {p8 : T0 → T1 → T2 → T3 → T4 → Prop} {p9 : T0 → T1 → T2 → T3 → T4 → Prop} {p10 : T0 → T1 → T2 → T3 → T4 → Prop} {C : Prop} (h : ∃ x0, ∃ x1, ∃ x2, ∃ x3, ∃ x4, p5 x0 x1 x2 x3 x4 ∧ p6 x0 x1 x2 x3 x4 ∧ p7 x0 x1 x2 x3 x4 ∧ p8 x0 x1 x2 x3 x4 ∧ p9 x0 x1 x2 x3 x4 ∧ p10 x0 x1 x2 x3 x4) (k : ∀ x0, ∀ x1, ∀ x2, ∀ x3, ∀ x4, p5 x0 x1 x2 x3 x4 → p6 x0 x1 x2 x3 x4 → p7 x0 x1 x2 x3 x4 → p8 x0 x1 x2 x3 x4 → p9 x0 x1 x2 x3 x4 → p10 x0 x1 x2 x3 x4 → C) : C := by
  obtain ⟨x0, x1, x2, x3, x4, h5, h6, h7, h8, h9, h10⟩ := h
  exact k x0 x1 x2 x3 x4 h5 h6 h7 h8 h9 h10
theorem law_tail3 (e : Env0 z) (hn : 20 ≤ n) {d : Addr} {ds : List Int} {u0 u3 : Option V} (W : Wd a σ []) (o : Off a d) (hd : σ d = dk ds) (hD : Dk ds) (h : ∀ σ', Q (.bool true) σ') :
    WB z pg n tail3 X Q N [u0, some (.ref d), some (.ref a.w), u3, none, none, none, none, none, none, none] σ := by
  refine c_draw e (lq hn rfl) hd hD (by decide) fun i ds1 h1 h2 hD1 => ?_
  obtain ⟨k, rfl⟩ := Int.eq_ofNat_of_zero_le h1
  have hk : k < 9 := Int.ofNat_lt.mp h2
  have hword : (pg.words 682)[((k : Nat) : Int).toNat]? = some (.str k) := by
    rw [Int.toNat_natCast]
    exact nat9 hk rfl rfl rfl rfl rfl rfl rfl rfl rfl
  have hd1 : (σ.set d (dk ds1)) d = dk ds1 := AH.set_self ..
  have W1 := W.put o (dk ds1)
  generalize σ.set d (dk ds1) = σ1 at *
  refine sm hword (And.intro h1 (c_form e (lq hn rfl) (Nat.le_of_lt_succ hk) hd1 hD1 fun l ds2 hl1 hl2 hD2 => ?_))
  have hd2 : (σ1.set d (dk ds2)) d = dk ds2 := AH.set_self ..
  have W2 := W1.put o (dk ds2)
  generalize σ1.set d (dk ds2) = σ2 at *
  refine c_draw e (lq hn rfl) hd2 hD2 (by decide) fun i ds3 h3 h4 hD3 => ?_
  have hd3 : (σ2.set d (dk ds3)) d = dk ds3 := AH.set_self ..
  have W3 := W2.put o (dk ds3)
  generalize σ2.set d (dk ds3) = σ3 at *
  refine And.intro h3 (And.intro (Int.le_trans (Int.le_of_lt h4) (by decide)) ?_)
  have hi3 : i.toNat ≤ 3 := by omega
  refine forN_inv (fun j ls τ => ∃ F l dot ds u6, ls = [u0, some (.ref d), some (.ref a.w), u3, some (.str k), some (enc F), u6, none, none, none, none] ∧ F = .row (.str k :: l) dot ∧ Fok (8 + j) (4 + j) F ∧ Wd a τ [] ∧ τ d = dk ds ∧ Dk ds) _ 0 _ _
    ⟨_, l, false, ds3, none, rfl, rfl, Fok.row (Nat.succ_le_succ hl2) (Foks.cons (Fok.str (Nat.lt_of_lt_of_le hk (by decide))) hl1), W3, hd3, hD3⟩ ?_ ?_
  · intro j v ls τ K hv hI kk
    refine xEEEEEAAAAA hI fun F l dot ds u6 r1 hF ok Wt hdt hDt => ?_
    subst r1
    have hj := (List.getElem?_eq_some_iff.mp hv).1
    rw [upV_length] at hj
    rw [Nat.zero_add] at ok
    refine c_bent e (w := 8 + j) (by omega) (4 + j) (by omega) hdt hDt ok (fun _ => ⟨k, l, dot, hF⟩) fun F' ds' hb hD' => ?_
    refine xEE (hb.2 rfl k l dot hF) fun l' dot' hF' => ?_
    exact kk _ _ ⟨F', l', dot', ds', _, rfl, hF', Fok.mono (by omega) (by omega) hb.1, Wt.put o _, AH.set_self .., hD'⟩
  · intro ls τ hI
    refine xEEEEEAAAAA hI fun F l dot ds u6 r1 hF ok Wt hdt hDt => ?_
    subst r1
    rw [upV_length] at ok
    exact law_tail2 e hn hk hF (Fok.mono (by omega) (by omega) ok) Wt o hdt hDt h
theorem law_body (e : Env0 z) (hn : 20 ≤ n) {is : List Int} (h : ∀ σ', Q (.bool true) σ') :
    WB z pg n ir_law X Q N [some (.lst (is.map V.int)), none, none, none, none, none, none, none, none, none, none] σ := by
  have ht : ((is.map V.int).take (Int.toNat 60)).length ≤ 60 := by rw [List.length_take]; exact Nat.min_le_left ..
  refine And.intro (by decide) (And.intro (by decide) (newL_frz (Nat.le_trans ht (by decide)) ?_))
  refine compN_inv (fun j acc σ' => σ' = σ ∧ ∃ ds : List Int, acc = ds.map V.int ∧ ds.length = j ∧ ∀ i ∈ ds, 0 ≤ i) _ 0 [] _ ⟨rfl, [], rfl, rfl, nofun⟩ ?_ ?_
  · intro j v acc σ' P hv hI kk
    refine xAEAA hI fun r1 ds r2 hl hp => ?_
    subst r1; subst r2
    refine xEA (List.mem_map.mp (List.mem_of_mem_take (List.mem_of_getElem? hv))) fun i _ r3 => ?_
    subst r3
    refine kk _ _ ⟨rfl, ds ++ [(i.natAbs : Int)], by rw [List.map_append]; rfl, by rw [List.length_append, hl]; rfl, fun x hx => ?_⟩
    rcases List.mem_append.mp hx with hx | hx
    · exact hp x hx
    · rw [List.mem_singleton.mp hx]; exact Int.natCast_nonneg _
  · intro acc σ' hI
    refine xAEAA hI fun r1 ds r2 hl hp => ?_
    subst r1; subst r2
    rw [Nat.zero_add] at hl
    have hlen : ds.length ≤ 60 := hl ▸ ht
    refine And.intro (by rw [List.length_map]; exact Nat.le_trans hlen (by decide)) fun d hd => ?_
    have hD : Dk ds := ⟨hp, Nat.le_trans hlen (by decide)⟩
    have hd0 : (σ'.set d (some (.list (ds.map V.int)))) d = dk ds := AH.set_self ..
    generalize σ'.set d (some (.list (ds.map V.int))) = σ0 at *
    refine new_Names e (lq hn rfl) fun w t r b σ1 hw ht hr hb x1 W1 => ?_
    have ne1 : ∀ y, σ0 y = none → d ≠ y := fun y hy => ne_of_none hd0 hy
    have hd1 := x1 d _ hd0
    refine new_Scope e (lq hn rfl) fun rt rn σ2 hrt hrn x2 rt2 rn2 => ?_
    refine xEEE W1.w fun l ti op hw1 => ?_
    refine sI (x2 _ _ hw1) (And.intro (by decide) (And.intro rfl ?_))
    have W : Wd ⟨w, t, r, b, rt, rn⟩ (σ2.set w (some (.inst 677 (putK [50, 51, 52, 53, 54] 54) (putV [50, 51, 52, 53, 54] [.ref t, .int l, ti, op, .none] 54 (.ref rt))))) [] :=
      ⟨⟨l, ti, op, AH.set_self ..⟩, (AH.set_ne (ne_of_vals W1.t hw1 (by simp))).trans (x2 _ _ W1.t), AH.set_ne (ne_of_vals W1.r hw1 nofun) |>.trans (x2 _ _ W1.r), AH.set_ne (ne_of_vals W1.b hw1 nofun) |>.trans (x2 _ _ W1.b),
        (AH.set_ne (ne_of_none hw1 hrt).symm).trans rt2, (AH.set_ne (ne_of_none hw1 hrn).symm).trans rn2, List.nodup_nil, nofun⟩
    have o : Off ⟨w, t, r, b, rt, rn⟩ d := ⟨ne1 w hw, ne1 t ht, ne1 r hr, ne1 b hb, ne_of_none hd1 hrt, ne_of_none hd1 hrn⟩
    exact law_tail3 (X := X) (Q := Q) (a := ⟨w, t, r, b, rt, rn⟩) e hn W o ((AH.set_ne o.w).trans (x2 _ _ hd1)) hD h
end
end Mine
end
noncomputable section
namespace Mine
noncomputable def erase (h : Heap) (a : Addr) : Heap := { h with objs := h.objs.modify a fun o => { o with data := .freed } }
theorem erase_size (h : Heap) (a : Addr) : (erase h a).objs.size = h.objs.size := by simp [erase]
theorem erase_ne {h : Heap} {a b : Addr} (ne : b ≠ a) : (erase h a).get? b = h.get? b := by
  unfold Heap.get? erase
  simp only [Array.getElem?_modify, if_neg (Ne.symm ne)]
theorem erase_self (h : Heap) (a : Addr) : (erase h a).get? a = none := by
  unfold Heap.get? erase
  simp only [Array.getElem?_modify, if_pos rfl]
  cases h.objs[a]? <;> rfl
theorem ints_rv {K : Frag} {Φ : Fz} : ∀ {vs : List Value} {is : List Int}, IntsAre vs is → Rvs K Φ (is.map V.int) vs
  | _, _, .nil => rfl
  | _, _, .cons _ _ h => ⟨_, _, rfl, ⟨_, rfl⟩, ints_rv h⟩
noncomputable def noList (K : Frag) : Bool := K.all fun p => match p.2.cls, p.2.data with | .type s, .seq _ _ => s != "list" | _, _ => true
theorem mem_of_look {K : Frag} {a : Addr} {o : Obj} (h : K.lookup a = some o) : (a, o) ∈ K := by
  induction K with
  | nil => cases h
  | cons p r ih =>
    rw [List.lookup_cons] at h
    split at h
    · rename_i q
      cases h
      have : a = p.1 := by simpa using q
      subst this
      exact .head _
    · exact .tail _ (ih h)
theorem not_list {K : Frag} (h : noList K = true) {a : Addr} {ws : Array Value} {n : Nat} : K.lookup a ≠ some (listOf ws n) := fun q => by
  have := List.all_eq_true.mp h _ (mem_of_look q)
  simp at this
theorem kf_noList (P : Params) : noList (KF PW P) = true := by kernel_rfl
theorem fx_law_cells : ∀ p ∈ fx_law.kinds, p.2 ≠ .cell := ncell (by kernel_rfl)
theorem law_call (w : World) (s₁ : Shared) {mg mb : Str → Option Value} {p : Program} {loose : List Str} (T : TopRead p loose mg mb s₁.heap) (Y : (KF PW w.params).In s₁.heap) (hg : s₁.gens = #[]) {la : Addr} {ws : Array Value} {is : List Int}
    (hl : s₁.heap.get? la = some (listOf ws 0)) (hI : IntsAre ws.toList is) (hlen : is.length ≤ 63) :
    codeAny (model PW w) callerA (.call (.ref 786) ⟨[.ref la], []⟩) (fun r s' => r = .ok (.ret (.bool true)) ∧ (∀ b o, s₁.heap.get? b = some o → s'.heap.get? b = some o) ∧ s'.os = s₁.os ∧ s'.gens = #[]) s₁ := by
  let z : Z := ⟨PW, w, KF PW w.params, erase s₁.heap la, p, loose, mg, mb, s₁.gens, s₁.drawn, s₁.os, 226⟩
  have ngl : ∀ {a : Addr} {m : Str → Option Value}, s₁.heap.Ns a m → a ≠ la := by
    rintro a m ⟨o, es, ep, h1, h2, _⟩ rfl
    rw [hl] at h1; cases h1; cases h2
  have kp : ∀ {a : Addr} {m : Str → Option Value}, s₁.heap.Ns a m → (erase s₁.heap la).Ns a m := fun {a m} h => by
    have ne := ngl h
    revert h; refine yEEEA fun o es ep h1 h2 => ?_
    exact ⟨o, es, ep, by rw [erase_ne ne]; exact h1, h2⟩
  have zo : z.Ok := ⟨fun a o h => by
      show (erase s₁.heap la).get? a = some o
      rw [erase_ne]
      · exact Y _ _ h
      · rintro rfl
        have := Y _ _ h
        rw [hl] at this
        cases this
        exact not_list (kf_noList w.params) h,
    ⟨kp T.g, kp T.b, by
      refine xEA (T.nolimit) fun mc h1 h2 => ?_
      exact ⟨mc, kp h1, h2⟩, T.builtins, T.free⟩⟩
  have zk : ZK z := ⟨rfl, rfl⟩
  have e : Env0 z := ⟨zo, zk⟩
  refine xEA ((fn_law zk).run (g := pg) zk.gok zk.iok zk.tok zk.wok) fun body D hc => ?_
  obtain ⟨oc, od, osl, name, qual, params, scope, dV, kV, doc, pm, an, cdv, ct, ho, hcd, hk, hco, hgen, hsc, hbind⟩ := D.ex
  have hcell : ∀ x ∈ scope.names, x.2 ≠ .cell := by rw [hsc]; exact fx_law_cells
  have hb : BindsTo s₁ (fnOf name qual params body scope dV kV doc pm an cdv ct) ⟨[.ref la], []⟩ (pn_law.zip [.ref la]) := by
    rcases hbind [.ref la] [.ref la] ⟨rfl, rfl⟩ with h | h
    · exact BindsTo.of_eq h
    · refine h.2 s₁ fun b o q => ?_
      have q : (erase s₁.heap la).get? b = some o := q
      by_cases hh : b = la
      · rw [hh, erase_self] at q; cases q
      · rw [erase_ne hh] at q; exact q
  have hlens : [Value.ref la].length = pn_law.length := rfl
  have hzip : (pn_law.zip [Value.ref la]).map (·.1) = pn_law := zip_keys (by rw [hlens]; exact Nat.le_refl _)
  have kin : ∀ x ∈ pn_law.zip [Value.ref la], x.1 ∈ pn_law := fun x hx => (List.of_mem_zip hx).1
  refine codeAny_call_def (fd := fnOf name qual params body scope dV kV doc pm an cdv ct) (binds := pn_law.zip [.ref la]) (by decide) (Y _ _ ho) rfl T.nolimit (codeRec_of Y hcd) rfl hb hcell (fun x hx => ?_) (fun h₁ hns hk₁ => ?_) hco hgen hk
  · show scope.names.lookup x.1 = _
    rcases D.kinds x.1 (kin x hx) with q | q
    · exact hsc ▸ q
    · exact absurd rfl (hcell (x.1, .cell) (hsc ▸ mem_of_lookup q))
  generalize henv : callEnv (fnOf name qual params body scope dV kV doc pm an cdv ct) s₁.heap.objs.size 786 = env
  have eL : env.locals = s₁.heap.objs.size := by rw [← henv]; rfl
  have eS : env.scope = scope := by rw [← henv]; rfl
  have eF : env.frame = some env.locals := by rw [← henv]; rfl
  have eG : env.globals = mainGlobals := by rw [← henv]; rfl
  have eB : env.builtins = builtinsNs := by rw [← henv]; rfl
  let c : Cx := ⟨env, callerA.deeper env, [env], [], []⟩
  have cok : c.Ok z 20 := {
    hA := Around.frames_deeper rfl
    fr := fun x hx => by
      rw [List.mem_singleton.mp hx]
      exact ⟨by rw [eS]; exact hk, _, eF, .inl rfl⟩
    ne := fun _ h => nomatch h
    abv := by show (erase s₁.heap la).objs.size ≤ env.locals; rw [erase_size, eL]; exact Nat.le_refl _
    hd := rfl
    depth := by show callerA.depth + 1 + 3 * 20 + 20 ≤ 1000; decide
    units := by show callerA.units + 3 + 12 * 20 + 200 ≤ 9900; decide
    ek := by show env.scope.kind = _; rw [eS]; exact hk
    eg := eG
    eb := eB
    ef := ⟨_, eF, .inl rfl⟩
    top := ⟨env, [], rfl, rfl⟩ }
  have at' : At z 20 c fx_law := ⟨zo, cok, by show env.scope.names = _; rw [eS]; exact hsc, fun y hy => absurd rfl (hcell (y, .cell) (hsc ▸ mem_of_lookup hy))⟩
  have lla : la ≠ env.locals := fun q => absurd (Heap.lt_size hl) (by rw [q, eL]; exact Nat.lt_irrefl _)
  let Φ : Fz := fun a => if a = la then some (listOf ws 0) else none
  have hΦ : Φ la = some (listOf ws 0) := if_pos rfl
  let G : Addr → Cell := fun a => if a = env.locals then .frm (fun x => (pn_law.zip [Value.ref la]).reverse.lookup x) else if a = la then .fro (listOf ws 0) else .free
  have G1 : G env.locals = .frm (fun x => (pn_law.zip [Value.ref la]).reverse.lookup x) := if_pos rfl
  have G2 : G la = .fro (listOf ws 0) := by show (if la = env.locals then _ else _) = _; rw [if_neg lla, if_pos rfl]
  have G3 : ∀ a, a ≠ env.locals → a ≠ la → G a = .free := fun a h1 h2 => by show (if a = env.locals then _ else _) = _; rw [if_neg h1, if_neg h2]
  have I : Inv z c (fun x => (pn_law.zip [Value.ref la]).reverse.lookup x) Φ (fun _ => none) { s₁ with heap := h₁, toks := s₁.toks + (pn_law.zip [Value.ref la]).length } := by
    refine ⟨rfl, rfl, rfl, fun b o q => ?_, G, ?_⟩
    · have q : (erase s₁.heap la).get? b = some o := q
      by_cases hh : b = la
      · rw [hh, erase_self] at q; cases q
      · rw [erase_ne hh] at q; exact hk₁ _ _ q
    · refine ⟨fun a => ?_, fun a h => ?_, G1, (fun _ h => nomatch h), (fun _ h => nomatch h), fun a o h => ?_, (fun _ _ h => nomatch h)⟩
      · by_cases h1 : a = env.locals
        · rw [h1, G1]; show h₁.Ns env.locals _; rw [eL]; exact hns
        · by_cases h2 : a = la
          · rw [h2, G2]; exact hk₁ _ _ hl
          · rw [G3 a h1 h2]; trivial
      · show (erase s₁.heap la).get? a = none
        by_cases h1 : a = env.locals
        · exact none_of_size (by rw [erase_size, h1, eL]; exact Nat.le_refl _)
        · by_cases h2 : a = la
          · rw [h2]; exact erase_self _ _
          · exact absurd (G3 a h1 h2) h
      · have h : (if a = la then some (listOf ws 0) else none) = some o := h
        split at h
        · rename_i q; cases h; rw [q]; exact G2
        · cases h
  have hv : Rvs z.K Φ [.lst (is.map V.int)] [.ref la] := ⟨_, _, rfl, ⟨la, ws, 0, rfl, hΦ, by rw [List.length_map]; omega, ints_rv hI⟩, rfl⟩
  have lm : Lm fx_law z c (fun x => (pn_law.zip [Value.ref la]).reverse.lookup x) Φ (start [.lst (is.map V.int)] 10) := by
    refine D.lm (k := 10) hlens hv (fun y => by show env.scope.names.lookup y = _; rw [eS, hsc]) fun y v hm hvar => ?_
    unfold Fx.isVar at hvar
    simp only [Bool.or_eq_true, beq_iff_eq] at hvar
    rcases hvar with q | q
    · refine .inl ⟨by show env.scope.names.lookup y = _; rw [eS, hsc]; exact q, ?_⟩
      have nd : ((pn_law.zip [Value.ref la]).reverse.map (·.1)).Nodup := by rw [List.map_reverse, hzip]; unfold List.Nodup; rw [List.pairwise_reverse]; exact D.names_nd.imp fun h => Ne.symm h
      exact lookup_of_mem nd (List.mem_reverse.mpr hm)
    · exact absurd rfl (hcell (y, .cell) (hsc ▸ mem_of_lookup q))
  have run := hc _ _ (fun _ => False) at' ⟨_, rfl⟩ (fun v _ => v = .bool true) (fun _ _ => False) Φ (fun _ => none) _ _ _ lm I (law_body e (by omega) fun _ => rfl)
  refine wpAny_mono run (fun fl s' h => ?_) fun er s' h => ?_
  · cases fl with
    | ret v =>
      revert h; refine yEEEEAAA fun Φ' v' σ' m' h1 h2 h3 u1 => ?_; obtain rfl := u1
      have h2 : v = .bool true := h2
      subst h2
      refine ⟨rfl, fun b o q => ?_, h3.os, h3.gens.trans hg⟩
      by_cases hh : b = la
      · subst hh
        obtain ⟨G', L'⟩ := h3.led
        have := L'.fro _ _ (h1 _ _ hΦ)
        have ok := L'.ok b
        rw [this] at ok
        rw [hl] at q; cases q
        exact ok
      · exact h3.base b o (by show (erase s₁.heap la).get? b = some o; rw [erase_ne hh]; exact q)
    | next => revert h; refine yEEEEAAA fun _ _ _ _ _ _ _ h4 => ?_; exact h4.elim
    | _ => exact h.elim
  · revert h; refine yEEEEEAAA fun _ _ _ _ _ _ _ _ h4 => ?_
    exact h4.elim
end Mine
end
noncomputable section
namespace Mine
theorem law_at (P : Params) : nsIn (KF PW P) mainGlobals lawD.name = some (some (.ref 786)) := by kernel_rfl
theorem post_ok (is : List Int) : PySem.Challenge.rw_nt0200_01.row.claim.post [ofPy (PyData.list (is.map PyData.int))] (WData.bool true) [ofPy (PyData.list (is.map PyData.int))] = true := by
  kernel_rfl
set_option maxHeartbeats 2000000 in
theorem walk : WalkO (qT PW) (looseT PW) (fun _ _ => True) (fun w h => (KF PW w.params).In h) PySem.Challenge.rw_nt0200_01.row.toRowW lawD [] fun f vs => PySem.call f vs := by
  intro w s₀ s₁ mg mb G Y fa o pm cd doc dV kV ho hd hcd hD hmg hg args vals as hpre hlay hrd hwl hlo
  wrow_args hpre hlay hrd hwl hlo
  rename_i is _ _ _ _ _ _ _ la ws _ hL _ w1 _ hI _ h63 _
  have T := topRead_of G.T
  have fa786 : fa = 786 := by
    have := mg_of Y T.g (law_at w.params)
    rw [this] at hmg
    cases hmg; rfl
  subst fa786
  have hl : s₁.heap.get? la = some (listOf ws.toArray 0) := by
    revert hL; refine yEAAE fun o1 q1 q2 n1 q3 => ?_
    have w1 : Well w.params s₁.heap (.ref la) (.list (ofPys (is.map PyData.int))) := w1
    cases w1 with
    | list q _ =>
      rw [q] at q1
      cases q1
      cases q3
      exact q
  refine enter_call ?_
  refine codeAny_mono (law_call w s₁ T Y hg hl (by simpa using hI) (by omega)) fun r s' h => GoodW.toG ?_
  revert h; refine yAAA fun u1 h1 h2 h3 => ?_; obtain rfl := u1
  exact ⟨.inl ⟨.bool true, .bool true, [], rfl, fun _ => rfl, .bool true, post_ok is, fun _ => ⟨List.nodup_nil, nofun⟩⟩, h1, h2, h3⟩
end Mine
end
theorem PySem.Challenge.cw_nt0200_01_holds : PySem.Challenge.rw_nt0200_01.Holds := by
  exact Mine.head Mine.run_p (fun P => Mine.asF_eq _ P) Mine.walk
