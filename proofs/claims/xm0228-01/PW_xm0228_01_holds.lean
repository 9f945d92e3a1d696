import PyProof.Rows.All
import Wide.All
import OpenK.AllK
import Wide.FinOn
import PySem.Challenge.RW_xm0228_01
set_option linter.all false
set_option Elab.async false
set_option bootstrap.genMatcherCode false
set_option compiler.extract_closed false
set_option genInjectivity false
set_option genSizeOf false
set_option genSizeOfSpec false
set_option maxRecDepth 100000
open PySem PySem.W PyProof.Rows
set_option maxHeartbeats 0
namespace Mine
open PySem.Challenge (pw_xm0228_01 rw_xm0228_01)
theorem said : rw_xm0228_01.wellSaid = true := (congrFun PySem.W.Fast.te9446332074065402090 rw_xm0228_01).trans (by kernel_rfl)
noncomputable def q : Program := view pw_xm0228_01 [1, 2, 4, 5, 6, 7, 8, 9, 10, 11, 12, 13, 14, 15, 16, 17, 18, 19, 20, 21, 22, 23, 24, 25, 26, 27, 28, 29, 30, 32, 33, 34, 35, 36, 37, 38, 39, 40, 41, 42, 43, 44, 45, 46, 47, 48, 49, 50, 51, 52, 53, 54]
noncomputable def Xt (s : Shared) : Bool := xlAt q [] s && recOk [] s
theorem boot0 (w : World) : ((boot_heap w.params).isNs mainGlobals && (⟨[]⟩ : Array GenState).size == 0, (boot_heap w.params).objs.size, (boot_heap w.params).nsMap mainGlobals "__annotations__") = (true, 11, some (.ref 6)) := by kernel_rfl
theorem open1 : opening pw_xm0228_01 = plainProg pw_xm0228_01.main.scope.names := by kernel_rfl
theorem open2 (s : Shared) : fenceModules? pw_xm0228_01 s = some s := by kernel_rfl
/-- the top, run -/
noncomputable def topQ (w : World) (os : OsState) : Option Shared := (PySem.W.Fast.tw14082659384304107361 PySem.W.Fast.tw14364793385576792824 pw_xm0228_01 w 11 (some (.ref 6)) 5096 ⟨boot_heap w.params, ⟨[]⟩, boot_drawn, boot_toks, os⟩ (topStub pw_xm0228_01)).bind fun s₁ =>
  match staticsOk (importedModules pw_xm0228_01.main.body) (boot_heap w.params) s₁.heap && namesBound pw_xm0228_01 s₁.heap && gensDone s₁ && laidKept (boot_heap w.params) s₁.heap with
  | true => some s₁
  | false => none
theorem top_is (w : World) (os : OsState) : topFrom treeTable pw_xm0228_01 w 5096 ⟨boot_heap w.params, ⟨[]⟩, boot_drawn, boot_toks, os⟩ = topQ w os := by
  have b := boot0 w
  simp only [Prod.mk.injEq] at b
  unfold topFrom topQ
  dsimp only
  rw [b.1, b.2.1, b.2.2, ← PySem.W.Fast.te14082659384304107361, ← PySem.W.Fast.te14364793385576792824]
  rfl
theorem left_of {α : Type} {Yf : Shared → α} {Ya : World → α} (h : ∀ (w : World) (os : OsState), (topQ w os).map (fun s => (PySem.W.Fast.tw4187177175401517315 q [] (importedModules pw_xm0228_01.main.body) Xt true s, Yf s)) = some (openGood q [], Ya w)) : LeftO pw_xm0228_01 q [] Xt Yf Ya 5096 := fun w => by
  obtain ⟨⟨hp, gs, d, k, os⟩, e, e'⟩ := Option.map_eq_some_iff.mp (boot_open (p := pw_xm0228_01) (N := 5096) open1 rfl open2 w)
  simp only [Prod.mk.injEq] at e'
  obtain ⟨rfl, rfl, rfl, rfl⟩ := e'
  unfold openEnds
  rw [e]
  show (topFrom treeTable pw_xm0228_01 w 5096 _).map _ = _
  rw [top_is, PySem.W.Fast.te4187177175401517315]
  exact h w os
end Mine
local macro_rules | `(tactic| o_law) => `(tactic| refine holds_law Mine.said fun said => ?_)
local macro_rules | `(tactic| o_head $H) => `(tactic| refine holds_open (q := Mine.q) (loose := []) (Xt := Mine.Xt) (XP := XL Mine.q []) (Yf := Hook.obs $H) (Ya := Hook.val $H) (YP := Hook.says $H) (N := 5096) (Mine.left_of fun w os => by kernel_rfl) (Hook.of $H) (Hook.keeps $H) (fun s e => xl_of s (Bool.and_eq_true_iff.mp e).1) XL.keeps (by rfl) (by rfl) (by rfl) (fun s e => recFacts_of (Bool.and_eq_true_iff.mp e).2) (by rfl) (by assumption) (by decide +kernel) ⟨rfl, rfl, rfl, rfl, rfl, by decide +kernel⟩ ?hw ?hc)
namespace Mine
open_top hd for PySem.Challenge.rw_xm0228_01
end Mine

section
namespace Mine
theorem xl_EE.{u1, u2} {α1 : Sort u1} {α2 : Sort u2} {p1 : α1 → α2 → Prop} {G : Prop} (h : ∃ x1 : α1, ∃ x2 : α2, p1 x1 x2) (k : ∀ x1 : α1, ∀ x2 : α2, p1 x1 x2 → G) : G := Exists.elim h fun a h => Exists.elim h fun b h => k a b h
theorem xl_EEE.{u1, u2, u3} {α1 : Sort u1} {α2 : Sort u2} {α3 : Sort u3} {p1 : α1 → α2 → α3 → Prop} {G : Prop} (h : ∃ x1 : α1, ∃ x2 : α2, ∃ x3 : α3, p1 x1 x2 x3) (k : ∀ x1 : α1, ∀ x2 : α2, ∀ x3 : α3, p1 x1 x2 x3 → G) : G := Exists.elim h fun a h => xl_EE h (k a)
theorem xl_EEEE.{u1, u2, u3, u4} {α1 : Sort u1} {α2 : Sort u2} {α3 : Sort u3} {α4 : Sort u4} {p1 : α1 → α2 → α3 → α4 → Prop} {G : Prop} (h : ∃ x1 : α1, ∃ x2 : α2, ∃ x3 : α3, ∃ x4 : α4, p1 x1 x2 x3 x4) (k : ∀ x1 : α1, ∀ x2 : α2, ∀ x3 : α3, ∀ x4 : α4, p1 x1 x2 x3 x4 → G) : G := Exists.elim h fun a h => xl_EEE h (k a)
theorem xl_EEEEE.{u1, u2, u3, u4, u5} {α1 : Sort u1} {α2 : Sort u2} {α3 : Sort u3} {α4 : Sort u4} {α5 : Sort u5} {p1 : α1 → α2 → α3 → α4 → α5 → Prop} {G : Prop} (h : ∃ x1 : α1, ∃ x2 : α2, ∃ x3 : α3, ∃ x4 : α4, ∃ x5 : α5, p1 x1 x2 x3 x4 x5) (k : ∀ x1 : α1, ∀ x2 : α2, ∀ x3 : α3, ∀ x4 : α4, ∀ x5 : α5, p1 x1 x2 x3 x4 x5 → G) : G := Exists.elim h fun a h => xl_EEEE h (k a)
theorem xl_EEEEEE.{u1, u2, u3, u4, u5, u6} {α1 : Sort u1} {α2 : Sort u2} {α3 : Sort u3} {α4 : Sort u4} {α5 : Sort u5} {α6 : Sort u6} {p1 : α1 → α2 → α3 → α4 → α5 → α6 → Prop} {G : Prop} (h : ∃ x1 : α1, ∃ x2 : α2, ∃ x3 : α3, ∃ x4 : α4, ∃ x5 : α5, ∃ x6 : α6, p1 x1 x2 x3 x4 x5 x6) (k : ∀ x1 : α1, ∀ x2 : α2, ∀ x3 : α3, ∀ x4 : α4, ∀ x5 : α5, ∀ x6 : α6, p1 x1 x2 x3 x4 x5 x6 → G) : G := Exists.elim h fun a h => xl_EEEEE h (k a)
theorem xl_EEEEEEE.{u1, u2, u3, u4, u5, u6, u7} {α1 : Sort u1} {α2 : Sort u2} {α3 : Sort u3} {α4 : Sort u4} {α5 : Sort u5} {α6 : Sort u6} {α7 : Sort u7} {p1 : α1 → α2 → α3 → α4 → α5 → α6 → α7 → Prop} {G : Prop} (h : ∃ x1 : α1, ∃ x2 : α2, ∃ x3 : α3, ∃ x4 : α4, ∃ x5 : α5, ∃ x6 : α6, ∃ x7 : α7, p1 x1 x2 x3 x4 x5 x6 x7) (k : ∀ x1 : α1, ∀ x2 : α2, ∀ x3 : α3, ∀ x4 : α4, ∀ x5 : α5, ∀ x6 : α6, ∀ x7 : α7, p1 x1 x2 x3 x4 x5 x6 x7 → G) : G := Exists.elim h fun a h => xl_EEEEEE h (k a)
theorem xl_EEEEEEEE.{u1, u2, u3, u4, u5, u6, u7, u8} {α1 : Sort u1} {α2 : Sort u2} {α3 : Sort u3} {α4 : Sort u4} {α5 : Sort u5} {α6 : Sort u6} {α7 : Sort u7} {α8 : Sort u8} {p1 : α1 → α2 → α3 → α4 → α5 → α6 → α7 → α8 → Prop} {G : Prop} (h : ∃ x1 : α1, ∃ x2 : α2, ∃ x3 : α3, ∃ x4 : α4, ∃ x5 : α5, ∃ x6 : α6, ∃ x7 : α7, ∃ x8 : α8, p1 x1 x2 x3 x4 x5 x6 x7 x8) (k : ∀ x1 : α1, ∀ x2 : α2, ∀ x3 : α3, ∀ x4 : α4, ∀ x5 : α5, ∀ x6 : α6, ∀ x7 : α7, ∀ x8 : α8, p1 x1 x2 x3 x4 x5 x6 x7 x8 → G) : G := Exists.elim h fun a h => xl_EEEEEEE h (k a)
theorem xl_EEEEEEEEE.{u1, u2, u3, u4, u5, u6, u7, u8, u9} {α1 : Sort u1} {α2 : Sort u2} {α3 : Sort u3} {α4 : Sort u4} {α5 : Sort u5} {α6 : Sort u6} {α7 : Sort u7} {α8 : Sort u8} {α9 : Sort u9} {p1 : α1 → α2 → α3 → α4 → α5 → α6 → α7 → α8 → α9 → Prop} {G : Prop} (h : ∃ x1 : α1, ∃ x2 : α2, ∃ x3 : α3, ∃ x4 : α4, ∃ x5 : α5, ∃ x6 : α6, ∃ x7 : α7, ∃ x8 : α8, ∃ x9 : α9, p1 x1 x2 x3 x4 x5 x6 x7 x8 x9) (k : ∀ x1 : α1, ∀ x2 : α2, ∀ x3 : α3, ∀ x4 : α4, ∀ x5 : α5, ∀ x6 : α6, ∀ x7 : α7, ∀ x8 : α8, ∀ x9 : α9, p1 x1 x2 x3 x4 x5 x6 x7 x8 x9 → G) : G := Exists.elim h fun a h => xl_EEEEEEEE h (k a)
theorem xl_EEEEEEEEEE.{u1, u2, u3, u4, u5, u6, u7, u8, u9, u10} {α1 : Sort u1} {α2 : Sort u2} {α3 : Sort u3} {α4 : Sort u4} {α5 : Sort u5} {α6 : Sort u6} {α7 : Sort u7} {α8 : Sort u8} {α9 : Sort u9} {α10 : Sort u10} {p1 : α1 → α2 → α3 → α4 → α5 → α6 → α7 → α8 → α9 → α10 → Prop} {G : Prop} (h : ∃ x1 : α1, ∃ x2 : α2, ∃ x3 : α3, ∃ x4 : α4, ∃ x5 : α5, ∃ x6 : α6, ∃ x7 : α7, ∃ x8 : α8, ∃ x9 : α9, ∃ x10 : α10, p1 x1 x2 x3 x4 x5 x6 x7 x8 x9 x10) (k : ∀ x1 : α1, ∀ x2 : α2, ∀ x3 : α3, ∀ x4 : α4, ∀ x5 : α5, ∀ x6 : α6, ∀ x7 : α7, ∀ x8 : α8, ∀ x9 : α9, ∀ x10 : α10, p1 x1 x2 x3 x4 x5 x6 x7 x8 x9 x10 → G) : G := Exists.elim h fun a h => xl_EEEEEEEEE h (k a)
theorem xl_AA {p1 : Prop} {p2 : Prop} {p3 : Prop} {G : Prop} (h : p1 ∧ p2 ∧ p3) (k : p1 → p2 → p3 → G) : G := k h.1 h.2.1 h.2.2
theorem xl_EA.{u1} {α1 : Sort u1} {p1 : α1 → Prop} {p2 : α1 → Prop} {G : Prop} (h : ∃ x1 : α1, p1 x1 ∧ p2 x1) (k : ∀ x1 : α1, p1 x1 → p2 x1 → G) : G := Exists.elim (h) fun y2a h2 => k y2a h2.1 h2.2
theorem xl_AAA {p1 : Prop} {p2 : Prop} {p3 : Prop} {p4 : Prop} {G : Prop} (h : p1 ∧ p2 ∧ p3 ∧ p4) (k : p1 → p2 → p3 → p4 → G) : G := k h.1 h.2.1 h.2.2.1 h.2.2.2
theorem xl_AEA.{u1} {α1 : Sort u1} {p1 : Prop} {p2 : α1 → Prop} {p3 : α1 → Prop} {G : Prop} (h : p1 ∧ ∃ x1 : α1, p2 x1 ∧ p3 x1) (k : p1 → ∀ x1 : α1, p2 x1 → p3 x1 → G) : G := Exists.elim (h.2) fun y2a h2 => k h.1 y2a h2.1 h2.2
theorem xl_EAA.{u1} {α1 : Sort u1} {p1 : α1 → Prop} {p2 : α1 → Prop} {p3 : α1 → Prop} {G : Prop} (h : ∃ x1 : α1, p1 x1 ∧ p2 x1 ∧ p3 x1) (k : ∀ x1 : α1, p1 x1 → p2 x1 → p3 x1 → G) : G := Exists.elim (h) fun y3a h3 => k y3a h3.1 h3.2.1 h3.2.2
theorem xl_EEA.{u1, u2} {α1 : Sort u1} {α2 : Sort u2} {p1 : α1 → α2 → Prop} {p2 : α1 → α2 → Prop} {G : Prop} (h : ∃ x1 : α1, ∃ x2 : α2, p1 x1 x2 ∧ p2 x1 x2) (k : ∀ x1 : α1, ∀ x2 : α2, p1 x1 x2 → p2 x1 x2 → G) : G := xl_EE (h) fun y3a y3b h3 => k y3a y3b h3.1 h3.2
theorem xl_AAAA {p1 : Prop} {p2 : Prop} {p3 : Prop} {p4 : Prop} {p5 : Prop} {G : Prop} (h : p1 ∧ p2 ∧ p3 ∧ p4 ∧ p5) (k : p1 → p2 → p3 → p4 → p5 → G) : G := k h.1 h.2.1 h.2.2.1 h.2.2.2.1 h.2.2.2.2
theorem xl_EAAA.{u1} {α1 : Sort u1} {p1 : α1 → Prop} {p2 : α1 → Prop} {p3 : α1 → Prop} {p4 : α1 → Prop} {G : Prop} (h : ∃ x1 : α1, p1 x1 ∧ p2 x1 ∧ p3 x1 ∧ p4 x1) (k : ∀ x1 : α1, p1 x1 → p2 x1 → p3 x1 → p4 x1 → G) : G := Exists.elim (h) fun y4a h4 => k y4a h4.1 h4.2.1 h4.2.2.1 h4.2.2.2
theorem xl_EAAE.{u1, u2} {α1 : Sort u1} {α2 : Sort u2} {p1 : α1 → Prop} {p2 : α1 → Prop} {p3 : α1 → α2 → Prop} {G : Prop} (h : ∃ x1 : α1, p1 x1 ∧ p2 x1 ∧ ∃ x2 : α2, p3 x1 x2) (k : ∀ x1 : α1, p1 x1 → p2 x1 → ∀ x2 : α2, p3 x1 x2 → G) : G := Exists.elim (h) fun y4a h4 => Exists.elim (h4.2.2) fun y1a h1 => k y4a h4.1 h4.2.1 y1a h1
theorem xl_EEAA.{u1, u2} {α1 : Sort u1} {α2 : Sort u2} {p1 : α1 → α2 → Prop} {p2 : α1 → α2 → Prop} {p3 : α1 → α2 → Prop} {G : Prop} (h : ∃ x1 : α1, ∃ x2 : α2, p1 x1 x2 ∧ p2 x1 x2 ∧ p3 x1 x2) (k : ∀ x1 : α1, ∀ x2 : α2, p1 x1 x2 → p2 x1 x2 → p3 x1 x2 → G) : G := xl_EE (h) fun y4a y4b h4 => k y4a y4b h4.1 h4.2.1 h4.2.2
theorem xl_EEEA.{u1, u2, u3} {α1 : Sort u1} {α2 : Sort u2} {α3 : Sort u3} {p1 : α1 → α2 → α3 → Prop} {p2 : α1 → α2 → α3 → Prop} {G : Prop} (h : ∃ x1 : α1, ∃ x2 : α2, ∃ x3 : α3, p1 x1 x2 x3 ∧ p2 x1 x2 x3) (k : ∀ x1 : α1, ∀ x2 : α2, ∀ x3 : α3, p1 x1 x2 x3 → p2 x1 x2 x3 → G) : G := xl_EEE (h) fun y4a y4b y4c h4 => k y4a y4b y4c h4.1 h4.2
theorem xl_AAAAA {p1 : Prop} {p2 : Prop} {p3 : Prop} {p4 : Prop} {p5 : Prop} {p6 : Prop} {G : Prop} (h : p1 ∧ p2 ∧ p3 ∧ p4 ∧ p5 ∧ p6) (k : p1 → p2 → p3 → p4 → p5 → p6 → G) : G := k h.1 h.2.1 h.2.2.1 h.2.2.2.1 h.2.2.2.2.1 h.2.2.2.2.2
theorem xl_EAAAA.{u1} {α1 : Sort u1} {p1 : α1 → Prop} {p2 : α1 → Prop} {p3 : α1 → Prop} {p4 : α1 → Prop} {p5 : α1 → Prop} {G : Prop} (h : ∃ x1 : α1, p1 x1 ∧ p2 x1 ∧ p3 x1 ∧ p4 x1 ∧ p5 x1) (k : ∀ x1 : α1, p1 x1 → p2 x1 → p3 x1 → p4 x1 → p5 x1 → G) : G := Exists.elim (h) fun y5a h5 => k y5a h5.1 h5.2.1 h5.2.2.1 h5.2.2.2.1 h5.2.2.2.2
theorem xl_EEAAA.{u1, u2} {α1 : Sort u1} {α2 : Sort u2} {p1 : α1 → α2 → Prop} {p2 : α1 → α2 → Prop} {p3 : α1 → α2 → Prop} {p4 : α1 → α2 → Prop} {G : Prop} (h : ∃ x1 : α1, ∃ x2 : α2, p1 x1 x2 ∧ p2 x1 x2 ∧ p3 x1 x2 ∧ p4 x1 x2) (k : ∀ x1 : α1, ∀ x2 : α2, p1 x1 x2 → p2 x1 x2 → p3 x1 x2 → p4 x1 x2 → G) : G := xl_EE (h) fun y5a y5b h5 => k y5a y5b h5.1 h5.2.1 h5.2.2.1 h5.2.2.2
theorem xl_EEEAA.{u1, u2, u3} {α1 : Sort u1} {α2 : Sort u2} {α3 : Sort u3} {p1 : α1 → α2 → α3 → Prop} {p2 : α1 → α2 → α3 → Prop} {p3 : α1 → α2 → α3 → Prop} {G : Prop} (h : ∃ x1 : α1, ∃ x2 : α2, ∃ x3 : α3, p1 x1 x2 x3 ∧ p2 x1 x2 x3 ∧ p3 x1 x2 x3) (k : ∀ x1 : α1, ∀ x2 : α2, ∀ x3 : α3, p1 x1 x2 x3 → p2 x1 x2 x3 → p3 x1 x2 x3 → G) : G := xl_EEE (h) fun y5a y5b y5c h5 => k y5a y5b y5c h5.1 h5.2.1 h5.2.2
theorem xl_AAAAAA {p1 : Prop} {p2 : Prop} {p3 : Prop} {p4 : Prop} {p5 : Prop} {p6 : Prop} {p7 : Prop} {G : Prop} (h : p1 ∧ p2 ∧ p3 ∧ p4 ∧ p5 ∧ p6 ∧ p7) (k : p1 → p2 → p3 → p4 → p5 → p6 → p7 → G) : G := k h.1 h.2.1 h.2.2.1 h.2.2.2.1 h.2.2.2.2.1 h.2.2.2.2.2.1 h.2.2.2.2.2.2
theorem xl_AAAEEA.{u1, u2} {α1 : Sort u1} {α2 : Sort u2} {p1 : Prop} {p2 : Prop} {p3 : Prop} {p4 : α1 → α2 → Prop} {p5 : α1 → α2 → Prop} {G : Prop} (h : p1 ∧ p2 ∧ p3 ∧ ∃ x1 : α1, ∃ x2 : α2, p4 x1 x2 ∧ p5 x1 x2) (k : p1 → p2 → p3 → ∀ x1 : α1, ∀ x2 : α2, p4 x1 x2 → p5 x1 x2 → G) : G := xl_EE (h.2.2.2) fun y3a y3b h3 => k h.1 h.2.1 h.2.2.1 y3a y3b h3.1 h3.2
theorem xl_AEEEAA.{u1, u2, u3} {α1 : Sort u1} {α2 : Sort u2} {α3 : Sort u3} {p1 : Prop} {p2 : α1 → α2 → α3 → Prop} {p3 : α1 → α2 → α3 → Prop} {p4 : α1 → α2 → α3 → Prop} {G : Prop} (h : p1 ∧ ∃ x1 : α1, ∃ x2 : α2, ∃ x3 : α3, p2 x1 x2 x3 ∧ p3 x1 x2 x3 ∧ p4 x1 x2 x3) (k : p1 → ∀ x1 : α1, ∀ x2 : α2, ∀ x3 : α3, p2 x1 x2 x3 → p3 x1 x2 x3 → p4 x1 x2 x3 → G) : G := xl_EEE (h.2) fun y5a y5b y5c h5 => k h.1 y5a y5b y5c h5.1 h5.2.1 h5.2.2
theorem xl_EAEEAA.{u1, u2, u3} {α1 : Sort u1} {α2 : Sort u2} {α3 : Sort u3} {p1 : α1 → Prop} {p2 : α1 → α2 → α3 → Prop} {p3 : α1 → α2 → α3 → Prop} {p4 : α1 → α2 → α3 → Prop} {G : Prop} (h : ∃ x1 : α1, p1 x1 ∧ ∃ x2 : α2, ∃ x3 : α3, p2 x1 x2 x3 ∧ p3 x1 x2 x3 ∧ p4 x1 x2 x3) (k : ∀ x1 : α1, p1 x1 → ∀ x2 : α2, ∀ x3 : α3, p2 x1 x2 x3 → p3 x1 x2 x3 → p4 x1 x2 x3 → G) : G := Exists.elim (h) fun y6a h6 => xl_EE (h6.2) fun y4a y4b h4 => k y6a h6.1 y4a y4b h4.1 h4.2.1 h4.2.2
theorem xl_EEAAAA.{u1, u2} {α1 : Sort u1} {α2 : Sort u2} {p1 : α1 → α2 → Prop} {p2 : α1 → α2 → Prop} {p3 : α1 → α2 → Prop} {p4 : α1 → α2 → Prop} {p5 : α1 → α2 → Prop} {G : Prop} (h : ∃ x1 : α1, ∃ x2 : α2, p1 x1 x2 ∧ p2 x1 x2 ∧ p3 x1 x2 ∧ p4 x1 x2 ∧ p5 x1 x2) (k : ∀ x1 : α1, ∀ x2 : α2, p1 x1 x2 → p2 x1 x2 → p3 x1 x2 → p4 x1 x2 → p5 x1 x2 → G) : G := xl_EE (h) fun y6a y6b h6 => k y6a y6b h6.1 h6.2.1 h6.2.2.1 h6.2.2.2.1 h6.2.2.2.2
theorem xl_EEAAEA.{u1, u2, u3} {α1 : Sort u1} {α2 : Sort u2} {α3 : Sort u3} {p1 : α1 → α2 → Prop} {p2 : α1 → α2 → Prop} {p3 : α1 → α2 → α3 → Prop} {p4 : α1 → α2 → α3 → Prop} {G : Prop} (h : ∃ x1 : α1, ∃ x2 : α2, p1 x1 x2 ∧ p2 x1 x2 ∧ ∃ x3 : α3, p3 x1 x2 x3 ∧ p4 x1 x2 x3) (k : ∀ x1 : α1, ∀ x2 : α2, p1 x1 x2 → p2 x1 x2 → ∀ x3 : α3, p3 x1 x2 x3 → p4 x1 x2 x3 → G) : G := xl_EE (h) fun y6a y6b h6 => Exists.elim (h6.2.2) fun y2a h2 => k y6a y6b h6.1 h6.2.1 y2a h2.1 h2.2
theorem xl_EEEAAA.{u1, u2, u3} {α1 : Sort u1} {α2 : Sort u2} {α3 : Sort u3} {p1 : α1 → α2 → α3 → Prop} {p2 : α1 → α2 → α3 → Prop} {p3 : α1 → α2 → α3 → Prop} {p4 : α1 → α2 → α3 → Prop} {G : Prop} (h : ∃ x1 : α1, ∃ x2 : α2, ∃ x3 : α3, p1 x1 x2 x3 ∧ p2 x1 x2 x3 ∧ p3 x1 x2 x3 ∧ p4 x1 x2 x3) (k : ∀ x1 : α1, ∀ x2 : α2, ∀ x3 : α3, p1 x1 x2 x3 → p2 x1 x2 x3 → p3 x1 x2 x3 → p4 x1 x2 x3 → G) : G := xl_EEE (h) fun y6a y6b y6c h6 => k y6a y6b y6c h6.1 h6.2.1 h6.2.2.1 h6.2.2.2
theorem xl_EEEEAA.{u1, u2, u3, u4} {α1 : Sort u1} {α2 : Sort u2} {α3 : Sort u3} {α4 : Sort u4} {p1 : α1 → α2 → α3 → α4 → Prop} {p2 : α1 → α2 → α3 → α4 → Prop} {p3 : α1 → α2 → α3 → α4 → Prop} {G : Prop} (h : ∃ x1 : α1, ∃ x2 : α2, ∃ x3 : α3, ∃ x4 : α4, p1 x1 x2 x3 x4 ∧ p2 x1 x2 x3 x4 ∧ p3 x1 x2 x3 x4) (k : ∀ x1 : α1, ∀ x2 : α2, ∀ x3 : α3, ∀ x4 : α4, p1 x1 x2 x3 x4 → p2 x1 x2 x3 x4 → p3 x1 x2 x3 x4 → G) : G := xl_EEEE (h) fun y6a y6b y6c y6d h6 => k y6a y6b y6c y6d h6.1 h6.2.1 h6.2.2
theorem xl_EAAAAAA.{u1} {α1 : Sort u1} {p1 : α1 → Prop} {p2 : α1 → Prop} {p3 : α1 → Prop} {p4 : α1 → Prop} {p5 : α1 → Prop} {p6 : α1 → Prop} {p7 : α1 → Prop} {G : Prop} (h : ∃ x1 : α1, p1 x1 ∧ p2 x1 ∧ p3 x1 ∧ p4 x1 ∧ p5 x1 ∧ p6 x1 ∧ p7 x1) (k : ∀ x1 : α1, p1 x1 → p2 x1 → p3 x1 → p4 x1 → p5 x1 → p6 x1 → p7 x1 → G) : G := Exists.elim (h) fun y7a h7 => k y7a h7.1 h7.2.1 h7.2.2.1 h7.2.2.2.1 h7.2.2.2.2.1 h7.2.2.2.2.2.1 h7.2.2.2.2.2.2
theorem xl_EEAAAAA.{u1, u2} {α1 : Sort u1} {α2 : Sort u2} {p1 : α1 → α2 → Prop} {p2 : α1 → α2 → Prop} {p3 : α1 → α2 → Prop} {p4 : α1 → α2 → Prop} {p5 : α1 → α2 → Prop} {p6 : α1 → α2 → Prop} {G : Prop} (h : ∃ x1 : α1, ∃ x2 : α2, p1 x1 x2 ∧ p2 x1 x2 ∧ p3 x1 x2 ∧ p4 x1 x2 ∧ p5 x1 x2 ∧ p6 x1 x2) (k : ∀ x1 : α1, ∀ x2 : α2, p1 x1 x2 → p2 x1 x2 → p3 x1 x2 → p4 x1 x2 → p5 x1 x2 → p6 x1 x2 → G) : G := xl_EE (h) fun y7a y7b h7 => k y7a y7b h7.1 h7.2.1 h7.2.2.1 h7.2.2.2.1 h7.2.2.2.2.1 h7.2.2.2.2.2
theorem xl_EEAAAEA.{u1, u2, u3} {α1 : Sort u1} {α2 : Sort u2} {α3 : Sort u3} {p1 : α1 → α2 → Prop} {p2 : α1 → α2 → Prop} {p3 : α1 → α2 → Prop} {p4 : α1 → α2 → α3 → Prop} {p5 : α1 → α2 → α3 → Prop} {G : Prop} (h : ∃ x1 : α1, ∃ x2 : α2, p1 x1 x2 ∧ p2 x1 x2 ∧ p3 x1 x2 ∧ ∃ x3 : α3, p4 x1 x2 x3 ∧ p5 x1 x2 x3) (k : ∀ x1 : α1, ∀ x2 : α2, p1 x1 x2 → p2 x1 x2 → p3 x1 x2 → ∀ x3 : α3, p4 x1 x2 x3 → p5 x1 x2 x3 → G) : G := xl_EE (h) fun y7a y7b h7 => Exists.elim (h7.2.2.2) fun y2a h2 => k y7a y7b h7.1 h7.2.1 h7.2.2.1 y2a h2.1 h2.2
theorem xl_EEAAEAA.{u1, u2, u3} {α1 : Sort u1} {α2 : Sort u2} {α3 : Sort u3} {p1 : α1 → α2 → Prop} {p2 : α1 → α2 → Prop} {p3 : α1 → α2 → α3 → Prop} {p4 : α1 → α2 → α3 → Prop} {p5 : α1 → α2 → α3 → Prop} {G : Prop} (h : ∃ x1 : α1, ∃ x2 : α2, p1 x1 x2 ∧ p2 x1 x2 ∧ ∃ x3 : α3, p3 x1 x2 x3 ∧ p4 x1 x2 x3 ∧ p5 x1 x2 x3) (k : ∀ x1 : α1, ∀ x2 : α2, p1 x1 x2 → p2 x1 x2 → ∀ x3 : α3, p3 x1 x2 x3 → p4 x1 x2 x3 → p5 x1 x2 x3 → G) : G := xl_EE (h) fun y7a y7b h7 => Exists.elim (h7.2.2) fun y3a h3 => k y7a y7b h7.1 h7.2.1 y3a h3.1 h3.2.1 h3.2.2
theorem xl_EEEAAAA.{u1, u2, u3} {α1 : Sort u1} {α2 : Sort u2} {α3 : Sort u3} {p1 : α1 → α2 → α3 → Prop} {p2 : α1 → α2 → α3 → Prop} {p3 : α1 → α2 → α3 → Prop} {p4 : α1 → α2 → α3 → Prop} {p5 : α1 → α2 → α3 → Prop} {G : Prop} (h : ∃ x1 : α1, ∃ x2 : α2, ∃ x3 : α3, p1 x1 x2 x3 ∧ p2 x1 x2 x3 ∧ p3 x1 x2 x3 ∧ p4 x1 x2 x3 ∧ p5 x1 x2 x3) (k : ∀ x1 : α1, ∀ x2 : α2, ∀ x3 : α3, p1 x1 x2 x3 → p2 x1 x2 x3 → p3 x1 x2 x3 → p4 x1 x2 x3 → p5 x1 x2 x3 → G) : G := xl_EEE (h) fun y7a y7b y7c h7 => k y7a y7b y7c h7.1 h7.2.1 h7.2.2.1 h7.2.2.2.1 h7.2.2.2.2
theorem xl_EEEEAAA.{u1, u2, u3, u4} {α1 : Sort u1} {α2 : Sort u2} {α3 : Sort u3} {α4 : Sort u4} {p1 : α1 → α2 → α3 → α4 → Prop} {p2 : α1 → α2 → α3 → α4 → Prop} {p3 : α1 → α2 → α3 → α4 → Prop} {p4 : α1 → α2 → α3 → α4 → Prop} {G : Prop} (h : ∃ x1 : α1, ∃ x2 : α2, ∃ x3 : α3, ∃ x4 : α4, p1 x1 x2 x3 x4 ∧ p2 x1 x2 x3 x4 ∧ p3 x1 x2 x3 x4 ∧ p4 x1 x2 x3 x4) (k : ∀ x1 : α1, ∀ x2 : α2, ∀ x3 : α3, ∀ x4 : α4, p1 x1 x2 x3 x4 → p2 x1 x2 x3 x4 → p3 x1 x2 x3 x4 → p4 x1 x2 x3 x4 → G) : G := xl_EEEE (h) fun y7a y7b y7c y7d h7 => k y7a y7b y7c y7d h7.1 h7.2.1 h7.2.2.1 h7.2.2.2
theorem xl_EEAAAEAA.{u1, u2, u3} {α1 : Sort u1} {α2 : Sort u2} {α3 : Sort u3} {p1 : α1 → α2 → Prop} {p2 : α1 → α2 → Prop} {p3 : α1 → α2 → Prop} {p4 : α1 → α2 → α3 → Prop} {p5 : α1 → α2 → α3 → Prop} {p6 : α1 → α2 → α3 → Prop} {G : Prop} (h : ∃ x1 : α1, ∃ x2 : α2, p1 x1 x2 ∧ p2 x1 x2 ∧ p3 x1 x2 ∧ ∃ x3 : α3, p4 x1 x2 x3 ∧ p5 x1 x2 x3 ∧ p6 x1 x2 x3) (k : ∀ x1 : α1, ∀ x2 : α2, p1 x1 x2 → p2 x1 x2 → p3 x1 x2 → ∀ x3 : α3, p4 x1 x2 x3 → p5 x1 x2 x3 → p6 x1 x2 x3 → G) : G := xl_EE (h) fun y8a y8b h8 => Exists.elim (h8.2.2.2) fun y3a h3 => k y8a y8b h8.1 h8.2.1 h8.2.2.1 y3a h3.1 h3.2.1 h3.2.2
theorem xl_EEEAAAAA.{u1, u2, u3} {α1 : Sort u1} {α2 : Sort u2} {α3 : Sort u3} {p1 : α1 → α2 → α3 → Prop} {p2 : α1 → α2 → α3 → Prop} {p3 : α1 → α2 → α3 → Prop} {p4 : α1 → α2 → α3 → Prop} {p5 : α1 → α2 → α3 → Prop} {p6 : α1 → α2 → α3 → Prop} {G : Prop} (h : ∃ x1 : α1, ∃ x2 : α2, ∃ x3 : α3, p1 x1 x2 x3 ∧ p2 x1 x2 x3 ∧ p3 x1 x2 x3 ∧ p4 x1 x2 x3 ∧ p5 x1 x2 x3 ∧ p6 x1 x2 x3) (k : ∀ x1 : α1, ∀ x2 : α2, ∀ x3 : α3, p1 x1 x2 x3 → p2 x1 x2 x3 → p3 x1 x2 x3 → p4 x1 x2 x3 → p5 x1 x2 x3 → p6 x1 x2 x3 → G) : G := xl_EEE (h) fun y8a y8b y8c h8 => k y8a y8b y8c h8.1 h8.2.1 h8.2.2.1 h8.2.2.2.1 h8.2.2.2.2.1 h8.2.2.2.2.2
theorem xl_EEEEAAAA.{u1, u2, u3, u4} {α1 : Sort u1} {α2 : Sort u2} {α3 : Sort u3} {α4 : Sort u4} {p1 : α1 → α2 → α3 → α4 → Prop} {p2 : α1 → α2 → α3 → α4 → Prop} {p3 : α1 → α2 → α3 → α4 → Prop} {p4 : α1 → α2 → α3 → α4 → Prop} {p5 : α1 → α2 → α3 → α4 → Prop} {G : Prop} (h : ∃ x1 : α1, ∃ x2 : α2, ∃ x3 : α3, ∃ x4 : α4, p1 x1 x2 x3 x4 ∧ p2 x1 x2 x3 x4 ∧ p3 x1 x2 x3 x4 ∧ p4 x1 x2 x3 x4 ∧ p5 x1 x2 x3 x4) (k : ∀ x1 : α1, ∀ x2 : α2, ∀ x3 : α3, ∀ x4 : α4, p1 x1 x2 x3 x4 → p2 x1 x2 x3 x4 → p3 x1 x2 x3 x4 → p4 x1 x2 x3 x4 → p5 x1 x2 x3 x4 → G) : G := xl_EEEE (h) fun y8a y8b y8c y8d h8 => k y8a y8b y8c y8d h8.1 h8.2.1 h8.2.2.1 h8.2.2.2.1 h8.2.2.2.2
theorem xl_EEEEEAAA.{u1, u2, u3, u4, u5} {α1 : Sort u1} {α2 : Sort u2} {α3 : Sort u3} {α4 : Sort u4} {α5 : Sort u5} {p1 : α1 → α2 → α3 → α4 → α5 → Prop} {p2 : α1 → α2 → α3 → α4 → α5 → Prop} {p3 : α1 → α2 → α3 → α4 → α5 → Prop} {p4 : α1 → α2 → α3 → α4 → α5 → Prop} {G : Prop} (h : ∃ x1 : α1, ∃ x2 : α2, ∃ x3 : α3, ∃ x4 : α4, ∃ x5 : α5, p1 x1 x2 x3 x4 x5 ∧ p2 x1 x2 x3 x4 x5 ∧ p3 x1 x2 x3 x4 x5 ∧ p4 x1 x2 x3 x4 x5) (k : ∀ x1 : α1, ∀ x2 : α2, ∀ x3 : α3, ∀ x4 : α4, ∀ x5 : α5, p1 x1 x2 x3 x4 x5 → p2 x1 x2 x3 x4 x5 → p3 x1 x2 x3 x4 x5 → p4 x1 x2 x3 x4 x5 → G) : G := xl_EEEEE (h) fun y8a y8b y8c y8d y8e h8 => k y8a y8b y8c y8d y8e h8.1 h8.2.1 h8.2.2.1 h8.2.2.2
theorem xl_AAAAAAAAA {p1 : Prop} {p2 : Prop} {p3 : Prop} {p4 : Prop} {p5 : Prop} {p6 : Prop} {p7 : Prop} {p8 : Prop} {p9 : Prop} {p10 : Prop} {G : Prop} (h : p1 ∧ p2 ∧ p3 ∧ p4 ∧ p5 ∧ p6 ∧ p7 ∧ p8 ∧ p9 ∧ p10) (k : p1 → p2 → p3 → p4 → p5 → p6 → p7 → p8 → p9 → p10 → G) : G := k h.1 h.2.1 h.2.2.1 h.2.2.2.1 h.2.2.2.2.1 h.2.2.2.2.2.1 h.2.2.2.2.2.2.1 h.2.2.2.2.2.2.2.1 h.2.2.2.2.2.2.2.2.1 h.2.2.2.2.2.2.2.2.2
theorem xl_AEEEEAAAA.{u1, u2, u3, u4} {α1 : Sort u1} {α2 : Sort u2} {α3 : Sort u3} {α4 : Sort u4} {p1 : Prop} {p2 : α1 → α2 → α3 → α4 → Prop} {p3 : α1 → α2 → α3 → α4 → Prop} {p4 : α1 → α2 → α3 → α4 → Prop} {p5 : α1 → α2 → α3 → α4 → Prop} {p6 : α1 → α2 → α3 → α4 → Prop} {G : Prop} (h : p1 ∧ ∃ x1 : α1, ∃ x2 : α2, ∃ x3 : α3, ∃ x4 : α4, p2 x1 x2 x3 x4 ∧ p3 x1 x2 x3 x4 ∧ p4 x1 x2 x3 x4 ∧ p5 x1 x2 x3 x4 ∧ p6 x1 x2 x3 x4) (k : p1 → ∀ x1 : α1, ∀ x2 : α2, ∀ x3 : α3, ∀ x4 : α4, p2 x1 x2 x3 x4 → p3 x1 x2 x3 x4 → p4 x1 x2 x3 x4 → p5 x1 x2 x3 x4 → p6 x1 x2 x3 x4 → G) : G := xl_EEEE (h.2) fun y8a y8b y8c y8d h8 => k h.1 y8a y8b y8c y8d h8.1 h8.2.1 h8.2.2.1 h8.2.2.2.1 h8.2.2.2.2
theorem xl_EEEAAAAAA.{u1, u2, u3} {α1 : Sort u1} {α2 : Sort u2} {α3 : Sort u3} {p1 : α1 → α2 → α3 → Prop} {p2 : α1 → α2 → α3 → Prop} {p3 : α1 → α2 → α3 → Prop} {p4 : α1 → α2 → α3 → Prop} {p5 : α1 → α2 → α3 → Prop} {p6 : α1 → α2 → α3 → Prop} {p7 : α1 → α2 → α3 → Prop} {G : Prop} (h : ∃ x1 : α1, ∃ x2 : α2, ∃ x3 : α3, p1 x1 x2 x3 ∧ p2 x1 x2 x3 ∧ p3 x1 x2 x3 ∧ p4 x1 x2 x3 ∧ p5 x1 x2 x3 ∧ p6 x1 x2 x3 ∧ p7 x1 x2 x3) (k : ∀ x1 : α1, ∀ x2 : α2, ∀ x3 : α3, p1 x1 x2 x3 → p2 x1 x2 x3 → p3 x1 x2 x3 → p4 x1 x2 x3 → p5 x1 x2 x3 → p6 x1 x2 x3 → p7 x1 x2 x3 → G) : G := xl_EEE (h) fun y9a y9b y9c h9 => k y9a y9b y9c h9.1 h9.2.1 h9.2.2.1 h9.2.2.2.1 h9.2.2.2.2.1 h9.2.2.2.2.2.1 h9.2.2.2.2.2.2
theorem xl_EEEEAAAAA.{u1, u2, u3, u4} {α1 : Sort u1} {α2 : Sort u2} {α3 : Sort u3} {α4 : Sort u4} {p1 : α1 → α2 → α3 → α4 → Prop} {p2 : α1 → α2 → α3 → α4 → Prop} {p3 : α1 → α2 → α3 → α4 → Prop} {p4 : α1 → α2 → α3 → α4 → Prop} {p5 : α1 → α2 → α3 → α4 → Prop} {p6 : α1 → α2 → α3 → α4 → Prop} {G : Prop} (h : ∃ x1 : α1, ∃ x2 : α2, ∃ x3 : α3, ∃ x4 : α4, p1 x1 x2 x3 x4 ∧ p2 x1 x2 x3 x4 ∧ p3 x1 x2 x3 x4 ∧ p4 x1 x2 x3 x4 ∧ p5 x1 x2 x3 x4 ∧ p6 x1 x2 x3 x4) (k : ∀ x1 : α1, ∀ x2 : α2, ∀ x3 : α3, ∀ x4 : α4, p1 x1 x2 x3 x4 → p2 x1 x2 x3 x4 → p3 x1 x2 x3 x4 → p4 x1 x2 x3 x4 → p5 x1 x2 x3 x4 → p6 x1 x2 x3 x4 → G) : G := xl_EEEE (h) fun y9a y9b y9c y9d h9 => k y9a y9b y9c y9d h9.1 h9.2.1 h9.2.2.1 h9.2.2.2.1 h9.2.2.2.2.1 h9.2.2.2.2.2
theorem xl_AAAAAAAAAA {p1 : Prop} {p2 : Prop} {p3 : Prop} {p4 : Prop} {p5 : Prop} {p6 : Prop} {p7 : Prop} {p8 : Prop} {p9 : Prop} {p10 : Prop} {p11 : Prop} {G : Prop} (h : p1 ∧ p2 ∧ p3 ∧ p4 ∧ p5 ∧ p6 ∧ p7 ∧ p8 ∧ p9 ∧ p10 ∧ p11) (k : p1 → p2 → p3 → p4 → p5 → p6 → p7 → p8 → p9 → p10 → p11 → G) : G := k h.1 h.2.1 h.2.2.1 h.2.2.2.1 h.2.2.2.2.1 h.2.2.2.2.2.1 h.2.2.2.2.2.2.1 h.2.2.2.2.2.2.2.1 h.2.2.2.2.2.2.2.2.1 h.2.2.2.2.2.2.2.2.2.1 h.2.2.2.2.2.2.2.2.2.2
theorem xl_EEEEAAAAAA.{u1, u2, u3, u4} {α1 : Sort u1} {α2 : Sort u2} {α3 : Sort u3} {α4 : Sort u4} {p1 : α1 → α2 → α3 → α4 → Prop} {p2 : α1 → α2 → α3 → α4 → Prop} {p3 : α1 → α2 → α3 → α4 → Prop} {p4 : α1 → α2 → α3 → α4 → Prop} {p5 : α1 → α2 → α3 → α4 → Prop} {p6 : α1 → α2 → α3 → α4 → Prop} {p7 : α1 → α2 → α3 → α4 → Prop} {G : Prop} (h : ∃ x1 : α1, ∃ x2 : α2, ∃ x3 : α3, ∃ x4 : α4, p1 x1 x2 x3 x4 ∧ p2 x1 x2 x3 x4 ∧ p3 x1 x2 x3 x4 ∧ p4 x1 x2 x3 x4 ∧ p5 x1 x2 x3 x4 ∧ p6 x1 x2 x3 x4 ∧ p7 x1 x2 x3 x4) (k : ∀ x1 : α1, ∀ x2 : α2, ∀ x3 : α3, ∀ x4 : α4, p1 x1 x2 x3 x4 → p2 x1 x2 x3 x4 → p3 x1 x2 x3 x4 → p4 x1 x2 x3 x4 → p5 x1 x2 x3 x4 → p6 x1 x2 x3 x4 → p7 x1 x2 x3 x4 → G) : G := xl_EEEE (h) fun y10a y10b y10c y10d h10 => k y10a y10b y10c y10d h10.1 h10.2.1 h10.2.2.1 h10.2.2.2.1 h10.2.2.2.2.1 h10.2.2.2.2.2.1 h10.2.2.2.2.2.2
theorem xl_EEEEEAAAAA.{u1, u2, u3, u4, u5} {α1 : Sort u1} {α2 : Sort u2} {α3 : Sort u3} {α4 : Sort u4} {α5 : Sort u5} {p1 : α1 → α2 → α3 → α4 → α5 → Prop} {p2 : α1 → α2 → α3 → α4 → α5 → Prop} {p3 : α1 → α2 → α3 → α4 → α5 → Prop} {p4 : α1 → α2 → α3 → α4 → α5 → Prop} {p5 : α1 → α2 → α3 → α4 → α5 → Prop} {p6 : α1 → α2 → α3 → α4 → α5 → Prop} {G : Prop} (h : ∃ x1 : α1, ∃ x2 : α2, ∃ x3 : α3, ∃ x4 : α4, ∃ x5 : α5, p1 x1 x2 x3 x4 x5 ∧ p2 x1 x2 x3 x4 x5 ∧ p3 x1 x2 x3 x4 x5 ∧ p4 x1 x2 x3 x4 x5 ∧ p5 x1 x2 x3 x4 x5 ∧ p6 x1 x2 x3 x4 x5) (k : ∀ x1 : α1, ∀ x2 : α2, ∀ x3 : α3, ∀ x4 : α4, ∀ x5 : α5, p1 x1 x2 x3 x4 x5 → p2 x1 x2 x3 x4 x5 → p3 x1 x2 x3 x4 x5 → p4 x1 x2 x3 x4 x5 → p5 x1 x2 x3 x4 x5 → p6 x1 x2 x3 x4 x5 → G) : G := xl_EEEEE (h) fun y10a y10b y10c y10d y10e h10 => k y10a y10b y10c y10d y10e h10.1 h10.2.1 h10.2.2.1 h10.2.2.2.1 h10.2.2.2.2.1 h10.2.2.2.2.2
theorem xl_AAAAAAAAAAA {p1 : Prop} {p2 : Prop} {p3 : Prop} {p4 : Prop} {p5 : Prop} {p6 : Prop} {p7 : Prop} {p8 : Prop} {p9 : Prop} {p10 : Prop} {p11 : Prop} {p12 : Prop} {G : Prop} (h : p1 ∧ p2 ∧ p3 ∧ p4 ∧ p5 ∧ p6 ∧ p7 ∧ p8 ∧ p9 ∧ p10 ∧ p11 ∧ p12) (k : p1 → p2 → p3 → p4 → p5 → p6 → p7 → p8 → p9 → p10 → p11 → p12 → G) : G := k h.1 h.2.1 h.2.2.1 h.2.2.2.1 h.2.2.2.2.1 h.2.2.2.2.2.1 h.2.2.2.2.2.2.1 h.2.2.2.2.2.2.2.1 h.2.2.2.2.2.2.2.2.1 h.2.2.2.2.2.2.2.2.2.1 h.2.2.2.2.2.2.2.2.2.2.1 h.2.2.2.2.2.2.2.2.2.2.2
theorem xl_EEEEEAAAAAA.{u1, u2, u3, u4, u5} {α1 : Sort u1} {α2 : Sort u2} {α3 : Sort u3} {α4 : Sort u4} {α5 : Sort u5} {p1 : α1 → α2 → α3 → α4 → α5 → Prop} {p2 : α1 → α2 → α3 → α4 → α5 → Prop} {p3 : α1 → α2 → α3 → α4 → α5 → Prop} {p4 : α1 → α2 → α3 → α4 → α5 → Prop} {p5 : α1 → α2 → α3 → α4 → α5 → Prop} {p6 : α1 → α2 → α3 → α4 → α5 → Prop} {p7 : α1 → α2 → α3 → α4 → α5 → Prop} {G : Prop} (h : ∃ x1 : α1, ∃ x2 : α2, ∃ x3 : α3, ∃ x4 : α4, ∃ x5 : α5, p1 x1 x2 x3 x4 x5 ∧ p2 x1 x2 x3 x4 x5 ∧ p3 x1 x2 x3 x4 x5 ∧ p4 x1 x2 x3 x4 x5 ∧ p5 x1 x2 x3 x4 x5 ∧ p6 x1 x2 x3 x4 x5 ∧ p7 x1 x2 x3 x4 x5) (k : ∀ x1 : α1, ∀ x2 : α2, ∀ x3 : α3, ∀ x4 : α4, ∀ x5 : α5, p1 x1 x2 x3 x4 x5 → p2 x1 x2 x3 x4 x5 → p3 x1 x2 x3 x4 x5 → p4 x1 x2 x3 x4 x5 → p5 x1 x2 x3 x4 x5 → p6 x1 x2 x3 x4 x5 → p7 x1 x2 x3 x4 x5 → G) : G := xl_EEEEE (h) fun y11a y11b y11c y11d y11e h11 => k y11a y11b y11c y11d y11e h11.1 h11.2.1 h11.2.2.1 h11.2.2.2.1 h11.2.2.2.2.1 h11.2.2.2.2.2.1 h11.2.2.2.2.2.2
theorem xl_AAAAAAAAAAAA {p1 : Prop} {p2 : Prop} {p3 : Prop} {p4 : Prop} {p5 : Prop} {p6 : Prop} {p7 : Prop} {p8 : Prop} {p9 : Prop} {p10 : Prop} {p11 : Prop} {p12 : Prop} {p13 : Prop} {G : Prop} (h : p1 ∧ p2 ∧ p3 ∧ p4 ∧ p5 ∧ p6 ∧ p7 ∧ p8 ∧ p9 ∧ p10 ∧ p11 ∧ p12 ∧ p13) (k : p1 → p2 → p3 → p4 → p5 → p6 → p7 → p8 → p9 → p10 → p11 → p12 → p13 → G) : G := k h.1 h.2.1 h.2.2.1 h.2.2.2.1 h.2.2.2.2.1 h.2.2.2.2.2.1 h.2.2.2.2.2.2.1 h.2.2.2.2.2.2.2.1 h.2.2.2.2.2.2.2.2.1 h.2.2.2.2.2.2.2.2.2.1 h.2.2.2.2.2.2.2.2.2.2.1 h.2.2.2.2.2.2.2.2.2.2.2.1 h.2.2.2.2.2.2.2.2.2.2.2.2
theorem xl_EEEEEEAAAAAA.{u1, u2, u3, u4, u5, u6} {α1 : Sort u1} {α2 : Sort u2} {α3 : Sort u3} {α4 : Sort u4} {α5 : Sort u5} {α6 : Sort u6} {p1 : α1 → α2 → α3 → α4 → α5 → α6 → Prop} {p2 : α1 → α2 → α3 → α4 → α5 → α6 → Prop} {p3 : α1 → α2 → α3 → α4 → α5 → α6 → Prop} {p4 : α1 → α2 → α3 → α4 → α5 → α6 → Prop} {p5 : α1 → α2 → α3 → α4 → α5 → α6 → Prop} {p6 : α1 → α2 → α3 → α4 → α5 → α6 → Prop} {p7 : α1 → α2 → α3 → α4 → α5 → α6 → Prop} {G : Prop} (h : ∃ x1 : α1, ∃ x2 : α2, ∃ x3 : α3, ∃ x4 : α4, ∃ x5 : α5, ∃ x6 : α6, p1 x1 x2 x3 x4 x5 x6 ∧ p2 x1 x2 x3 x4 x5 x6 ∧ p3 x1 x2 x3 x4 x5 x6 ∧ p4 x1 x2 x3 x4 x5 x6 ∧ p5 x1 x2 x3 x4 x5 x6 ∧ p6 x1 x2 x3 x4 x5 x6 ∧ p7 x1 x2 x3 x4 x5 x6) (k : ∀ x1 : α1, ∀ x2 : α2, ∀ x3 : α3, ∀ x4 : α4, ∀ x5 : α5, ∀ x6 : α6, p1 x1 x2 x3 x4 x5 x6 → p2 x1 x2 x3 x4 x5 x6 → p3 x1 x2 x3 x4 x5 x6 → p4 x1 x2 x3 x4 x5 x6 → p5 x1 x2 x3 x4 x5 x6 → p6 x1 x2 x3 x4 x5 x6 → p7 x1 x2 x3 x4 x5 x6 → G) : G := xl_EEEEEE (h) fun y12a y12b y12c y12d y12e y12f h12 => k y12a y12b y12c y12d y12e y12f h12.1 h12.2.1 h12.2.2.1 h12.2.2.2.1 h12.2.2.2.2.1 h12.2.2.2.2.2.1 h12.2.2.2.2.2.2
theorem xl_EEEEEEEEEEAE.{u1, u2, u3, u4, u5, u6, u7, u8, u9, u10, u11} {α1 : Sort u1} {α2 : Sort u2} {α3 : Sort u3} {α4 : Sort u4} {α5 : Sort u5} {α6 : Sort u6} {α7 : Sort u7} {α8 : Sort u8} {α9 : Sort u9} {α10 : Sort u10} {α11 : Sort u11} {p1 : α1 → α2 → α3 → α4 → α5 → α6 → α7 → α8 → α9 → α10 → Prop} {p2 : α1 → α2 → α3 → α4 → α5 → α6 → α7 → α8 → α9 → α10 → α11 → Prop} {G : Prop} (h : ∃ x1 : α1, ∃ x2 : α2, ∃ x3 : α3, ∃ x4 : α4, ∃ x5 : α5, ∃ x6 : α6, ∃ x7 : α7, ∃ x8 : α8, ∃ x9 : α9, ∃ x10 : α10, p1 x1 x2 x3 x4 x5 x6 x7 x8 x9 x10 ∧ ∃ x11 : α11, p2 x1 x2 x3 x4 x5 x6 x7 x8 x9 x10 x11) (k : ∀ x1 : α1, ∀ x2 : α2, ∀ x3 : α3, ∀ x4 : α4, ∀ x5 : α5, ∀ x6 : α6, ∀ x7 : α7, ∀ x8 : α8, ∀ x9 : α9, ∀ x10 : α10, p1 x1 x2 x3 x4 x5 x6 x7 x8 x9 x10 → ∀ x11 : α11, p2 x1 x2 x3 x4 x5 x6 x7 x8 x9 x10 x11 → G) : G := xl_EEEEEEEEEE (h) fun y12a y12b y12c y12d y12e y12f y12g y12h y12i y12j h12 => Exists.elim (h12.2) fun y1a h1 => k y12a y12b y12c y12d y12e y12f y12g y12h y12i y12j h12.1 y1a h1
theorem xl_AAAAAAAAAAAAA {p1 : Prop} {p2 : Prop} {p3 : Prop} {p4 : Prop} {p5 : Prop} {p6 : Prop} {p7 : Prop} {p8 : Prop} {p9 : Prop} {p10 : Prop} {p11 : Prop} {p12 : Prop} {p13 : Prop} {p14 : Prop} {G : Prop} (h : p1 ∧ p2 ∧ p3 ∧ p4 ∧ p5 ∧ p6 ∧ p7 ∧ p8 ∧ p9 ∧ p10 ∧ p11 ∧ p12 ∧ p13 ∧ p14) (k : p1 → p2 → p3 → p4 → p5 → p6 → p7 → p8 → p9 → p10 → p11 → p12 → p13 → p14 → G) : G := k h.1 h.2.1 h.2.2.1 h.2.2.2.1 h.2.2.2.2.1 h.2.2.2.2.2.1 h.2.2.2.2.2.2.1 h.2.2.2.2.2.2.2.1 h.2.2.2.2.2.2.2.2.1 h.2.2.2.2.2.2.2.2.2.1 h.2.2.2.2.2.2.2.2.2.2.1 h.2.2.2.2.2.2.2.2.2.2.2.1 h.2.2.2.2.2.2.2.2.2.2.2.2.1 h.2.2.2.2.2.2.2.2.2.2.2.2.2
end Mine
end

section
set_option genCtorIdx false
namespace Mine
/-- sums of places and numbers -/
inductive LE where | v (i : Nat) | n (k : Nat) | a (x y : LE) | m (k : Nat) (x : LE)
noncomputable def lget (c : List Nat) (i : Nat) : Nat := List.rec (fun _ => 0) (fun x _ f i => Nat.rec x (fun i _ => f i) i) c i
noncomputable def LE.den (c : List Nat) (e : LE) : Nat := LE.rec (fun i => lget c i) (fun k => k) (fun _ _ i j => i + j) (fun k _ i => k * i) e
noncomputable def LE.co (e : LE) (i : Nat) : Nat := LE.rec (fun j => (Nat.beq i j).toNat) (fun _ => 0) (fun _ _ x y => x + y) (fun k _ x => k * x) e
noncomputable def LE.cst (e : LE) : Nat := LE.rec (fun _ => 0) (fun k => k) (fun _ _ x y => x + y) (fun k _ x => k * x) e
noncomputable def dot (c : List Nat) (f : Nat → Nat) : Nat := List.rec (fun _ => 0) (fun x _ g f => f 0 * x + g fun i => f (i + 1)) c f
theorem dot_add (c : List Nat) : ∀ f g : Nat → Nat, dot c (fun i => f i + g i) = dot c f + dot c g :=
  List.rec (fun _ _ => rfl) (fun x _ ih f g => (congr (congrArg _ (Nat.add_mul _ _ x)) (ih _ _)).trans (Nat.add_add_add_comm _ _ _ _)) c
theorem dot_mul (k : Nat) (c : List Nat) : ∀ f : Nat → Nat, dot c (fun i => k * f i) = k * dot c f :=
  List.rec (fun _ => rfl) (fun x _ ih f => (congr (congrArg _ (Nat.mul_assoc _ _ x)) (ih _)).trans (Nat.mul_add _ _ _).symm) c
theorem dot_zero (c : List Nat) : dot c (fun _ => 0) = 0 :=
  List.rec (motive := fun c => dot c (fun _ => 0) = 0) rfl (fun x _ ih => congr (congrArg _ (Nat.zero_mul x)) ih) c
theorem dot_one (c : List Nat) : ∀ j : Nat, dot c (fun i => (Nat.beq i j).toNat) = lget c j :=
  List.rec (motive := fun c => ∀ j : Nat, dot c (fun i => (Nat.beq i j).toNat) = lget c j) (fun _ => rfl)
    (fun x r ih j => Nat.rec (motive := fun j => dot (x :: r) (fun i => (Nat.beq i j).toNat) = lget (x :: r) j) (congr (congrArg _ (Nat.one_mul x)) (dot_zero r)) (fun j _ => (congr (congrArg _ (Nat.zero_mul x)) (ih j)).trans (Nat.zero_add _)) j) c
theorem LE.den_is (c : List Nat) (e : LE) : e.den c = dot c e.co + e.cst :=
  LE.rec (motive := fun e => e.den c = dot c e.co + e.cst) (fun i => (dot_one c i).symm) (fun k => ((congrArg (· + k) (dot_zero c)).trans (Nat.zero_add k)).symm)
    (fun x y i j => (congr (congrArg _ i) j).trans ((Nat.add_add_add_comm _ _ _ _).trans (congrArg (· + (x.cst + y.cst)) (dot_add c _ _).symm)))
    (fun k x i => (congrArg (k * ·) i).trans ((Nat.mul_add _ _ _).trans (congrArg (· + k * x.cst) (dot_mul k c _).symm))) e
theorem dot_le (c : List Nat) : ∀ f g : Nat → Nat, (∀ i, i < c.length → f i ≤ g i) → dot c f ≤ dot c g :=
  List.rec (motive := fun c => ∀ f g : Nat → Nat, (∀ i, i < c.length → f i ≤ g i) → dot c f ≤ dot c g) (fun _ _ _ => Nat.le_refl _)
    (fun x _ ih _ _ h => Nat.add_le_add (Nat.mul_le_mul_right x (h 0 (Nat.succ_pos _))) (ih _ _ fun i hi => h (i + 1) (Nat.succ_lt_succ hi))) c
noncomputable def LE.le (n : Nat) (x y : LE) : Bool := Nat.rec (Nat.ble x.cst y.cst) (fun i b => and (Nat.ble (x.co i) (y.co i)) b) n
theorem and_of {a b : Bool} (h : and a b = true) : a = true ∧ b = true := Bool.and_eq_true_iff.mp h
theorem LE.le_at (x y : LE) (n : Nat) : LE.le n x y = true → x.cst ≤ y.cst ∧ ∀ i, i < n → x.co i ≤ y.co i :=
  Nat.rec (motive := fun n => LE.le n x y = true → x.cst ≤ y.cst ∧ ∀ i, i < n → x.co i ≤ y.co i) (fun h => ⟨Nat.le_of_ble_eq_true h, fun i hi => absurd hi (Nat.not_lt_zero _)⟩)
    (fun n ih h => ⟨(ih (and_of h).2).1, fun i hi => (Nat.lt_or_eq_of_le (Nat.le_of_lt_succ hi)).elim (fun h1 => (ih (and_of h).2).2 i h1) fun h1 => h1 ▸ Nat.le_of_ble_eq_true (and_of h).1⟩) n
theorem LE.le_of {x y : LE} (c : List Nat) (h : LE.le c.length x y = true) : x.den c ≤ y.den c :=
  Nat.le_trans (Nat.le_of_eq (x.den_is c)) (Nat.le_trans (Nat.add_le_add (dot_le c _ _ (x.le_at y _ h).2) (x.le_at y _ h).1) (Nat.le_of_eq (y.den_is c).symm))
/-- a sum of unequalities gives another -/
noncomputable def imp (c : List Nat) (l r : LE) (cs : List (LE × LE)) : LE → LE → Prop := List.rec (fun L R => LE.le c.length (.a l R) (.a r L) = true → l.den c ≤ r.den c) (fun p _ f L R => p.1.den c ≤ p.2.den c → f (.a p.1 L) (.a p.2 R)) cs
theorem lin_key (c : List Nat) (l r : LE) (cs : List (LE × LE)) : ∀ (L R : LE), L.den c ≤ R.den c → imp c l r cs L R :=
  List.rec (motive := fun cs => ∀ (L R : LE), L.den c ≤ R.den c → imp c l r cs L R) (fun L R h e => Nat.le_of_add_le_add_right (Nat.le_trans (LE.le_of c e) (Nat.add_le_add_left h _)))
    (fun p _ ih L R h h1 => ih (.a p.1 L) (.a p.2 R) (Nat.add_le_add h1 h)) cs
theorem lin (c : List Nat) (l r : LE) (cs : List (LE × LE)) : imp c l r cs (.n 0) (.n 0) := lin_key c l r cs _ _ (Nat.le_refl _)
end Mine
end

section
set_option genCtorIdx false
namespace Mine
/-- the same over whole numbers -/
inductive LI where | v (i : Nat) | n (k : Int) | c (x : LE) | a (x y : LI) | s (x y : LI) | g (x : LI) | m (k : Int) (x : LI)
noncomputable def iget (c : List Int) (i : Nat) : Int := List.rec (fun _ => 0) (fun x _ f i => Nat.rec x (fun i _ => f i) i) c i
noncomputable def LI.den (ci : List Int) (cn : List Nat) (e : LI) : Int := LI.rec (fun i => iget ci i) (fun k => k) (fun x => ((x.den cn : Nat) : Int)) (fun _ _ i j => i + j) (fun _ _ i j => i - j) (fun _ i => -i) (fun k _ i => k * i) e
noncomputable def LI.co (e : LI) (i : Nat) : Int := LI.rec (fun j => ((Nat.beq i j).toNat : Int)) (fun _ => 0) (fun _ => 0) (fun _ _ x y => x + y) (fun _ _ x y => x - y) (fun _ x => -x) (fun k _ x => k * x) e
noncomputable def LI.cn (e : LI) (i : Nat) : Int := LI.rec (fun _ => 0) (fun _ => 0) (fun x => (x.co i : Int)) (fun _ _ x y => x + y) (fun _ _ x y => x - y) (fun _ x => -x) (fun k _ x => k * x) e
noncomputable def LI.cst (e : LI) : Int := LI.rec (fun _ => 0) (fun k => k) (fun x => (x.cst : Int)) (fun _ _ x y => x + y) (fun _ _ x y => x - y) (fun _ x => -x) (fun k _ x => k * x) e
noncomputable def doti (c : List Int) (f : Nat → Int) : Int := List.rec (fun _ => 0) (fun x _ g f => f 0 * x + g fun i => f (i + 1)) c f
theorem iswap (a b c d : Int) : a + b + (c + d) = a + c + (b + d) := by rw [Int.add_assoc, Int.add_left_comm b c d, Int.add_assoc]
theorem doti_add (c : List Int) : ∀ f g : Nat → Int, doti c (fun i => f i + g i) = doti c f + doti c g :=
  List.rec (fun _ _ => rfl) (fun x _ ih f g => (congr (congrArg _ (Int.add_mul _ _ x)) (ih _ _)).trans (iswap _ _ _ _)) c
theorem doti_mul (k : Int) (c : List Int) : ∀ f : Nat → Int, doti c (fun i => k * f i) = k * doti c f :=
  List.rec (fun _ => (Int.mul_zero k).symm) (fun x _ ih f => (congr (congrArg _ (Int.mul_assoc _ _ x)) (ih _)).trans (Int.mul_add _ _ _).symm) c
theorem doti_neg (c : List Int) (f : Nat → Int) : doti c (fun i => -f i) = -doti c f :=
  (congrArg (doti c) (funext fun i => (Int.neg_one_mul (f i)).symm)).trans ((doti_mul (-1) c f).trans (Int.neg_one_mul _))
theorem doti_sub (c : List Int) (f g : Nat → Int) : doti c (fun i => f i - g i) = doti c f - doti c g :=
  (doti_add c f fun i => -g i).trans (congrArg (doti c f + ·) (doti_neg c g))
theorem doti_zero (c : List Int) : doti c (fun _ => 0) = 0 :=
  List.rec (motive := fun c => doti c (fun _ => 0) = 0) rfl (fun x _ ih => (congr (congrArg (· + ·) (Int.zero_mul x)) ih : (0 : Int) * x + doti _ _ = 0 + 0)) c
theorem doti_one (c : List Int) : ∀ j : Nat, doti c (fun i => ((Nat.beq i j).toNat : Int)) = iget c j :=
  List.rec (motive := fun c => ∀ j : Nat, doti c (fun i => ((Nat.beq i j).toNat : Int)) = iget c j) (fun _ => rfl)
    (fun x r ih j => Nat.rec (motive := fun j => doti (x :: r) (fun i => ((Nat.beq i j).toNat : Int)) = iget (x :: r) j) ((congr (congrArg _ (Int.one_mul x)) (doti_zero r)).trans (Int.add_zero x)) (fun j _ => (congr (congrArg _ (Int.zero_mul x)) (ih j)).trans (Int.zero_add _)) j) c
theorem doti_nat (c : List Nat) : ∀ f : Nat → Nat, doti (c.map Int.ofNat) (fun i => (f i : Int)) = ((dot c f : Nat) : Int) :=
  List.rec (motive := fun c => ∀ f : Nat → Nat, doti (c.map Int.ofNat) (fun i => (f i : Int)) = ((dot c f : Nat) : Int)) (fun _ => rfl)
    (fun x _ ih f => (congrArg (((f 0 * x : Nat) : Int) + ·) (ih _))) c
theorem z3 {k a b : Int} (h : a = 0) (h2 : b = 0) : k = a + b + k := by rw [h, h2, Int.add_zero, Int.zero_add]
theorem z1 {k a b : Int} (h : a = k) (h2 : b = 0) : k = a + b + 0 := by rw [h, h2, Int.add_zero, Int.add_zero]
theorem zc {k l a b : Int} (h : a = 0) (h2 : b = k) : k + l = a + b + l := by rw [h, h2, Int.zero_add]
theorem za {x y a b c a2 b2 c2 a3 b3 : Int} (h : x = a + b + c) (h2 : y = a2 + b2 + c2) (h3 : a3 = a + a2) (h4 : b3 = b + b2) : x + y = a3 + b3 + (c + c2) := by rw [h, h2, h3, h4]; exact (iswap _ _ _ _).trans (congrArg (· + (c + c2)) (iswap _ _ _ _))
theorem zs {x y a b c a2 b2 c2 a3 b3 : Int} (h : x = a + b + c) (h2 : y = a2 + b2 + c2) (h3 : a3 = a - a2) (h4 : b3 = b - b2) : x - y = a3 + b3 + (c - c2) := by rw [h, h2, h3, h4, Int.sub_eq_add_neg, Int.neg_add, Int.neg_add]; exact (iswap _ _ _ _).trans (congrArg (· + (c - c2)) (iswap _ _ _ _))
theorem zn {x a b c a3 b3 : Int} (h : x = a + b + c) (h3 : a3 = -a) (h4 : b3 = -b) : -x = a3 + b3 + -c := by rw [h, h3, h4, Int.neg_add, Int.neg_add]
theorem zm {k x a b c a3 b3 : Int} (h : x = a + b + c) (h3 : a3 = k * a) (h4 : b3 = k * b) : k * x = a3 + b3 + k * c := by rw [h, h3, h4, Int.mul_add, Int.mul_add]
theorem LI.den_is (ci : List Int) (cn : List Nat) (e : LI) : e.den ci cn = doti ci e.co + doti (cn.map Int.ofNat) e.cn + e.cst :=
  LI.rec (motive := fun e => e.den ci cn = doti ci e.co + doti (cn.map Int.ofNat) e.cn + e.cst)
    (fun i => z1 (doti_one ci i) (doti_zero _)) (fun k => z3 (doti_zero _) (doti_zero _))
    (fun x => (congrArg Int.ofNat (x.den_is cn)).trans (zc (k := ((dot cn x.co : Nat) : Int)) (l := (x.cst : Int)) (doti_zero _) (doti_nat _ _)))
    (fun x y i j => za i j (doti_add _ _ _) (doti_add _ _ _)) (fun x y i j => zs i j (doti_sub _ _ _) (doti_sub _ _ _)) (fun x i => zn i (doti_neg _ _) (doti_neg _ _)) (fun k x i => zm i (doti_mul _ _ _) (doti_mul _ _ _)) e
theorem doti_le (c : List Nat) : ∀ f g : Nat → Int, (∀ i, i < c.length → f i ≤ g i) → doti (c.map Int.ofNat) f ≤ doti (c.map Int.ofNat) g :=
  List.rec (motive := fun c => ∀ f g : Nat → Int, (∀ i, i < c.length → f i ≤ g i) → doti (c.map Int.ofNat) f ≤ doti (c.map Int.ofNat) g) (fun _ _ _ => Int.le_refl _)
    (fun x _ ih _ _ h => Int.add_le_add (Int.mul_le_mul_of_nonneg_right (h 0 (Nat.succ_pos _)) (Int.natCast_nonneg x)) (ih _ _ fun i hi => h (i + 1) (Nat.succ_lt_succ hi))) c
theorem doti_eq (c : List Int) : ∀ f g : Nat → Int, (∀ i, i < c.length → f i = g i) → doti c f = doti c g :=
  List.rec (motive := fun c => ∀ f g : Nat → Int, (∀ i, i < c.length → f i = g i) → doti c f = doti c g) (fun _ _ _ => rfl)
    (fun x _ ih f g h => (congr (congrArg (fun y z => y * x + z) (h 0 (Nat.succ_pos _))) (ih _ _ fun i hi => h (i + 1) (Nat.succ_lt_succ hi)) : f 0 * x + doti _ _ = g 0 * x + doti _ _)) c
noncomputable def allN (p : Nat → Bool) (n : Nat) : Bool := Nat.rec true (fun i b => and (p i) b) n
theorem allN.at {p : Nat → Bool} (n : Nat) : allN p n = true → ∀ i, i < n → p i = true :=
  Nat.rec (motive := fun n => allN p n = true → ∀ i, i < n → p i = true) (fun _ i hi => absurd hi (Nat.not_lt_zero _))
    (fun n ih h i hi => (Nat.lt_or_eq_of_le (Nat.le_of_lt_succ hi)).elim (fun h1 => ih (and_of h).2 i h1) fun h1 => h1 ▸ (and_of h).1) n
noncomputable def LI.le (ni nn : Nat) (x y : LI) : Bool := and (allN (fun i => decide (x.co i = y.co i)) ni) (and (allN (fun i => decide (x.cn i ≤ y.cn i)) nn) (decide (x.cst ≤ y.cst)))
theorem LI.le_of {x y : LI} (ci : List Int) (cn : List Nat) (h : LI.le ci.length cn.length x y = true) : x.den ci cn ≤ y.den ci cn :=
  Int.le_trans (Int.le_of_eq ((x.den_is ci cn).trans (congrArg (fun z => z + doti (cn.map Int.ofNat) x.cn + x.cst) (doti_eq ci _ _ fun i hi => of_decide_eq_true (allN.at _ (and_of h).1 i hi)))))
    (Int.le_trans (Int.add_le_add (Int.add_le_add_left (doti_le cn _ _ fun i hi => of_decide_eq_true (allN.at _ (and_of (and_of h).2).1 i hi)) _) (of_decide_eq_true (and_of (and_of h).2).2)) (Int.le_of_eq (y.den_is ci cn).symm))
noncomputable def impI (ci : List Int) (cn : List Nat) (l r : LI) (cs : List (LI × LI)) : LI → LI → Prop := List.rec (fun L R => LI.le ci.length cn.length (.a l R) (.a r L) = true → l.den ci cn ≤ r.den ci cn) (fun p _ f L R => p.1.den ci cn ≤ p.2.den ci cn → f (.a p.1 L) (.a p.2 R)) cs
theorem linI_key (ci : List Int) (cn : List Nat) (l r : LI) (cs : List (LI × LI)) : ∀ (L R : LI), L.den ci cn ≤ R.den ci cn → impI ci cn l r cs L R :=
  List.rec (motive := fun cs => ∀ (L R : LI), L.den ci cn ≤ R.den ci cn → impI ci cn l r cs L R) (fun L R h e => Int.le_of_add_le_add_right (Int.le_trans (LI.le_of ci cn e) (Int.add_le_add_left h _)))
    (fun p _ ih L R h h1 => ih (.a p.1 L) (.a p.2 R) (Int.add_le_add h1 h)) cs
theorem linI (ci : List Int) (cn : List Nat) (l r : LI) (cs : List (LI × LI)) : impI ci cn l r cs (.n 0) (.n 0) := linI_key ci cn l r cs _ _ (Int.le_refl _)
theorem dec_lt {a b : Nat} : decide ((a : Int) < (b : Int)) = decide (a < b) := decide_eq_decide.mpr Int.ofNat_lt
theorem dec_le {a b : Nat} : decide ((a : Int) ≤ (b : Int)) = decide (a ≤ b) := decide_eq_decide.mpr Int.ofNat_le
theorem beq_nat {a b : Nat} : ((a : Int) == (b : Int)) = decide (a = b) := by
  rw [Bool.eq_iff_iff, beq_iff_eq, decide_eq_true_eq, Int.natCast_inj]
theorem toNat_plus {n : Nat} {k : Int} (hk : 0 ≤ k) : ((n : Int) + k).toNat = n + k.toNat := by
  obtain ⟨k, rfl⟩ := Int.eq_ofNat_of_zero_le hk
  rfl
theorem min_one {n : Nat} : min 1 n ≤ 1 := Nat.min_le_left 1 n
theorem succ_ne {n : Nat} : ((n + 1 : Nat) : Int) ≠ 0 := fun e => Nat.succ_ne_zero n (Int.ofNat.inj e)
theorem sub_back {n y : Nat} (h : y + 1 ≤ n) : n - y = (n - (y + 1)) + 1 := (Nat.succ_sub_succ n y).symm.trans (Nat.succ_sub h)
theorem neg_at {n : Nat} : ((-1 : Int) + ((n + 1 : Nat) : Int)).toNat = n := by
  rw [Int.natCast_add, Int.add_comm]; exact congrArg Int.toNat (Int.add_sub_cancel (n : Int) 1)
theorem on1 {n : Nat} : (1 : Int) = ((n + 1 : Nat) : Int) - (n : Int) := by
  rw [Int.natCast_add, Int.add_comm]; exact (Int.add_sub_cancel 1 (n : Int)).symm
theorem on2 {n : Nat} : (2 : Int) = ((n + 1 + 1 : Nat) : Int) - (n : Int) := by
  rw [Nat.add_assoc, Int.natCast_add, Int.add_comm]; exact (Int.add_sub_cancel 2 (n : Int)).symm
theorem le2 {n : Nat} : n + 1 ≤ n + 1 + 1 := Nat.le_succ _
theorem tup3 {α β γ : Type} {P : α × β × γ → Prop} (h : ∀ a b c, P (a, b, c)) : ∀ x, P x := fun x => h x.1 x.2.1 x.2.2
theorem tup4 {α β γ δ : Type} {P : α × β × γ × δ → Prop} (h : ∀ a b c d, P (a, b, c, d)) : ∀ x, P x := fun x => h x.1 x.2.1 x.2.2.1 x.2.2.2
theorem tup6 {α β γ δ ε ζ : Type} {P : α × β × γ × δ × ε × ζ → Prop} (h : ∀ a b c d e f, P (a, b, c, d, e, f)) : ∀ x, P x := fun x => h x.1 x.2.1 x.2.2.1 x.2.2.2.1 x.2.2.2.2.1 x.2.2.2.2.2
theorem tup7 {α β γ δ ε ζ η : Type} {P : α × β × γ × δ × ε × ζ × η → Prop} (h : ∀ a b c d e f g, P (a, b, c, d, e, f, g)) : ∀ x, P x := fun x => h x.1 x.2.1 x.2.2.1 x.2.2.2.1 x.2.2.2.2.1 x.2.2.2.2.2.1 x.2.2.2.2.2.2
theorem tup8 {α β γ δ ε ζ η θ : Type} {P : α × β × γ × δ × ε × ζ × η × θ → Prop} (h : ∀ a b c d e f g h, P (a, b, c, d, e, f, g, h)) : ∀ x, P x := fun x => h x.1 x.2.1 x.2.2.1 x.2.2.2.1 x.2.2.2.2.1 x.2.2.2.2.2.1 x.2.2.2.2.2.2.1 x.2.2.2.2.2.2.2
end Mine
end

section
open PySem PySem.W PySem.Calls PyProof.Rows
namespace Mine

/-- tokens are only ever handed out -/
theorem runs_toks {M : Model} {Γ : Ctx} {p : Pos} {t : Sem Fin} {fs : List PySem.Frame} {s s' : Shared} {e : End} (h : Runs M Γ p t fs s e s') : s.toks ≤ s'.toks := by
  induction h
  all_goals first
    | exact Nat.le_refl _
    | assumption
    | exact Nat.le_trans (Nat.le_succ _) (by assumption)
    | (rename_i h1 h2; exact Nat.le_trans h1 h2)
theorem wakes_toks {M : Model} {Γ : Ctx} {p : Pos} {g : Nat} {r : Resume} {s s' : Shared} {res : GenResult} (h : Wakes M Γ p g r s res s') : s.toks ≤ s'.toks := by
  unfold Wakes at h
  split at h
  · exact h.elim
  · split at h
    · refine xl_EEAAA h fun e₁ s₁ h1 _ _ zr1 => ?_; try clear h; subst zr1; exact (show s.toks ≤ s₁.toks from runs_toks (s := s.setGen g .running) h1)
    · obtain ⟨_, rfl⟩ := h; exact Nat.le_refl _
    · obtain ⟨_, rfl⟩ := h; exact Nat.le_refl _
  · refine xl_EEAAA h fun e₁ s₁ h1 _ _ zr4 => ?_; try clear h; subst zr4; exact (show s.toks ≤ s₁.toks from runs_toks (s := s.setGen g .running) h1)
  · obtain ⟨_, rfl⟩ := h; exact Nat.le_refl _
  · obtain ⟨_, rfl⟩ := h; exact Nat.le_refl _
theorem wp_toks {α : Type} {M : Model} {Γ : Ctx} (t : Sem α) {Q : α → Pos → Shared → Prop} {E : Value → Pos → Shared → Prop} : ∀ {n : Nat} {p : Pos} {s : Shared}, n ≤ s.toks →
    Sem.wp M Γ t (fun a p' s' => n ≤ s'.toks → Q a p' s') (fun a p' s' => n ≤ s'.toks → E a p' s') p s → Sem.wp M Γ t Q E p s := by
  induction t with
  | pure a => intro n p s hn h; exact h hn
  | raise a => intro n p s hn h; exact h hn
  | call c hd g l k ih => intro n p s hn h; refine xl_EEA h fun r s' h1 h2 => ?_; try clear h; exact ⟨r, s', h1, ih r (Nat.le_trans hn (runs_toks h1)) h2⟩
  | resume g r l k ih => intro n p s hn h; refine xl_EEA h fun r' s' h1 h2 => ?_; try clear h; exact ⟨r', s', h1, ih r' (Nat.le_trans hn (wakes_toks h1)) h2⟩
  | fresh k ih => intro n p s hn h; exact ih _ (Nat.le_trans hn (Nat.le_succ _)) h
  | load a part k ih => intro n p s hn h; refine xl_EA h fun o h1 h2 => ?_; try clear h; exact ⟨o, h1, ih _ hn h2⟩
  | update a part f k ih => intro n p s hn h; exact ⟨h.1, ih _ (s := { s with heap := _ }) hn h.2⟩
  | alloc o k ih => intro n p s hn h; exact ih _ (s := { s with heap := _ }) hn h
  | choose src m k ih => intro n p s hn h; exact ⟨h.1, ih _ (s := { s with drawn := _ }) hn h.2⟩
  | os q l k ih => intro n p s hn h; exact ih _ (s := { s with os := _ }) hn h
  | genState g k ih => intro n p s hn h; refine xl_EA h fun o h1 h2 => ?_; try clear h; exact ⟨o, h1, ih _ hn h2⟩
  | newGen c k ih => intro n p s hn h; exact ih _ (s := { s with gens := _ }) hn h
  | _ => 
    intro n p s hn h
    first | exact h | (rename_i ih; exact ih _ hn h)
/-- whatever runs: the count of tokens does not sink -/
theorem wpAny_tk {α : Type} {M : Model} {A : Around} {t : Sem α} {Q : α → Shared → Prop} {E : Value → Shared → Prop} {s : Shared}
    (h : wpAny M A t (fun a s' => s.toks ≤ s'.toks → Q a s') (fun a s' => s.toks ≤ s'.toks → E a s') s) : wpAny M A t Q E s := fun Γ p hΓ => wp_toks (n := s.toks) t (Nat.le_refl _) (h Γ p hΓ)
theorem codeAny_tk {M : Model} {A : Around} {c : Code} {R : Result → Shared → Prop} {s : Shared} (h : codeAny M A c (fun r s' => s.toks ≤ s'.toks → R r s') s) : codeAny M A c R s := fun Γ p hc hΓ => by
  refine xl_EEA (h Γ p hc hΓ) fun r s' h1 h2 => ?_
  exact ⟨r, s', h1, h2 (runs_toks h1)⟩
end Mine
end

section
open PySem PySem.W PySem.Calls PyProof.Rows
namespace Mine

/-- an abstract value: tuples are values, other objects are addresses -/
inductive AV where
  | none | bool (b : Bool) | int (i : Int) | str (x : Str) | ref (a : Addr) | tup (vs : List AV) | ty (n : String) | bi (n : String)

/-- what of a heap values may lie in -/
noncomputable abbrev View := Addr → Option Obj
noncomputable abbrev tupObj (vs : List Value) (n : Nat) : Obj := { cls := .type "tuple", data := .seq vs.toArray n }

mutual
inductive VIs (h : View) : AV → Value → Prop
  | none : VIs h .none .none
  | bool (b : Bool) : VIs h (.bool b) (.bool b)
  | int (i : Int) (t : Tok) : VIs h (.int i) (.int i t)
  | str (x : Str) (t : Tok) : VIs h (.str x) (.str x t)
  | ref (a : Addr) : VIs h (.ref a) (.ref a)
  | ty (n : String) : VIs h (.ty n) (.type n)
  | bi (n : String) : VIs h (.bi n) (.builtin n)
  | tup {as : List AV} {vs : List Value} {a : Addr} {n : Nat} : h a = some (tupObj vs n) → VsIs h as vs → VIs h (.tup as) (.ref a)
inductive VsIs (h : View) : List AV → List Value → Prop
  | nil : VsIs h [] []
  | cons {a : AV} {v : Value} {as : List AV} {vs : List Value} : VIs h a v → VsIs h as vs → VsIs h (a :: as) (v :: vs)
end

noncomputable def VIs.den (h : View) (a : AV) (P : Value → Prop) : Prop :=
  AV.casesOn a (P .none) (fun b => P (.bool b)) (fun i => ∀ t, P (.int i t)) (fun x => ∀ t, P (.str x t)) (fun l => P (.ref l)) (fun as => ∀ vs l n, h l = some (tupObj vs n) → VsIs h as vs → P (.ref l)) (fun n => P (.type n)) (fun n => P (.builtin n))
theorem VIs.at0 {h : View} {a : AV} {v : Value} {P : Value → Prop} (q : VIs h a v) (k : VIs.den h a P) : P v :=
  VIs.casesOn (motive_1 := fun a v _ => VIs.den h a P → P v) q (fun k => k) (fun _ k => k) (fun _ t k => k t) (fun _ t k => k t) (fun _ k => k) (fun _ k => k) (fun _ k => k) (fun e r k => k _ _ _ e r) k
@[elab_as_elim] theorem VIs.at {h : View} {a : AV} {v : Value} {P : Value → Prop} (q : VIs h a v) (k : VIs.den h a P) : P v := q.at0 k
@[elab_as_elim] theorem VIs.at_eq {h : View} {a b : AV} {v : Value} {P : Value → Prop} (q : VIs h a v) (e : a = b) (k : VIs.den h b P) : P v := VIs.at0 (e ▸ q) k
theorem VIs.den_of {h : View} {a : AV} {P : Value → Prop} (k : ∀ v, VIs h a v → P v) : VIs.den h a P :=
  AV.casesOn (motive_1 := fun a => (∀ v, VIs h a v → P v) → VIs.den h a P) a (fun k => k _ .none) (fun _ k => k _ (.bool _)) (fun _ k t => k _ (.int _ t)) (fun _ k t => k _ (.str _ t)) (fun _ k => k _ (.ref _)) (fun _ k _ _ _ e r => k _ (.tup e r)) (fun _ k => k _ (.ty _)) (fun _ k => k _ (.bi _)) k
noncomputable def VsIs.den (h : View) (as : List AV) : (List Value → Prop) → Prop :=
  List.rec (motive := fun _ => (List Value → Prop) → Prop) (fun P => P []) (fun a _ ih P => VIs.den h a fun v => ih fun vs => P (v :: vs)) as
theorem VsIs.at {h : View} : ∀ (as : List AV) (vs : List Value) (P : List Value → Prop), VsIs h as vs → VsIs.den h as P → P vs :=
  List.rec (fun vs P q k => by cases q; exact k) (fun a as ih vs P q k => by cases q with | cons q r => exact ih _ (fun vs => P (_ :: vs)) r (q.at (P := fun v => VsIs.den h as fun vs => P (v :: vs)) k))

@[elab_as_elim] theorem VsIs.nil_at {h : View} {vs : List Value} {P : List Value → Prop} (q : VsIs h [] vs) (k : P []) : P vs := by cases q; exact k
@[elab_as_elim] theorem VsIs.cons_at {h : View} {a : AV} {as : List AV} {vs : List Value} {P : List Value → Prop} (q : VsIs h (a :: as) vs) (k : ∀ v r, VIs h a v → VsIs h as r → P (v :: r)) : P vs := by cases q with | cons q r => exact k _ _ q r

@[elab_as_elim] theorem VsIs.go {h : View} {as : List AV} {vs : List Value} {P : List Value → Prop} (q : VsIs h as vs) (k : VsIs.den h as P) : P vs := q.at _ _ _ k
@[elab_as_elim] theorem VsIs.go_eq {h : View} {as bs : List AV} {vs : List Value} {P : List Value → Prop} (q : VsIs h as vs) (e : as = bs) (k : VsIs.den h bs P) : P vs := VsIs.at bs vs P (e ▸ q) k
noncomputable def TupKeep (h h' : View) : Prop := ∀ b vs n, h b = some (tupObj vs n) → h' b = some (tupObj vs n)

theorem VIs.mono {h h' : View} (k : TupKeep h h') : ∀ {a : AV} {v : Value}, VIs h a v → VIs h' a v := fun t =>
  VIs.rec (motive_1 := fun a v _ => VIs h' a v) (motive_2 := fun as vs _ => VsIs h' as vs)
    .none .bool .int .str .ref .ty .bi (fun e _ i => .tup (k _ _ _ e) i) .nil (fun _ _ i j => .cons i j) t
theorem VsIs.mono {h h' : View} (k : TupKeep h h') : ∀ {as : List AV} {vs : List Value}, VsIs h as vs → VsIs h' as vs := fun t =>
  VsIs.rec (motive_1 := fun _ _ _ => True) (motive_2 := fun as vs _ => VsIs h' as vs)
    trivial (fun _ => trivial) (fun _ _ => trivial) (fun _ _ => trivial) (fun _ => trivial) (fun _ => trivial) (fun _ => trivial) (fun _ _ _ => trivial) .nil (fun a _ _ j => .cons (a.mono k) j) t
theorem VsIs.length {h : View} : ∀ {as : List AV} {vs : List Value}, VsIs h as vs → vs.length = as.length := fun t =>
  VsIs.rec (motive_1 := fun _ _ _ => True) (motive_2 := fun as vs _ => vs.length = as.length)
    trivial (fun _ => trivial) (fun _ _ => trivial) (fun _ _ => trivial) (fun _ => trivial) (fun _ => trivial) (fun _ => trivial) (fun _ _ _ => trivial) rfl (fun _ _ _ j => congrArg Nat.succ j) t
theorem VsIs.append {h : View} {as bs : List AV} {vs ws : List Value} (x : VsIs h as vs) (y : VsIs h bs ws) : VsIs h (as ++ bs) (vs ++ ws) := by
  induction as generalizing vs with
  | nil => cases x; exact y
  | cons a as ih => cases x with | cons p q => exact .cons p (ih q)
theorem VsIs.get {h : View} : ∀ {as : List AV} {vs : List Value}, VsIs h as vs → ∀ {i : Nat} {a : AV}, as[i]? = some a → ∃ v, vs[i]? = some v ∧ VIs h a v := fun {as vs} t {i a} e =>
  VsIs.rec (motive_1 := fun _ _ _ => True) (motive_2 := fun as vs _ => ∀ (i : Nat) (a : AV), as[i]? = some a → ∃ v, vs[i]? = some v ∧ VIs h a v)
    trivial (fun _ => trivial) (fun _ _ => trivial) (fun _ _ => trivial) (fun _ => trivial) (fun _ => trivial) (fun _ => trivial) (fun _ _ _ => trivial)
    (fun i a e => by rw [List.getElem?_nil] at e; injection e) (fun x _ _ j i a e => by
      induction i with
      | zero => exact ⟨_, rfl, Option.some.inj e ▸ x⟩
      | succ i => exact j i a e) t i a e

/-- the ledger: what the call has made and may change -/
noncomputable abbrev Ledger := Addr → Option Obj
noncomputable def Ledger.set (N : Ledger) (a : Addr) (o : Obj) : Ledger := fun b => if b = a then some o else N b
theorem Ledger.set_self (N : Ledger) (a : Addr) (o : Obj) : N.set a o a = some o := if_pos rfl
theorem Ledger.set_ne (N : Ledger) {a b : Addr} (o : Obj) (h : b ≠ a) : N.set a o b = N b := if_neg h
/-- values lie outside the ledger: a tuple of the ledger is a private one -/
noncomputable def Ledger.see (N : Ledger) (h : Heap) : View := fun a => match N a with | some _ => none | none => h.get? a
theorem Ledger.see_of {N : Ledger} {h : Heap} {a : Addr} {o : Obj} (e : N.see h a = some o) : N a = none ∧ h.get? a = some o := by
  unfold Ledger.see at e
  split at e
  · injection e
  · rename_i q; exact ⟨q, e⟩
theorem Ledger.see_is {N : Ledger} {h : Heap} {a : Addr} {o : Obj} (q : N a = none) (e : h.get? a = some o) : N.see h a = some o := by
  unfold Ledger.see; rw [q]; exact e
theorem see_keep {N : Ledger} {h h' : Heap} (k : ∀ b o, h.get? b = some o → h'.get? b = some o) : TupKeep (N.see h) (N.see h') := fun b vs n e => let ⟨q, e'⟩ := Ledger.see_of e; Ledger.see_is q (k _ _ e')

inductive AO where
  | inst (C : Addr) (fs : List (Str × AV))
  | list (vs : List AV)
  | dict (w : World) (kvs : List (Str × AV))

noncomputable abbrev AHeap := Addr → Option AO
noncomputable def AHeap.set (H : AHeap) (a : Addr) (o : AO) : AHeap := fun b => if b = a then some o else H b
theorem AHeap.set_self (H : AHeap) (a : Addr) (o : AO) : H.set a o a = some o := if_pos rfl
theorem AHeap.set_ne (H : AHeap) {a b : Addr} (o : AO) (h : b ≠ a) : H.set a o b = H b := if_neg h

inductive FsIs (h : View) : List (Str × AV) → List DictEntry → Prop
  | nil : FsIs h [] []
  | cons {n : Str} {t : Tok} {hs : Int} {a : AV} {v : Value} {fs : List (Str × AV)} {es : List DictEntry} : VIs h a v → FsIs h fs es → FsIs h ((n, a) :: fs) (⟨hs, .str n t, v⟩ :: es)
theorem FsIs.mono {h h' : View} (k : TupKeep h h') {fs : List (Str × AV)} {es : List DictEntry} (x : FsIs h fs es) : FsIs h' fs es := by
  induction x with
  | nil => exact .nil
  | cons v _ ih => exact .cons (v.mono k) ih
theorem FsIs.length {h : View} {fs : List (Str × AV)} {es : List DictEntry} (x : FsIs h fs es) : es.length = fs.length := by
  induction x with
  | nil => rfl
  | cons _ _ ih => simp [ih]
theorem FsIs.noRef {h : View} {fs : List (Str × AV)} {es : List DictEntry} (x : FsIs h fs es) : es.any (·.refKey) = false := by
  induction x with
  | nil => rfl
  | cons _ _ ih => simp only [List.any_cons, ih, Bool.or_false]; rfl
theorem isStr_str (n : Str) (t : Tok) (x : Str) : Value.isStr (.str n t) x = (n == x) := rfl
theorem FsIs.get {h : View} {fs : List (Str × AV)} {es : List DictEntry} (x : FsIs h fs es) {n : Str} {a : AV} (e : fs.lookup n = some a) : ∃ v, getL n es = some (some v) ∧ VIs h a v := by
  have key : ∃ en, es.find? (·.key.isStr n) = some en ∧ VIs h a en.val := by
    induction x with
    | nil => injection e
    | @cons m t hs b v fs es p _ ih =>
      rw [List.lookup_cons] at e
      by_cases q : n = m
      · subst q
        simp only [beq_self_eq_true] at e
        cases e
        exact ⟨_, by rw [List.find?_cons, show Value.isStr (.str n t) n = true from by rw [isStr_str]; exact beq_self_eq_true n], p⟩
      · rw [beq_eq_false_iff_ne.mpr q] at e
        refine xl_EA (ih e) fun en h1 h2 => ?_
        refine ⟨en, ?_, h2⟩
        rw [List.find?_cons, show Value.isStr (.str m t) n = false from by rw [isStr_str]; exact beq_eq_false_iff_ne.mpr (Ne.symm q)]
        exact h1
  refine xl_EA key fun en h1 h2 => ?_; try clear key
  exact ⟨en.val, by unfold getL; rw [h1], h2⟩
theorem FsIs.getNone {h : View} {fs : List (Str × AV)} {es : List DictEntry} (x : FsIs h fs es) {n : Str} (e : fs.lookup n = none) : getL n es = some none := by
  have key : es.find? (·.key.isStr n) = none := by
    induction x with
    | nil => rfl
    | @cons m t hs b v fs es p _ ih =>
      rw [List.lookup_cons] at e
      by_cases q : n = m
      · subst q; simp only [beq_self_eq_true] at e; injection e
      · rw [beq_eq_false_iff_ne.mpr q] at e
        rw [List.find?_cons, show Value.isStr (.str m t) n = false from by rw [isStr_str]; exact beq_eq_false_iff_ne.mpr (Ne.symm q)]
        exact ih e
  unfold getL
  rw [key]
  dsimp only
  rw [if_neg (by rw [x.noRef]; simp)]
theorem FsIs.getSome {h : View} {fs : List (Str × AV)} {es : List DictEntry} (x : FsIs h fs es) (n : Str) : (getL n es).isSome = true := by
  cases q : fs.lookup n with
  | none => rw [x.getNone q]; rfl
  | some a => refine xl_EA (x.get q) fun v e _ => ?_; rw [e]; rfl

noncomputable def fput : List (Str × AV) → Str → AV → List (Str × AV)
  | [], n, a => [(n, a)]
  | (m, b) :: r, n, a => if m = n then (m, a) :: r else (m, b) :: fput r n a
theorem FsIs.put {h : View} {fs : List (Str × AV)} {es : List DictEntry} (x : FsIs h fs es) {n : Str} {t : Tok} {hs : Int} {a : AV} {v : Value} (p : VIs h a v) : FsIs h (fput fs n a) (putL n hs (.str n t) v es) := by
  induction x with
  | nil => exact .cons p .nil
  | @cons m t' hs' b w fs es q r ih =>
    unfold fput putL
    by_cases z : m = n
    · subst z
      rw [if_pos rfl, if_pos (by show Value.isStr (.str m t') m = true; rw [isStr_str]; exact beq_self_eq_true m)]
      exact .cons p r
    · rw [if_neg z, if_neg (by show ¬ Value.isStr (.str m t') n = true; rw [isStr_str]; simpa using z)]
      exact .cons q ih

noncomputable def ORel (N : Ledger) (h : View) (a : Addr) : AO → Prop
  | .list vs => ∃ ws n, N a = some (listOf ws.toArray n) ∧ VsIs h vs ws
  | .inst C fs => ∃ dx es n, N a = some (instObj C dx) ∧ N dx = some (dictOf es n) ∧ FsIs h fs es
  | .dict w kvs => ∃ es n, N a = some (dictOf es n) ∧ FsIs h kvs es ∧ (∀ x C, N x ≠ some (instObj C a)) ∧ ∀ e ∈ es, ∃ k t, e.key = .str k t ∧ e.hash = hashStr w k

theorem ORel.mono {N : Ledger} {h h' : View} (k : TupKeep h h') {a : Addr} {o : AO} (x : ORel N h a o) : ORel N h' a o := by
  induction o with
  | list vs => refine xl_EEA x fun ws n e r => ?_; try clear x; exact ⟨ws, n, e, r.mono k⟩
  | inst C fs => refine xl_EEEAA x fun dx es n e1 e2 r => ?_; try clear x; exact ⟨dx, es, n, e1, e2, r.mono k⟩
  | dict w kvs => refine xl_EEAA x fun es n e1 r z => ?_; try clear x; exact ⟨es, n, e1, r.mono k, z⟩

/-- the context of the whole walk -/
structure Cx where
  prog : Program
  w : World
  K : Frag
  p : Program
  loose : List Str
  mg : Str → Option Value
  mb : Str → Option Value
  B : Heap
structure Cx.Ok (c : Cx) : Prop where
  kin : c.K.In c.B
  top : TopRead c.p c.loose c.mg c.mb c.B

/-- a frame -/
structure Frm where
  A : Around
  env : Env
  fenv : Env
  outer : List Env
  Lf : Addr
/-- the addresses of the frames below and of this one -/
noncomputable def Frm.frs (f : Frm) : List Addr := (f.fenv :: f.outer).filterMap (·.frame)
structure St where
  m : List (Str × AV)
  H : AHeap

noncomputable def okKind (o : Obj) : Prop := (∃ its n, o = listOf its n) ∨ (∃ es n, o = dictOf es n) ∨ (∃ C dx, o = instObj C dx) ∨ ∃ vs n, o = tupObj vs n

structure FOk (c : Cx) (sc : Scope) (b : Nat) (f : Frm) : Prop where
  ok : c.Ok
  scope : f.env.scope = sc
  kind : sc.kind = .function
  glob : f.env.globals = mainGlobals
  bins : f.env.builtins = builtinsNs
  frame : f.env.frame = some f.Lf
  fframe : f.fenv.frame = some f.Lf
  frames : f.A.frames = some (f.fenv :: f.outer)
  room : f.A.depth + 4 * b + 8 < recursionLimit
  units : f.A.units + 16 * b + 32 < cLine
  handled : f.A.handled = none

structure Rp (c : Cx) (f : Frm) (s : Shared) (σ : St) (N : Ledger) : Prop where
  loc : ∃ mc, Fr c.B f.env.locals s.heap mc ∧ ∀ x a, σ.m.lookup x = some a → ∃ v, mc x = some v ∧ VIs (N.see s.heap) a v
  led : ∀ a o, N a = some o → s.heap.get? a = some o ∧ c.B.get? a = none ∧ a ≠ f.env.locals ∧ okKind o ∧ a ∉ f.frs
  inj : ∀ x y C C' dx, N x = some (instObj C dx) → N y = some (instObj C' dx) → x = y
  dicts : ∀ x C dx, N x = some (instObj C dx) → ∃ es n, N dx = some (dictOf es n)
  rel : ∀ a o, σ.H a = some o → ORel N (N.see s.heap) a o
  ff : s.heap.FunFrames c.B (f.fenv :: f.outer)
  fd : ∀ b ∈ f.frs, ∃ o es n, s.heap.get? b = some o ∧ o.data = .dict es n
  tok : 0 < s.toks

structure Step (L : Addr) (s : Shared) (N : Ledger) (s' : Shared) (N' : Ledger) : Prop where
  shape : s' = { s with heap := s'.heap, toks := s'.toks }
  tup : TupKeep (N.see s.heap) (N'.see s'.heap)
  rest : ∀ b o, s.heap.get? b = some o → b ≠ L → N b = none → ∃ sl, s'.heap.get? b = some { o with slots := sl }
  new : ∀ b, N' b ≠ none → N b ≠ none ∨ s.heap.get? b = none
  mono : ∀ b o, s.heap.get? b = some o → ∃ o', s'.heap.get? b = some o'
  exact : ∀ b o, s.heap.get? b = some o → b ≠ L → N b = none → (∀ es n, o.data ≠ .dict es n) → s'.heap.get? b = some o
  priv : ∀ b vs n, N b = some (tupObj vs n) → N' b = some (tupObj vs n)

theorem Step.refl (L : Addr) (s : Shared) (N : Ledger) : Step L s N s N :=
  ⟨rfl, fun _ _ _ e => e, fun _ o e _ _ => ⟨o.slots, e⟩, fun _ h => .inl h, fun _ o e => ⟨o, e⟩, fun _ _ e _ _ _ => e, fun _ _ _ e => e⟩
theorem Step.stays_out {L : Addr} {s s₁ : Shared} {N N₁ : Ledger} (x : Step L s N s₁ N₁) {b : Addr} {o : Obj} (e : s.heap.get? b = some o) (hN : N b = none) : N₁ b = none := by
  cases q : N₁ b with
  | none => rfl
  | some o' =>
    rcases x.new b (by rw [q]; exact fun z => nomatch z) with z | z
    · exact absurd hN z
    · rw [e] at z; injection z
theorem Step.trans {L : Addr} {s s₁ s₂ : Shared} {N N₁ N₂ : Ledger} (x : Step L s N s₁ N₁) (y : Step L s₁ N₁ s₂ N₂) : Step L s N s₂ N₂ := by
  refine ⟨?_, fun b vs n e => y.tup b vs n (x.tup b vs n e), fun b o e hb hN => ?_, fun b h => ?_, fun b o e => ?_, fun b o e hb hN hd => y.exact b o (x.exact b o e hb hN hd) hb (x.stays_out e hN) hd, fun b vs n e => y.priv b vs n (x.priv b vs n e)⟩
  · have h2 := y.shape
    have h1 := x.shape
    rw [h1] at h2
    exact h2
  · obtain ⟨sl, h2⟩ := x.rest b o e hb hN
    obtain ⟨sl', h4⟩ := y.rest b _ h2 hb (x.stays_out e hN)
    exact ⟨sl', h4⟩
  · rcases y.new b h with z | z
    · exact x.new b z
    · right
      cases q : s.heap.get? b with
      | none => rfl
      | some o => obtain ⟨o', e⟩ := x.mono b o q; rw [e] at z; injection z
  · obtain ⟨o', e'⟩ := x.mono b o e
    exact y.mono b o' e'
theorem Step.of_keeps {L : Addr} {s : Shared} {N : Ledger} {h' : Heap} {t : Nat} (k : ∀ b o, s.heap.get? b = some o → h'.get? b = some o) : Step L s N { s with heap := h', toks := t } N :=
  ⟨rfl, see_keep k, fun b o e _ _ => ⟨o.slots, k b o e⟩, fun _ h => .inl h, fun b o e => ⟨o, k b o e⟩, fun b o e _ _ _ => k b o e, fun _ _ _ e => e⟩
theorem Step.fresh {L : Addr} {s s' : Shared} {N N' : Ledger} (x : Step L s N s' N') {b : Addr} (h : s'.heap.get? b = none) : s.heap.get? b = none := by
  cases q : s.heap.get? b with
  | none => rfl
  | some o => obtain ⟨o', e⟩ := x.mono b o q; rw [e] at h; injection h

theorem dict_ne_tup {es : List DictEntry} {n m : Nat} {vs : List Value} (h : dictOf es n = tupObj vs m) : False := by
  have := congrArg Obj.data h; injection this
theorem list_ne_tup {its : Array Value} {n m : Nat} {vs : List Value} (h : listOf its n = tupObj vs m) : False := by
  have := congrArg Obj.cls h
  injection this with this
  exact absurd this (by decide)
theorem inst_ne_tup {C dx : Addr} {m : Nat} {vs : List Value} (h : instObj C dx = tupObj vs m) : False := by
  have := congrArg Obj.data h; injection this
theorem okKind.notFields {o : Obj} (k : okKind o) : ∀ vs, o.data ≠ .fields vs := by
  rcases k with ⟨_, _, rfl⟩ | ⟨_, _, rfl⟩ | ⟨_, _, rfl⟩ | ⟨_, _, rfl⟩ <;> (intro vs q; injection q)
theorem okKind.free {o : Obj} (k : okKind o) : o.isFreed = false := by
  rcases k with ⟨_, _, rfl⟩ | ⟨_, _, rfl⟩ | ⟨_, _, rfl⟩ | ⟨_, _, rfl⟩ <;> rfl

section
variable {c : Cx} {f : Frm} {s : Shared} {σ : St} {N : Ledger}
theorem Rp.keeps (R : Rp c f s σ N) {h' : Heap} {t : Nat} (k : ∀ b o, s.heap.get? b = some o → h'.get? b = some o) (ht : s.toks ≤ t := by first | exact Nat.le_refl _ | exact Nat.le_succ _ | exact Nat.le_succ_of_le (Nat.le_succ _) | assumption | omega | (dsimp only; omega)) : Rp c f { s with heap := h', toks := t } σ N := by
  obtain ⟨⟨mc, F, hm⟩, led, inj, dicts, rel, ff, fd, tok⟩ := R
  have tk : TupKeep (N.see s.heap) (N.see h') := see_keep k
  refine ⟨⟨mc, F.keeps k, fun x a e => ?_⟩, fun a o e => ⟨k _ _ (led a o e).1, (led a o e).2⟩, inj, dicts, fun a o e => (rel a o e).mono tk, ff.of_keeps fun b o e _ => ⟨o, k b o e, rfl⟩, fun b hb => let ⟨o, es, n, h1, h2⟩ := fd b hb; ⟨o, es, n, k _ _ h1, h2⟩, Nat.lt_of_lt_of_le tok ht⟩
  refine xl_EA (hm x a e) fun v h1 h2 => ?_
  exact ⟨v, h1, h2.mono tk⟩
theorem Rp.toks (R : Rp c f s σ N) {t : Nat} (ht : s.toks ≤ t := by first | exact Nat.le_refl _ | exact Nat.le_succ _ | exact Nat.le_succ_of_le (Nat.le_succ _) | assumption | omega | (dsimp only; omega)) : Rp c f { s with toks := t } σ N := R.keeps (h' := s.heap) (fun _ _ e => e) ht
theorem Rp.stays (R : Rp c f s σ N) : ∀ b o, c.B.get? b = some o → s.heap.get? b = some o := let ⟨_, F, _⟩ := R.loc; F.keep
theorem Rp.kin (R : Rp c f s σ N) (ok : c.Ok) : c.K.In s.heap := ok.kin.keeps R.stays
theorem Rp.base_lt (R : Rp c f s σ N) {b : Addr} (h : s.heap.get? b = none) : c.B.get? b = none := by
  cases q : c.B.get? b with
  | none => rfl
  | some o => have := R.stays b o q; rw [h] at this; injection this
/-- values of the base are seen -/
theorem Rp.base_see (R : Rp c f s σ N) : TupKeep c.B.get? (N.see s.heap) := fun b vs n e => Ledger.see_is (by
  cases q : N b with
  | none => rfl
  | some o => have := (R.led _ _ q).2.1; rw [e] at this; injection this) (R.stays b _ e)
theorem Rp.base (R : Rp c f s σ N) {a : AV} {v : Value} (h : VIs c.B.get? a v) : VIs (N.see s.heap) a v := h.mono R.base_see
theorem Rp.H_of_none (R : Rp c f s σ N) {b : Addr} (h : s.heap.get? b = none) : σ.H b = none := by
  cases q : σ.H b with
  | none => rfl
  | some o =>
    have z := R.rel b o q
    induction o with
    | list vs => refine xl_EEA z fun ws n e _ => ?_; try clear z; have := (R.led _ _ e).1; rw [h] at this; injection this
    | inst C fs => refine xl_EEEA z fun dx es n e _ => ?_; try clear z; have := (R.led _ _ e).1; rw [h] at this; injection this
    | dict w kvs => refine xl_EEA z fun es n e _ => ?_; try clear z; have := (R.led _ _ e).1; rw [h] at this; injection this
theorem Rp.N_of_none (R : Rp c f s σ N) {b : Addr} (h : s.heap.get? b = none) : N b = none := by
  cases q : N b with
  | none => rfl
  | some o => have := (R.led _ _ q).1; rw [h] at this; injection this
theorem Rp.locThere (R : Rp c f s σ N) : ∃ o, s.heap.get? f.env.locals = some o := by
  refine xl_EA R.loc fun mc F _ => ?_
  refine xl_EEEA F.ns fun o _ _ ho _ => ?_
  exact ⟨o, ho⟩

theorem Rp.see_new (R : Rp c f s σ N) {h' : Heap} {a : Addr} {o : Obj} (h0 : s.heap.get? a = none) (e : h'.get? a = some o) : N.see h' a = some o := Ledger.see_is (R.N_of_none h0) e
theorem none_at (h : Heap) : h.get? h.objs.size = none := Heap.get?_none_of_le (Nat.le_refl _)

theorem funFrames_of {h h' base : Heap} (k : ∀ b o, h.get? b = some o → (∀ vs, o.data ≠ .fields vs) → ∃ o', h'.get? b = some o' ∧ ∀ vs, o'.data ≠ .fields vs) : ∀ {l : List Env}, h.FunFrames base l → h'.FunFrames base l
  | [], _ => trivial
  | _ :: _, ⟨hk, ⟨L, o, hf, hn, ho, hd⟩, hr⟩ => by
    refine xl_EA (k L o ho hd) fun o' h1 h2 => ?_
    exact ⟨hk, ⟨L, o', hf, hn, h1, h2⟩, funFrames_of k hr⟩

/-- a store into the frame -/
theorem Rp.store (R : Rp c f s σ N) {h' : Heap} {t : Nat} {x : Str} {a : AV} {v : Value} {mc : Str → Option Value} (F : Fr c.B f.env.locals s.heap mc) (hm : ∀ x a, σ.m.lookup x = some a → ∃ v, mc x = some v ∧ VIs (N.see s.heap) a v)
    (hn : h'.Ns f.env.locals (fun y => if y = x then some v else mc y)) (hs : Heap.SameBut f.env.locals s.heap h') (hv : VIs (N.see s.heap) a v)
    (m' : List (Str × AV)) (hm' : ∀ y b, m'.lookup y = some b → (y = x ∧ b = a) ∨ (y ≠ x ∧ σ.m.lookup y = some b)) (ht : s.toks ≤ t := by first | exact Nat.le_refl _ | exact Nat.le_succ _ | exact Nat.le_succ_of_le (Nat.le_succ _) | assumption | omega | (dsimp only; omega)) :
    Rp c f { s with heap := h', toks := t } ⟨m', σ.H⟩ N ∧ Step f.env.locals s N { s with heap := h', toks := t } N := by
  obtain ⟨_, led, inj, dicts, rel, ff, fd, tok⟩ := R
  refine xl_EEEAA F.ns fun oL esL epL hoL hdL _ => ?_
  refine xl_EEEAA (id hn) fun oN esN epN hoN hdN _ => ?_
  have tk : TupKeep (N.see s.heap) (N.see h') := fun b vs n e => by
    obtain ⟨q, e⟩ := Ledger.see_of e
    by_cases z : b = f.env.locals
    · subst z; rw [hoL] at e; cases e; cases hdL
    · exact Ledger.see_is q ((hs.2 b z).trans e)
  refine ⟨⟨⟨_, F.set hn hs, fun y b e => ?_⟩, fun a o e => ?_, inj, dicts, fun a o e => (rel a o e).mono tk, funFrames_of (fun b o e hnf => ?_) ff, fun b hb => ?_, Nat.lt_of_lt_of_le tok ht⟩, ⟨rfl, tk, fun b o e hb _ => ⟨o.slots, (hs.2 b hb).trans e⟩, fun _ h => .inl h, fun b o e => ?_, fun b o e hb _ _ => (hs.2 b hb).trans e, fun _ _ _ e => e⟩⟩
  · rcases hm' y b e with ⟨rfl, rfl⟩ | ⟨h1, h2⟩
    · exact ⟨v, if_pos rfl, hv.mono tk⟩
    · refine xl_EA (hm y b h2) fun v' e1 e2 => ?_
      exact ⟨v', by rw [if_neg h1]; exact e1, e2.mono tk⟩
  · have z := led a o e
    exact ⟨(hs.2 a z.2.2.1).trans z.1, z.2⟩
  · by_cases z : b = f.env.locals
    · subst z
      exact ⟨oN, hoN, fun vs q => by rw [hdN] at q; injection q⟩
    · exact ⟨o, (hs.2 b z).trans e, hnf⟩
  · by_cases z : b = f.env.locals
    · subst z; exact ⟨oN, esN, epN, hoN, hdN⟩
    · refine xl_EEEA (fd b hb) fun o es n h1 h2 => ?_; exact ⟨o, es, n, (hs.2 b z).trans h1, h2⟩
  · by_cases z : b = f.env.locals
    · subst z; exact ⟨oN, hoN⟩
    · exact ⟨o, (hs.2 b z).trans e⟩
end
end Mine
end

section
open PySem PySem.W PySem.Calls PyProof.Rows
namespace Mine

/-- the address of the class whose objects are raised -/
noncomputable abbrev SF : Addr := 51

noncomputable def TB (nt : Bool) (fl : Option Addr) (s : Shared) (N' : Ledger) (e : Addr) (vs : Array Value) (h : Heap) : Prop :=
  (nt = false ∧ vs[1]? = some .none) ∨ ∃ T oT ts, vs[1]? = some (.ref T) ∧ h.get? T = some oT ∧ oT.data = .fields ts ∧ T ≠ e ∧ 4 ≤ ts.size ∧ (ts[3]? = some .none ∨ ∃ L, fl = some L ∧ ts[3]? = some (rawInt L)) ∧ s.heap.get? T = none ∧ N' T = none

/-- an exception in flight, seen from the state s where the evaluation began -/
structure Fl (nt : Bool) (fl : Option Addr) (s : Shared) (N' : Ledger) (e : Addr) (line : Int) (h : Heap) : Prop where
  e0 : s.heap.get? e = none
  eN : N' e = none
  there : ∃ dx sl vs es n t, h.get? e = some ⟨.ref SF, some dx, .fields vs, sl⟩ ∧ h.get? dx = some (dictOf es n) ∧ getL "line" es = some (some (.int line t)) ∧ N' dx = none ∧ s.heap.get? dx = none ∧ vs.size = 6 ∧ TB nt fl s N' e vs h

noncomputable def Pst (c : Cx) (f : Frm) (s : Shared) (N : Ledger) {α : Type} (R : α → View → St → Prop) : α → Shared → Prop := fun a s' =>
  ∃ σ' N', Step f.env.locals s N s' N' ∧ Rp c f s' σ' N' ∧ R a (N'.see s'.heap) σ'
noncomputable def PXg (nt : Bool) (fl : Option Addr) (c : Cx) (f : Frm) (s : Shared) (N : Ledger) (X : Int → St → Prop) : Value → Shared → Prop := fun ev s' =>
  ∃ e σ' N' line, ev = .ref e ∧ Step f.env.locals s N s' N' ∧ Rp c f s' σ' N' ∧ Fl nt fl s N' e line s'.heap ∧ X line σ'
noncomputable abbrev PX (c : Cx) (f : Frm) (s : Shared) (N : Ledger) (X : Int → St → Prop) : Value → Shared → Prop := PXg false (some f.Lf) c f s N X

section
variable {c : Cx} {f : Frm} {s s₁ : Shared} {N N₁ : Ledger}
theorem Pst.trans {α : Type} {R : α → View → St → Prop} (x : Step f.env.locals s N s₁ N₁) {a : α} {s' : Shared} (y : Pst c f s₁ N₁ R a s') : Pst c f s N R a s' :=
  xl_EEA y fun σ' N' h1 h2 => ⟨σ', N', x.trans h1, h2⟩
theorem Fl.back {nt : Bool} {fl : Option Addr} {s s₁ : Shared} {L : Addr} (x : Step L s N s₁ N₁) {N' : Ledger} {e : Addr} {line : Int} {h : Heap} (y : Fl nt fl s₁ N' e line h) : Fl nt fl s N' e line h := by
  have e0 := y.e0
  have eN := y.eN
  refine xl_EEEEEEAAAAAA y.there fun dx sl vs es n t h1 h2 h3 h4 h5 h6 h7 => ?_
  refine ⟨x.fresh e0, eN, dx, sl, vs, es, n, t, h1, h2, h3, h4, x.fresh h5, h6, ?_⟩
  rcases h7 with h7 | ⟨T, oT, ts, g1, g2, g3, g4, g5, g6, g7, g8⟩
  · exact .inl h7
  · exact .inr ⟨T, oT, ts, g1, g2, g3, g4, g5, g6, x.fresh g7, g8⟩
theorem PXg.trans {nt : Bool} {fl : Option Addr} {X : Int → St → Prop} (x : Step f.env.locals s N s₁ N₁) {a : Value} {s' : Shared} (y : PXg nt fl c f s₁ N₁ X a s') : PXg nt fl c f s N X a s' :=
  xl_EEEEAAAA y fun e σ' N' line h0 h1 h2 h3 h4 => ⟨e, σ', N', line, h0, x.trans h1, h2, h3.back x, h4⟩
theorem Pst.mono {α : Type} {R R' : α → View → St → Prop} {a : α} {s' : Shared} (y : Pst c f s N R a s') (h : ∀ V σ', R a V σ' → R' a V σ') : Pst c f s N R' a s' :=
  xl_EEAA y fun σ' N' h1 h2 h3 => ⟨σ', N', h1, h2, h _ _ h3⟩
theorem PXg.mono {nt : Bool} {fl : Option Addr} {X X' : Int → St → Prop} {a : Value} {s' : Shared} (y : PXg nt fl c f s N X a s') (h : ∀ l σ, X l σ → X' l σ) : PXg nt fl c f s N X' a s' :=
  xl_EEEEAAAA y fun e σ' N' line h0 h1 h2 h3 h4 => ⟨e, σ', N', line, h0, h1, h2, h3, h _ _ h4⟩

/-- what the machine's own notes change: the exception, its tracebacks, the frames' slots -/
structure Notes (frs : List Addr) (U : Addr → Prop) (h h' : Heap) : Prop where
  exact : ∀ b o, h.get? b = some o → b ∉ frs → ¬ U b → h'.get? b = some o
  slots : ∀ b o, h.get? b = some o → ¬ U b → ∃ sl, h'.get? b = some { o with slots := sl }

theorem Notes.trans {frs : List Addr} {U : Addr → Prop} {h h' h'' : Heap} (x : Notes frs U h h') (y : Notes frs U h' h'') : Notes frs U h h'' :=
  ⟨fun b o e k u => y.exact b o (x.exact b o e k u) k u, fun b o e u => Exists.elim (x.slots b o e u) fun _ e' => Exists.elim (y.slots b _ e' u) fun sl e'' => ⟨sl, e''⟩⟩

theorem Rp.notes {σ : St} (R : Rp c f s σ N) {U : Addr → Prop} {h' : Heap} {t : Nat} (x : Notes f.frs U s.heap h') (u1 : ∀ b, U b → c.B.get? b = none) (u2 : ∀ b, U b → N b = none)
    (u3 : ∀ b o, U b → s.heap.get? b = some o → ∃ vs, o.data = .fields vs) (ht : s.toks ≤ t := by first | exact Nat.le_refl _ | exact Nat.le_succ _ | exact Nat.le_succ_of_le (Nat.le_succ _) | assumption | omega | (dsimp only; omega)) : Rp c f { s with heap := h', toks := t } σ N := by
  obtain ⟨⟨mc, F, hm⟩, led, inj, dicts, rel, ff, fd, tok⟩ := R
  have nofr : ∀ b o, s.heap.get? b = some o → (∀ es n, o.data ≠ .dict es n) → b ∉ f.frs := fun b o e h q => by
    refine xl_EEEA (fd b q) fun o' es n h1 h2 => ?_
    rw [e] at h1; cases h1; exact h es n h2
  have tk : TupKeep (N.see s.heap) (N.see h') := fun b vs n e => by
    obtain ⟨z, e⟩ := Ledger.see_of e
    exact Ledger.see_is z (x.exact b _ e (nofr b _ e fun _ _ q => by injection q) fun q => by obtain ⟨ws, q⟩ := u3 b _ q e; injection q)
  have nu : ∀ b o, s.heap.get? b = some o → (∀ vs, o.data ≠ .fields vs) → ¬ U b := fun b o e h q => by obtain ⟨ws, q⟩ := u3 b o q e; exact h ws q
  refine ⟨⟨mc, ?_, fun y a e => ?_⟩, fun a o e => ?_, inj, dicts, fun a o e => (rel a o e).mono tk, funFrames_of (fun b o e hnf => ?_) ff, fun b hb => ?_, Nat.lt_of_lt_of_le tok ht⟩
  · obtain ⟨⟨o, es, ep, h1, h2, h3⟩, h4, h5⟩ := F
    obtain ⟨sl, h6⟩ := x.slots _ o h1 (nu _ _ h1 fun vs q => by rw [h2] at q; injection q)
    refine ⟨⟨_, es, ep, h6, h2, h3⟩, fun b o e => x.exact b o (h4 b o e) (fun q => ?_) fun q => ?_, h5⟩
    · rw [(ff.mem q).1] at e; injection e
    · rw [u1 b q] at e; injection e
  · refine xl_EA (hm y a e) fun v h1 h2 => ?_; exact ⟨v, h1, h2.mono tk⟩
  · refine xl_AAAA (led a o e) fun h1 h2 h3 h4 h5 => ?_
    exact ⟨x.exact a o h1 h5 (fun q => by rw [u2 a q] at e; injection e), h2, h3, h4, h5⟩
  · obtain ⟨sl, h6⟩ := x.slots b o e (nu b o e hnf); exact ⟨_, h6, hnf⟩
  · refine xl_EEEA (fd b hb) fun o es n h1 h2 => ?_
    obtain ⟨sl, h6⟩ := x.slots b o h1 (nu b o h1 fun vs q => by rw [h2] at q; injection q)
    exact ⟨_, es, n, h6, h2⟩
theorem Step.notes {L : Addr} {s' : Shared} {N' : Ledger} (y : Step L s N s' N') {frs : List Addr} {U : Addr → Prop} {h' : Heap} {t : Nat} (x : Notes frs U s'.heap h') (u : ∀ b, U b → s.heap.get? b = none)
    (fr : ∀ b ∈ frs, ∃ o es n, s'.heap.get? b = some o ∧ o.data = .dict es n) : Step L s N { s' with heap := h', toks := t } N' := by
  obtain ⟨h1, h2, h3, h4, h5, h6, h7⟩ := y
  have nu : ∀ b o, s.heap.get? b = some o → ¬ U b := fun b o e q => by rw [u b q] at e; cases e
  have nf : ∀ b o, s'.heap.get? b = some o → (∀ es n, o.data ≠ .dict es n) → b ∉ frs := fun b o e hd q => by
    refine xl_EEEA (fr b q) fun o' es n g1 g2 => ?_
    rw [e] at g1; cases g1; exact hd _ _ g2
  refine ⟨by rw [h1], fun b vs n e => ?_, fun b o e hb hN => ?_, h4, fun b o e => ?_, fun b o e hb hN hd => ?_, h7⟩
  · have e0 := (Ledger.see_of e).2
    obtain ⟨z, e⟩ := Ledger.see_of (h2 b vs n e)
    exact Ledger.see_is z (x.exact b _ e (nf b _ e fun _ _ q => by injection q) (nu b _ e0))
  · obtain ⟨sl, g⟩ := h3 b o e hb hN
    obtain ⟨sl', g'⟩ := x.slots b _ g (nu b o e)
    exact ⟨sl', g'⟩
  · obtain ⟨o', g⟩ := h5 b o e; obtain ⟨sl, g'⟩ := x.slots b o' g (nu b o e); exact ⟨_, g'⟩
  · exact x.exact b o (h6 b o e hb hN hd) (nf b o (h6 b o e hb hN hd) hd) (nu b o e)

/-- the notes are taken on the exception e and, if there, its traceback T -/
noncomputable def Us (e : Addr) (T : Option Addr) (b : Addr) : Prop := b = e ∨ T = some b

theorem PXg.step {nt' : Bool} {fl' : Option Addr} {X : Int → St → Prop} {e : Addr} {σ' : St} {N' : Ledger} {line : Int} {s' : Shared} {U : Addr → Prop} {h' : Heap}
    (h1 : Step f.env.locals s N s' N') (h2 : Rp c f s' σ' N') (hX : X line σ') (x : Notes f.frs U s'.heap h') (u1 : ∀ b, U b → s.heap.get? b = none) (u2 : ∀ b, U b → N' b = none)
    (u3 : ∀ b o, U b → s'.heap.get? b = some o → ∃ vs, o.data = .fields vs) (hB : ∀ b o, c.B.get? b = some o → s.heap.get? b = some o) (h3 : Fl nt' fl' s N' e line h') : PXg nt' fl' c f s N X (.ref e) { s' with heap := h' } :=
  ⟨e, σ', N', line, rfl, h1.notes x u1 h2.fd, h2.notes x (fun b q => by
    cases z : c.B.get? b with
    | none => rfl
    | some o => have := hB b o z; rw [u1 b q] at this; injection this) u2 u3, h3, hX⟩

theorem dict_ne_fields {h : Heap} {a b : Addr} {o : Obj} {vs : Array Value} {es : List DictEntry} {n : Nat} (ha : h.get? a = some (dictOf es n)) (hb : h.get? b = some o) (hd : o.data = .fields vs) : a ≠ b := by
  rintro rfl; rw [ha] at hb; cases hb; cases hd

section
variable {M : Model} {A : Around} {E : Value → Shared → Prop} {X : Int → St → Prop}
theorem flight_x {fl : Option Addr} {ev : Value} {s' : Shared} (fr : Option Addr) (hB : ∀ b o, c.B.get? b = some o → s.heap.get? b = some o) (h : PXg true fl c f s N X ev s') {Q : Unit → Shared → Prop}
    (hQ : ∀ s'', PXg true fr c f s N X ev s'' → Q () s'') : wpAny M A (setFlight ev fr) Q E s' := by
  refine xl_EEEEAAAA h fun e σ' N' line ee h1 h2 fl hX => ?_; clear h; subst ee
  have e0 := fl.e0
  have eN := fl.eN
  refine xl_EEEEEEAAAAAA fl.there fun dx sl vs es n t g1 g2 g3 g4 g5 g6 g7 => ?_
  rcases g7 with ⟨z, _⟩ | ⟨T, oT, ts, k1, k2, k3, k4, k5, k6, k7, k8⟩
  · injection z
  unfold setFlight
  refine wpAny_bind (wpAny_field g1 rfl k1 ?_)
  rw [if_pos (show (Value.ref T != Value.none) = true from by simp)]
  refine wpAny_setField k2 k3 (by exact lin [_] (.a (.n 3) (.n 1)) (.v 0) [((.n 4), (.v 0))] k5 rfl) (hQ _ ?_)
  have hdx : dx ≠ T := dict_ne_fields g2 k2 k3
  have ot : ∀ b, b ≠ T → (s'.heap.update T (Obj.mapFields (·.setIfInBounds 3 (fr.elim .none fun f => rawInt f)))).get? b = s'.heap.get? b := fun b hb => Heap.get?_update_other _ _ (Ne.symm hb)
  have hT := Heap.get?_update_self (Obj.mapFields (·.setIfInBounds 3 (fr.elim Value.none fun f => rawInt f))) k2 (Obj.isFreed_of_fields (Obj.data_mapFields k3 _))
  refine PXg.step (s' := s') (U := fun b => b = T) h1 h2 hX ⟨fun b o q _ u => (ot b u).trans q, fun b o q u => ⟨o.slots, (ot b u).trans q⟩⟩ (fun b q => q ▸ k7) (fun b q => q ▸ k8) (fun b o q r => by subst q; rw [k2] at r; cases r; exact ⟨_, k3⟩) hB
    ⟨e0, eN, dx, sl, vs, es, n, t, (ot e (Ne.symm k4)).trans g1, (ot dx hdx).trans g2, g3, g4, g5, g6, .inr ⟨T, _, _, k1, hT, Obj.data_mapFields k3 _, k4, by simpa using k5, ?_, k7, k8⟩⟩
  · induction fr with
    | none => left; simp [Array.getElem?_setIfInBounds]; exact lin [_] (.a (.n 3) (.n 1)) (.v 0) [((.n 4), (.v 0))] k5 rfl
    | some L => right; exact ⟨L, rfl, by simp [Array.getElem?_setIfInBounds]; exact lin [_] (.a (.n 3) (.n 1)) (.v 0) [((.n 4), (.v 0))] k5 rfl⟩

/-- the entry of this frame goes onto the exception -/
theorem entry_x {σ₀ : St} {e : Addr} {σ' : St} {N' : Ledger} {line : Int} {s' : Shared} {head : Value} {hadNext nt : Bool} {fl : Option Addr} {Q : Unit → Shared → Prop} (hfr : A.frames = some (f.fenv :: f.outer)) (hf : f.fenv.frame = some f.Lf)
    (R₀ : Rp c f s σ₀ N) (h1 : Step f.env.locals s N s' N') (h2 : Rp c f s' σ' N') (h3 : Fl nt fl s N' e line s'.heap) (hX : X line σ')
    (hQ : ∀ s'', PXg true (some f.Lf) c f s N X (.ref e) s'' → Q () s'') :
    wpAny M A (do let a ← frameOf f.fenv; let pl ← entryPlaceOf f.Lf hadNext; let b ← EntryCells.newEntry head a .none (rawInt f.Lf) .none pl; setField (.ref e) 1 b) Q E s' := by
  have e0 := h3.e0
  have eN := h3.eN
  refine xl_EEEEEEAAAAAA h3.there fun dx sl vs es n t g1 g2 g3 g4 g5 g6 g7 => ?_
  refine wpAny_bind (wpAny_frameOf_fun hfr h2.ff hf fun h₁ hs₁ => ?_)
  have hfs : ∀ b ∈ f.frs, ∃ o, s.heap.get? b = some o := fun b q => xl_EEEA (R₀.fd b q) fun o _ _ h _ => ⟨o, h⟩
  have hef : e ∉ f.frs := fun q => by obtain ⟨o, h⟩ := hfs e q; rw [e0] at h; injection h
  have hdf : dx ∉ f.frs := fun q => by obtain ⟨o, h⟩ := hfs dx q; rw [g5] at h; injection h
  refine wpAny_bind (wpAny_entryPlaceOf fun pl hpl => ?_)
  unfold EntryCells.newEntry newFields
  refine wpAny_bind (wpAny_newObj_type ?_ (hpl.sizeOk5 _ _ _ _ _))
  generalize hts : ([head, .ref f.Lf, .none, rawInt f.Lf, .none] ++ (if pl.isEmpty then List.replicate 6 Value.none else pl)).toArray = ts
  have hts3 : ts[3]? = some (rawInt f.Lf) := by subst hts; simp
  have htsz : 4 ≤ ts.size := by subst hts; simp
  have he₁ : h₁.get? e = some ⟨.ref SF, some dx, .fields vs, sl⟩ := (hs₁.2.1 e hef).trans g1
  have hd₁ : h₁.get? dx = some (dictOf es n) := (hs₁.2.1 dx hdf).trans g2
  have he₂ := Heap.get?_push_of_some (h := h₁) { cls := .type "traceback", data := .fields ts } he₁
  refine wpAny_setField he₂ rfl (by rw [g6]; decide) (hQ _ ?_)
  have hnew : s'.heap.get? h₁.objs.size = none := Heap.get?_none_of_le (Nat.le_of_eq hs₁.1.symm)
  have hTe : h₁.objs.size ≠ e := Nat.ne_of_gt (Heap.lt_size he₁)
  have hde : dx ≠ e := dict_ne_fields g2 g1 rfl
  have hu := Heap.get?_update_self (Obj.mapFields (·.setIfInBounds 1 (Value.ref h₁.objs.size))) he₂ rfl
  have hT := (Heap.get?_update_other (h₁.push { cls := .type "traceback", data := .fields ts }) (Obj.mapFields (·.setIfInBounds 1 (Value.ref h₁.objs.size))) (Ne.symm hTe)).trans (Heap.get?_push_size h₁ rfl)
  have ot : ∀ b o, b ≠ e → h₁.get? b = some o → ((h₁.push { cls := .type "traceback", data := .fields ts }).update e (Obj.mapFields (·.setIfInBounds 1 (Value.ref h₁.objs.size)))).get? b = some o := fun b o hb q =>
    (Heap.get?_update_other _ _ (Ne.symm hb)).trans (Heap.get?_push_of_some _ q)
  refine PXg.step (s' := s') (U := fun b => b = e) h1 h2 hX ⟨fun b o q k u => ot b o u ((hs₁.2.1 b k).trans q), fun b o q u => ?_⟩ (fun b q => q ▸ e0) (fun b q => q ▸ eN) (fun b o q r => by subst q; rw [g1] at r; cases r; exact ⟨_, rfl⟩) R₀.stays
    ⟨e0, eN, dx, sl, _, es, n, t, hu, ot dx _ hde hd₁, g3, g4, g5, by simpa using g6, .inr ⟨h₁.objs.size, _, ts, by simp [g6], hT, rfl, hTe, htsz, .inr ⟨_, rfl, hts3⟩, h1.fresh hnew, h2.N_of_none hnew⟩⟩
  · obtain ⟨sl', q'⟩ := hs₁.2.2 b o q
    exact ⟨sl', ot b _ u q'⟩

theorem note_x {σ₀ : St} {nt : Bool} {ev : Value} {s' : Shared} {Q : Unit → Shared → Prop} (hfr : A.frames = some (f.fenv :: f.outer)) (hf : f.fenv.frame = some f.Lf) (R₀ : Rp c f s σ₀ N)
    (h : PXg nt (some f.Lf) c f s N X ev s') (hQ : ∀ s'', PXg true (some f.Lf) c f s N X ev s'' → Q () s'') : wpAny M A (noteFrame ev f.fenv) Q E s' := by
  refine xl_EEEEAAAA h fun e σ' N' line zr5 h1 h2 h3 hX => ?_; try clear h; subst zr5
  have h3' := h3
  have e0 := h3.e0
  have eN := h3.eN
  refine xl_EEEEEEAAAAAA h3.there fun dx sl vs es n t g1 g2 g3 g4 g5 g6 g7 => ?_
  unfold noteFrame
  simp only [hf]
  rcases g7 with ⟨_, k1⟩ | ⟨T, oT, ts, k1, k2, k3, k4, k5, k6, k7, k8⟩
  · refine wpAny_bind (wpAny_field g1 rfl k1 ?_)
    rw [if_neg (by decide)]
    exact entry_x hfr hf R₀ h1 h2 h3' hX hQ
  · refine wpAny_bind (wpAny_field g1 rfl k1 ?_)
    rw [if_pos (show (Value.ref T != Value.none) = true from by simp)]
    rcases k6 with k6 | ⟨L, hL, k6⟩
    · refine wpAny_bind (wpAny_field k2 k3 k6 ?_)
      rw [if_neg (show ¬ ((Value.none == rawInt f.Lf) = true) from by simp [rawInt])]
      refine wpAny_bind (wpAny_setField k2 k3 (by exact lin [_] (.a (.n 3) (.n 1)) (.v 0) [((.n 4), (.v 0))] k5 rfl) ?_)
      have hdx : dx ≠ T := dict_ne_fields g2 k2 k3
      have ot : ∀ b, b ≠ T → (s'.heap.update T (Obj.mapFields (·.setIfInBounds 3 Value.none))).get? b = s'.heap.get? b := fun b hb => Heap.get?_update_other _ _ (Ne.symm hb)
      have hT := Heap.get?_update_self (Obj.mapFields (·.setIfInBounds 3 Value.none)) k2 (Obj.isFreed_of_fields (Obj.data_mapFields k3 _))
      have st : PXg true (some f.Lf) c f s N X (.ref e) { s' with heap := s'.heap.update T (Obj.mapFields (·.setIfInBounds 3 Value.none)) } := by
        refine PXg.step (s' := s') (U := fun b => b = T) h1 h2 hX ⟨fun b o q _ u => (ot b u).trans q, fun b o q u => ⟨o.slots, (ot b u).trans q⟩⟩ (fun b q => q ▸ k7) (fun b q => q ▸ k8) (fun b o q r => by subst q; rw [k2] at r; cases r; exact ⟨_, k3⟩) R₀.stays
          ⟨e0, eN, dx, sl, vs, es, n, t, (ot e (Ne.symm k4)).trans g1, (ot dx hdx).trans g2, g3, g4, g5, g6, .inr ⟨T, _, _, k1, hT, Obj.data_mapFields k3 _, k4, by simpa using k5, .inl (by simp [Array.getElem?_setIfInBounds]; exact lin [_] (.a (.n 3) (.n 1)) (.v 0) [((.n 4), (.v 0))] k5 rfl), k7, k8⟩⟩
      refine xl_EEEEAAAA st fun e' σ'' N'' line' q i1 i2 i3 i4 => ?_; try clear st
      cases q
      exact entry_x hfr hf R₀ i1 i2 i3 i4 hQ
    · cases hL
      refine wpAny_bind (wpAny_field k2 k3 k6 ?_)
      rw [if_pos (show (rawInt f.Lf == rawInt f.Lf) = true from by simp)]
      exact wpAny_pure (hQ _ ⟨e, σ', N', line, rfl, h1, h2, ⟨e0, eN, dx, sl, vs, es, n, t, g1, g2, g3, g4, g5, g6, .inr ⟨T, oT, ts, k1, k2, k3, k4, k5, .inr ⟨_, rfl, k6⟩, k7, k8⟩⟩, hX⟩)
theorem PXg.weaken {nt : Bool} {fl : Option Addr} {ev : Value} {s' : Shared} (h : PXg nt fl c f s N X ev s') (q : fl = none ∨ fl = some f.Lf) : PX c f s N X ev s' := by
  refine xl_EEEEAAAA h fun e σ' N' line ee h1 h2 fl hX => ?_; clear h; subst ee
  have e0 := fl.e0
  have eN := fl.eN
  refine xl_EEEEEEAAAAAA fl.there fun dx sl vs es n t g1 g2 g3 g4 g5 g6 g7 => ?_
  refine ⟨e, σ', N', line, rfl, h1, h2, ⟨e0, eN, dx, sl, vs, es, n, t, g1, g2, g3, g4, g5, g6, ?_⟩, hX⟩
  rcases g7 with ⟨_, k1⟩ | ⟨T, oT, ts, k1, k2, k3, k4, k5, k6, k7, k8⟩
  · exact .inl ⟨rfl, k1⟩
  · refine .inr ⟨T, oT, ts, k1, k2, k3, k4, k5, ?_, k7, k8⟩
    rcases k6 with k6 | ⟨L, hL, k6⟩
    · exact .inl k6
    · rcases q with q | q
      · rw [q] at hL; injection hL
      · exact .inr ⟨L, q ▸ hL, k6⟩
theorem passes_x {σ₀ : St} (hfr : A.frames = some (f.fenv :: f.outer)) (hf : f.fenv.frame = some f.Lf) (own : f.env = f.fenv) (R₀ : Rp c f s σ₀ N) : PassesOwn M A f.env (PX c f s N X) := by
  intro ev s' h
  rw [own]
  refine note_x hfr hf R₀ h fun s'' h'' => ?_
  show wpAny M A _ _ _ _
  have h0 := h''
  refine xl_EEEEAAAA h'' fun e σ' N' line ee h1 h2 fl hX => ?_; clear h''; subst ee
  have e0 := fl.e0
  have eN := fl.eN
  refine xl_EEEEEEAAAAAA fl.there fun dx sl vs es n t g1 g2 g3 g4 g5 g6 g7 => ?_
  rcases g7 with ⟨z, _⟩ | ⟨T, oT, ts, k1, k2, k3, k4, k5, k6, k7, k8⟩
  · injection z
  refine wpAny_bind (wpAny_field g1 rfl k1 ?_)
  rw [if_neg (show ¬ ((Value.ref T == Value.none) = true) from by simp)]
  exact flight_x f.fenv.frame R₀.stays h0 fun s₃ h₃ => h₃.weaken (.inr hf)
theorem leave_x {σ₀ : St} {ev : Value} {s' : Shared} {Q : Unit → Shared → Prop} (hfr : A.frames = some (f.fenv :: f.outer)) (hf : f.fenv.frame = some f.Lf) (R₀ : Rp c f s σ₀ N)
    (h : PX c f s N X ev s') (hQ : ∀ s'', PXg true none c f s N X ev s'' → Q () s'') : wpAny M A (leaving f.fenv ev) Q E s' := by
  unfold leaving
  exact wpAny_bind (note_x hfr hf R₀ h fun s'' h'' => flight_x none R₀.stays h'' hQ)
end
end
end Mine
end

section
open PySem PySem.W PySem.Calls PyProof.Rows
set_option maxHeartbeats 0
namespace Mine

noncomputable abbrev RV (Q : AV → St → Prop) : Value → View → St → Prop := fun v V σ' => ∃ a, VIs V a v ∧ Q a σ'
inductive AFl where
  | next | brk | cont | ret (a : AV)
inductive FlIs (h : View) : AFl → Flow → Prop
  | next : FlIs h .next .next
  | brk : FlIs h .brk .brk
  | cont : FlIs h .cont .cont
  | ret {a : AV} {v : Value} : VIs h a v → FlIs h (.ret a) (.ret v)
noncomputable abbrev RF (Q : AFl → St → Prop) : Flow → View → St → Prop := fun fl V σ' => ∃ a, FlIs V a fl ∧ Q a σ'
noncomputable abbrev RB (Q : Bool → St → Prop) : Bool → View → St → Prop := fun z _ σ' => Q z σ'
noncomputable abbrev RVs (Q : List AV → St → Prop) : List Value → View → St → Prop := fun vs V σ' => ∃ as, VsIs V as vs ∧ Q as σ'

/-- evaluation of an expression -/
noncomputable def AE (c : Cx) (sc : Scope) (b : Nat) (e : Expr) (σ : St) (Q : AV → St → Prop) (X : Int → St → Prop) : Prop :=
  ∀ (f : Frm) (s : Shared) (N : Ledger), FOk c sc b f → Rp c f s σ N → wpAny (model c.prog c.w) f.A (eval e f.env) (Pst c f s N (RV Q)) (PX c f s N X) s
/-- a test -/
noncomputable def AB (c : Cx) (sc : Scope) (b : Nat) (e : Expr) (σ : St) (Q : Bool → St → Prop) (X : Int → St → Prop) : Prop :=
  ∀ (f : Frm) (s : Shared) (N : Ledger), FOk c sc b f → Rp c f s σ N → wpAny (model c.prog c.w) f.A (isTrue e f.env (eval e f.env)) (Pst c f s N (RB Q)) (PX c f s N X) s
/-- a statement -/
noncomputable def A1 (c : Cx) (sc : Scope) (b : Nat) (st : Stmt) (σ : St) (Q : AFl → St → Prop) (X : Int → St → Prop) : Prop :=
  ∀ (f : Frm) (s : Shared) (N : Ledger), FOk c sc b f → f.env = f.fenv → Rp c f s σ N → wpAny (model c.prog c.w) f.A (exec st f.env) (Pst c f s N (RF Q)) (PX c f s N X) s
/-- a suite -/
noncomputable def AS (c : Cx) (sc : Scope) (b : Nat) (sts : List Stmt) (σ : St) (Q : AFl → St → Prop) (X : Int → St → Prop) : Prop :=
  ∀ (f : Frm) (s : Shared) (N : Ledger), FOk c sc b f → f.env = f.fenv → Rp c f s σ N → wpAny (model c.prog c.w) f.A (execs sts f.env) (Pst c f s N (RF Q)) (PX c f s N X) s

section
variable {c : Cx} {sc : Scope} {b : Nat} {σ : St} {X : Int → St → Prop} {f : Frm} {s : Shared} {N : Ledger}

theorem Pst.here {α : Type} {R : α → View → St → Prop} {a : α} (Rr : Rp c f s σ N) (h : R a (N.see s.heap) σ) : Pst c f s N R a s := ⟨σ, N, .refl .., Rr, h⟩
theorem Pst.tk {α : Type} {R : α → View → St → Prop} {a : α} {t : Nat} (Rr : Rp c f s σ N) (h : R a (N.see s.heap) σ) (ht : s.toks ≤ t := by first | exact Nat.le_refl _ | exact Nat.le_succ _ | exact Nat.le_succ_of_le (Nat.le_succ _) | assumption | omega | (dsimp only; omega)) : Pst c f s N R a { s with toks := t } :=
  ⟨σ, N, .of_keeps (h' := s.heap) fun _ _ e => e, Rr.toks ht, h⟩
theorem Pst.kp {α : Type} {R : α → View → St → Prop} {a : α} {t : Nat} {h' : Heap} (Rr : Rp c f s σ N) (k : ∀ b o, s.heap.get? b = some o → h'.get? b = some o) (h : R a (N.see h') σ) (ht : s.toks ≤ t := by first | exact Nat.le_refl _ | exact Nat.le_succ _ | exact Nat.le_succ_of_le (Nat.le_succ _) | assumption | omega | (dsimp only; omega)) : Pst c f s N R a { s with heap := h', toks := t } :=
  ⟨σ, N, .of_keeps k, Rr.keeps k ht, h⟩

theorem AE.mono {e : Expr} {Q Q' : AV → St → Prop} {X' : Int → St → Prop} (h : AE c sc b e σ Q X) (hq : ∀ a σ, Q a σ → Q' a σ) (hx : ∀ l σ, X l σ → X' l σ) : AE c sc b e σ Q' X' := fun f s N hf R =>
  wpAny_mono (h f s N hf R) (fun _ _ z => z.mono fun _ _ zf0 => xl_EA zf0 fun a h1 h2 => ⟨a, h1, hq _ _ h2⟩) fun _ _ z => z.mono hx
theorem AB.mono {e : Expr} {Q Q' : Bool → St → Prop} {X' : Int → St → Prop} (h : AB c sc b e σ Q X) (hq : ∀ a σ, Q a σ → Q' a σ) (hx : ∀ l σ, X l σ → X' l σ) : AB c sc b e σ Q' X' := fun f s N hf R =>
  wpAny_mono (h f s N hf R) (fun _ _ z => z.mono fun _ _ h2 => hq _ _ h2) fun _ _ z => z.mono hx
theorem AS.mono {sts : List Stmt} {Q Q' : AFl → St → Prop} {X' : Int → St → Prop} (h : AS c sc b sts σ Q X) (hq : ∀ a σ, Q a σ → Q' a σ) (hx : ∀ l σ, X l σ → X' l σ) : AS c sc b sts σ Q' X' := fun f s N hf own R =>
  wpAny_mono (h f s N hf own R) (fun _ _ z => z.mono fun _ _ zf1 => xl_EA zf1 fun a h1 h2 => ⟨a, h1, hq _ _ h2⟩) fun _ _ z => z.mono hx

/-- evaluate, then go on -/
theorem AE.then_ {e : Expr} {Q : AV → St → Prop} {Q' : Value → Shared → Prop} (h : AE c sc b e σ Q X) (hf : FOk c sc b f) (R : Rp c f s σ N)
    (k : ∀ v a s₁ σ₁ N₁, Step f.env.locals s N s₁ N₁ → Rp c f s₁ σ₁ N₁ → VIs (N₁.see s₁.heap) a v → Q a σ₁ → Q' v s₁) : wpAny (model c.prog c.w) f.A (eval e f.env) Q' (PX c f s N X) s :=
  wpAny_mono (h f s N hf R) (fun v s₁ zf2 => xl_EEAAEA zf2 fun σ₁ N₁ h1 h2 a h3 h4 => k v a s₁ σ₁ N₁ h1 h2 h3 h4) fun _ _ z => z
theorem AB.then_ {e : Expr} {Q : Bool → St → Prop} {Q' : Bool → Shared → Prop} (h : AB c sc b e σ Q X) (hf : FOk c sc b f) (R : Rp c f s σ N)
    (k : ∀ z s₁ σ₁ N₁, Step f.env.locals s N s₁ N₁ → Rp c f s₁ σ₁ N₁ → Q z σ₁ → Q' z s₁) : wpAny (model c.prog c.w) f.A (isTrue e f.env (eval e f.env)) Q' (PX c f s N X) s :=
  wpAny_mono (h f s N hf R) (fun v s₁ zf3 => xl_EEAA zf3 fun σ₁ N₁ h1 h2 h4 => k v s₁ σ₁ N₁ h1 h2 h4) fun _ _ z => z
theorem AE.next {e : Expr} {Q : AV → St → Prop} {Q' : Value → Shared → Prop} {s₁ : Shared} {σ₁ : St} {N₁ : Ledger} (h : AE c sc b e σ₁ Q X) (st : Step f.env.locals s N s₁ N₁) (hf : FOk c sc b f) (R : Rp c f s₁ σ₁ N₁)
    (k : ∀ v a s₂ σ₂ N₂, Step f.env.locals s N s₂ N₂ → Step f.env.locals s₁ N₁ s₂ N₂ → Rp c f s₂ σ₂ N₂ → VIs (N₂.see s₂.heap) a v → Q a σ₂ → Q' v s₂) : wpAny (model c.prog c.w) f.A (eval e f.env) Q' (PX c f s N X) s₁ :=
  wpAny_mono (h f s₁ N₁ hf R) (fun v s₂ zf4 => xl_EEAAEA zf4 fun σ₂ N₂ h1 h2 a h3 h4 => k v a s₂ σ₂ N₂ (st.trans h1) h1 h2 h3 h4) fun _ _ z => z.trans st
/-- what follows a step, seen from before it -/
theorem on {α : Type} {t : Sem α} {R : α → View → St → Prop} {s₁ : Shared} {N₁ : Ledger} (st : Step f.env.locals s N s₁ N₁) (h : wpAny (model c.prog c.w) f.A t (Pst c f s₁ N₁ R) (PX c f s₁ N₁ X) s₁) :
    wpAny (model c.prog c.w) f.A t (Pst c f s N R) (PX c f s N X) s₁ := wpAny_mono h (fun _ _ z => z.trans st) fun _ _ z => z.trans st

-- constants and names
theorem ae_int {i : Int} {k : Nat} {p : Pos} {Q : AV → St → Prop} (h : Q (.int i) σ) : AE c sc b (.Constant (.int i) k p) σ Q X := fun f s N hf R => wpAny_Constant_int (Pst.tk R ⟨_, .int i _, h⟩)
theorem ae_str {x : Str} {k : Nat} {p : Pos} {Q : AV → St → Prop} (h : Q (.str x) σ) : AE c sc b (.Constant (.str x) k p) σ Q X := fun f s N hf R => wpAny_Constant_str (Pst.tk R ⟨_, .str x _, h⟩)
theorem ae_bool {z : Bool} {k : Nat} {p : Pos} {Q : AV → St → Prop} (h : Q (.bool z) σ) : AE c sc b (.Constant (.bool z) k p) σ Q X := fun f s N hf R => wpAny_Constant_bool (Pst.here R ⟨_, .bool z, h⟩)
theorem ae_none {k : Nat} {p : Pos} {Q : AV → St → Prop} (h : Q .none σ) : AE c sc b (.Constant .none k p) σ Q X := fun f s N hf R => wpAny_Constant_none (Pst.here R ⟨_, .none, h⟩)

theorem FOk.kind' (hf : FOk c sc b f) : f.env.scope.kind = .function := hf.scope ▸ hf.kind
theorem FOk.kindOf (hf : FOk c sc b f) (x : Str) : f.env.kindOf x = sc.names.lookup x := by unfold Env.kindOf; rw [hf.scope]
theorem ae_local {x : Str} {p : Pos} {a : AV} {Q : AV → St → Prop} (hv : σ.m.lookup x = some a) (h : Q a σ) (hl : sc.names.lookup x = some .local := by rfl) (hd : (x == ("__debug__" : Str)) = false := by decide) :
    AE c sc b (.Name x p) σ Q X := fun f s N hf R => by
  refine xl_EA R.loc fun mc F hm => ?_
  refine xl_EA (hm x a hv) fun v h1 h2 => ?_
  exact wpAny_Name (wpAny_loadName_local hf.kind' ((hf.kindOf x).trans hl) F.ns h1 (Pst.here R ⟨a, h2, h⟩)) hd
theorem ae_global {x : Str} {p : Pos} {a : AV} {v : Value} {Q : AV → St → Prop} (e : nsIn c.K mainGlobals x = some (some v)) (hv : VIs c.B.get? a v) (h : Q a σ) (hl : sc.names.lookup x = some .globalImplicit := by rfl) (hd : (x == ("__debug__" : Str)) = false := by decide) :
    AE c sc b (.Name x p) σ Q X := fun f s N hf R => by
  refine Calls.Name_function_global hf.kind' ((hf.kindOf x).trans hl) (Calls.loadGlobal_global (mg := c.mg) ?_ (mg_of hf.ok.kin hf.ok.top.g e) (Pst.here R ⟨a, R.base hv, h⟩)) hd
  rw [hf.glob]; exact hf.ok.top.g.keeps R.stays
theorem ae_builtin {x : Str} {p : Pos} {a : AV} {v : Value} {Q : AV → St → Prop} (e : nsIn c.K mainGlobals x = some none) (hb : bootBuiltins x = some v) (hv : ∀ h, VIs h a v) (h : Q a σ) (hn : x ≠ "__name__" := by decide) (hl : sc.names.lookup x = some .globalImplicit := by rfl) (hd : (x == ("__debug__" : Str)) = false := by decide) :
    AE c sc b (.Name x p) σ Q X := fun f s N hf R => by
  refine Calls.Name_function_global hf.kind' ((hf.kindOf x).trans hl) (Calls.loadGlobal_builtin (mg := c.mg) (mb := c.mb) ?_ (mg_none_of hf.ok.kin hf.ok.top.g e) ?_ ((hf.ok.top.builtins x hn).trans hb) (Pst.here R ⟨a, hv _, h⟩)) hd
  · rw [hf.glob]; exact hf.ok.top.g.keeps R.stays
  · rw [hf.bins]; exact hf.ok.top.b.keeps R.stays

-- operators
/-- a binary operator, for the kinds met here -/
noncomputable def BinI (op : Operator) (i j : Int) (σ : St) (Q : AV → St → Prop) : Prop := match op with
  | .Add => Q (.int (i + j)) σ
  | .Sub => Q (.int (i - j)) σ
  | .Mult => IntMulOk i j ∧ Q (.int (i * j)) σ
  | .Mod => j ≠ 0 ∧ Q (.int (i.fmod j)) σ
  | _ => False
noncomputable def BinS (op : Operator) (x y : Str) (σ : St) (Q : AV → St → Prop) : Prop := match op with
  | .Add => x.length + y.length ≤ sizeLine ∧ Q (.str (x ++ y)) σ
  | _ => False
noncomputable def BinR (op : Operator) (a b : AV) (σ : St) (Q : AV → St → Prop) : Prop := match a with
  | .int i => (match b with | .int j => BinI op i j σ Q | _ => False)
  | .str x => (match b with | .str y => BinS op x y σ Q | _ => False)
  | _ => False
theorem no_f {P : Prop} (h : False) : P := h.elim
theorem binR {op : Operator} {a₁ a₂ : AV} {v₁ v₂ : Value} {Q : AV → St → Prop} {A : Around} {E : Value → Shared → Prop} (h : BinR op a₁ a₂ σ Q) (R : Rp c f s σ N) (h1 : VIs (N.see s.heap) a₁ v₁) (h2 : VIs (N.see s.heap) a₂ v₂) :
    wpAny (model c.prog c.w) A (binaryOp op v₁ v₂) (Pst c f s N (RV Q)) E s := by
  cases a₁ with
  | int i => cases a₂ with
    | int j =>
      refine h1.at fun t => ?_
      refine h2.at fun u => ?_
      induction op with
      | Add => exact PyProof.Rows.add_int (Pst.tk R ⟨_, .int _ _, h⟩)
      | Sub => exact PyProof.Rows.sub_int (Pst.tk R ⟨_, .int _ _, h⟩)
      | Mult => exact PyProof.Rows.mul_int (Pst.tk R ⟨_, .int _ _, h.2⟩) h.1
      | Mod => exact PyProof.Rows.mod_int' h.1 (Pst.tk R ⟨_, .int _ _, h.2⟩)
      | _ => exact False.elim h
    | _ => exact False.elim h
  | str x => cases a₂ with
    | str y =>
      refine h1.at fun t => ?_
      refine h2.at fun u => ?_
      induction op with
      | Add => exact wpAny_tk (PyProof.Rows.add_str (fun t tk ht => Pst.tk R ⟨_, .str _ _, h.2⟩) h.1)
      | _ => exact False.elim h
    | _ => exact False.elim h
  | _ => exact False.elim h
theorem ae_bin {op : Operator} {l r : Expr} {p : Pos} {Q : AV → St → Prop} (h : AE c sc b l σ (fun a σ₁ => AE c sc b r σ₁ (fun a' σ₂ => BinR op a a' σ₂ Q) X) X) : AE c sc b (.BinOp l op r p) σ Q X := fun f s N hf R =>
  wpAny_BinOp (h.then_ hf R fun v a s₁ σ₁ N₁ st R₁ hv h' => h'.next st hf R₁ fun v' a' s₂ σ₂ N₂ st₂ st₁₂ R₂ hv' h'' => on st₂ (binR h'' R₂ (hv.mono st₁₂.tup) hv'))

noncomputable def occ (x y : Str) : Bool := !(Builtin.Str.occurrences x y 0 x.length 1).isEmpty
/-- the value of a comparison, for the kinds met here -/
noncomputable def cmpI (op : CmpOp) (i j : Int) : Option Bool := match op with
  | .Eq => some (i == j)
  | .NotEq => some (i != j)
  | .Lt => some (decide (i < j))
  | .LtE => some (decide (i ≤ j))
  | .Gt => some (decide (j < i))
  | .GtE => some (decide (j ≤ i))
  | _ => none
noncomputable def cmpS (op : CmpOp) (x y : Str) : Option Bool := match op with
  | .Eq => some (x == y)
  | .NotEq => some (x != y)
  | .LtE => some (!(decide (y.cps.toList < x.cps.toList)))
  | .In => some (occ y x)
  | .NotIn => some (!occ y x)
  | _ => none
noncomputable def cmpV (op : CmpOp) (a b : AV) : Option Bool := match a with
  | .int i => (match b with | .int j => cmpI op i j | _ => none)
  | .str x => (match b with | .str y => cmpS op x y | _ => none)
  | _ => none
theorem no_some {α : Type} {a : α} {P : Prop} (h : (none : Option α) = some a) : P := by injection h
theorem cmpR {op : CmpOp} {a₁ a₂ : AV} {v₁ v₂ : Value} {z : Bool} {Q : Value → Shared → Prop} {A : Around} {E : Value → Shared → Prop} (e : cmpV op a₁ a₂ = some z) (h1 : VIs (N.see s.heap) a₁ v₁) (h2 : VIs (N.see s.heap) a₂ v₂)
    (q : ∀ t, s.toks ≤ t → Q (.bool z) { s with toks := t }) : wpAny (model c.prog c.w) A (compareOp op v₁ v₂) Q E s := by
  have q0 : ∀ {z' : Bool}, some z' = some z → Q (.bool z') s := fun h => Option.some.inj h ▸ q s.toks (Nat.le_refl _)
  clear q
  cases a₁ with
  | int i => cases a₂ with
    | int j =>
      refine h1.at fun t => ?_
      refine h2.at fun u => ?_
      induction op with
      | Eq => exact PyProof.Rows.eq_int (q0 e)
      | NotEq => exact PyProof.Rows.ne_int (q0 e)
      | Lt => exact PyProof.Rows.lt_int (q0 e)
      | LtE => exact PyProof.Rows.le_int (q0 e)
      | Gt => exact PyProof.Rows.gt_int (q0 e)
      | GtE => exact PyProof.Rows.ge_int (q0 e)
      | _ => exact no_some e
    | _ => exact no_some e
  | str x => cases a₂ with
    | str y =>
      refine h1.at fun t => ?_
      refine h2.at fun u => ?_
      induction op with
      | Eq => exact PyProof.Rows.eq_str (q0 e)
      | NotEq => exact PyProof.Rows.ne_str (q0 e)
      | LtE => exact P.le_str (q0 e)
      | In => exact P.in_str (q0 e)
      | NotIn => exact P.notIn_str (q0 e)
      | _ => exact no_some e
    | _ => exact no_some e
  | _ => exact no_some e
theorem ae_cmp {op : CmpOp} {l r : Expr} {p : Pos} {Q : AV → St → Prop} (h : AE c sc b l σ (fun a σ₁ => AE c sc b r σ₁ (fun a' σ₂ => ∃ z, cmpV op a a' = some z ∧ Q (.bool z) σ₂) X) X) (hm : behindInMarks op r = false := by with_unfolding_all rfl) :
    AE c sc b (.Compare l [op] [r] p) σ Q X := fun f s N hf R =>
  wpAny_Compare1 (h.then_ hf R fun v a s₁ σ₁ N₁ st R₁ hv h' => h'.next st hf R₁ fun v' a' s₂ σ₂ N₂ st₂ st₁₂ R₂ hv' h'' => by
    refine xl_EA h'' fun z e q => ?_; try clear h''
    exact on st₂ (cmpR e (hv.mono st₁₂.tup) hv' fun t ht => Pst.tk R₂ ⟨_, .bool z, q⟩)) hm
theorem ab_cmp {op : CmpOp} {l r : Expr} {p : Pos} {Q : Bool → St → Prop} (h : AE c sc b l σ (fun a σ₁ => AE c sc b r σ₁ (fun a' σ₂ => ∃ z, cmpV op a a' = some z ∧ Q z σ₂) X) X) (hm : behindInMarks op r = false := by with_unfolding_all rfl) :
    AB c sc b (.Compare l [op] [r] p) σ Q X := fun f s N hf R =>
  wpAny_isTrue_Compare1 (h.then_ hf R fun v a s₁ σ₁ N₁ st R₁ hv h' => h'.next st hf R₁ fun v' a' s₂ σ₂ N₂ st₂ st₁₂ R₂ hv' h'' => by
    refine xl_EA h'' fun z e q => ?_; try clear h''
    exact cmpR e (hv.mono st₁₂.tup) hv' fun t ht => wpAny_truthy_bool ((Pst.tk R₂ q).trans st₂)) hm

theorem ab_not {x : Expr} {p : Pos} {Q : Bool → St → Prop} (h : AB c sc b x σ (fun z => Q (!z)) X) : AB c sc b (.UnaryOp .Not x p) σ Q X := fun f s N hf R => wpAny_isTrue_Not (h f s N hf R)
theorem ab_and_nil {p : Pos} {Q : Bool → St → Prop} (h : Q true σ) : AB c sc b (.BoolOp .And [] p) σ Q X := fun f s N hf R => isTrue_and_nil (Pst.here R h)
theorem ab_or_nil {p : Pos} {Q : Bool → St → Prop} (h : Q false σ) : AB c sc b (.BoolOp .Or [] p) σ Q X := fun f s N hf R => isTrue_or_nil (Pst.here R h)
theorem ab_and {x : Expr} {rest : List Expr} {p : Pos} {Q : Bool → St → Prop} (h : AB c sc b x σ (fun z σ₁ => if z then AB c sc b (.BoolOp .And rest p) σ₁ Q X else Q false σ₁) X) : AB c sc b (.BoolOp .And (x :: rest) p) σ Q X := fun f s N hf R =>
  isTrue_and (h.then_ hf R fun z s₁ σ₁ N₁ st R₁ h' => by
    induction z with
    | false => exact ⟨σ₁, N₁, st, R₁, h'⟩
    | true => exact on st (h' f s₁ N₁ hf R₁))
theorem ab_or {x : Expr} {rest : List Expr} {p : Pos} {Q : Bool → St → Prop} (h : AB c sc b x σ (fun z σ₁ => if z then Q true σ₁ else AB c sc b (.BoolOp .Or rest p) σ₁ Q X) X) : AB c sc b (.BoolOp .Or (x :: rest) p) σ Q X := fun f s N hf R =>
  isTrue_or (h.then_ hf R fun z s₁ σ₁ N₁ st R₁ h' => by
    induction z with
    | true => exact ⟨σ₁, N₁, st, R₁, h'⟩
    | false => exact on st (h' f s₁ N₁ hf R₁))

/-- the truth of a value, for the kinds met here -/
noncomputable def truthV : AV → Option Bool
  | .bool z => some z
  | .int i => some (i != 0)
  | .none => some false
  | _ => none
theorem truthR {a : AV} {v : Value} {z : Bool} {Q : Bool → Shared → Prop} {A : Around} {E : Value → Shared → Prop} (e : truthV a = some z) (h1 : VIs (N.see s.heap) a v) (q : Q z s) : wpAny (model c.prog c.w) A (truthy v) Q E s := by
  unfold truthV at e
  split at e <;> cases e <;> cases h1
  · exact wpAny_truthy_bool q
  · exact P.truthy_int q
  · exact truthy_none q
theorem ab_val {e : Expr} {Q : Bool → St → Prop} (h : AE c sc b e σ (fun a σ₁ => ∃ z, truthV a = some z ∧ Q z σ₁) X)
    (he : ∀ env whole, isTrue e env whole = (do let v ← whole; standAt e.pos; holding [v] (truthy v)) := by intro _ _; rfl) : AB c sc b e σ Q X := fun f s N hf R =>
  isTrue_plain (h.then_ hf R fun v a s₁ σ₁ N₁ st R₁ hv h' => by
    refine xl_EA h' fun z e' q => ?_; try clear h'
    exact on st (truthR e' hv (Pst.here R₁ q))) (he _ _)

theorem ae_if {t x y : Expr} {p : Pos} {Q : AV → St → Prop} (h : AB c sc b t σ (fun z σ₁ => if z then AE c sc b x σ₁ Q X else AE c sc b y σ₁ Q X) X) : AE c sc b (.IfExp t x y p) σ Q X := fun f s N hf R =>
  wpAny_IfExp (h.then_ hf R fun z s₁ σ₁ N₁ st R₁ h' => by cases z <;> exact on st (h' f s₁ N₁ hf R₁))
theorem ae_neg {x : Expr} {p : Pos} {Q : AV → St → Prop} (h : AE c sc b x σ (fun a σ₁ => ∃ i, a = .int i ∧ Q (.int (-i)) σ₁) X) : AE c sc b (.UnaryOp .USub x p) σ Q X := fun f s N hf R =>
  wpAny_UnaryOp (h.then_ hf R fun v a s₁ σ₁ N₁ st R₁ hv h' => by
    refine xl_EA h' fun i zr1 q => ?_; refine hv.at_eq zr1 fun u => ?_
    exact on st (P.neg_int (Pst.tk R₁ ⟨_, .int _ _, q⟩)))
theorem ae_not {x : Expr} {p : Pos} {Q : AV → St → Prop} (h : AE c sc b x σ (fun a σ₁ => ∃ z, truthV a = some z ∧ Q (.bool (!z)) σ₁) X) : AE c sc b (.UnaryOp .Not x p) σ Q X := fun f s N hf R =>
  wpAny_UnaryOp (h.then_ hf R fun v a s₁ σ₁ N₁ st R₁ hv h' => by
    refine xl_EA h' fun z e q => ?_; try clear h'
    exact on st (not_of (truthR e hv (Pst.here R₁ ⟨_, .bool _, q⟩))))

/-- and, or as values: the rest of the row -/
noncomputable def boolOpR (op : BoolOp) (z : Bool) : Bool := match op, z with | .And, false | .Or, true => true | _, _ => false
theorem ae_boolop {op : BoolOp} {x y : Expr} {rest : List Expr} {p : Pos} {Q : AV → St → Prop}
    (h : AE c sc b x σ (fun a σ₁ => ∃ z, truthV a = some z ∧ if boolOpR op z then Q a σ₁ else AE c sc b (.BoolOp op (y :: rest) p) σ₁ Q X) X) : AE c sc b (.BoolOp op (x :: y :: rest) p) σ Q X := fun f s N hf R => by
  show wpAny _ _ (do
    let v ← eval x f.env
    standAt p
    let t ← holding [v] (truthy v)
    match op, t with
    | .And, false | .Or, true => pure v
    | _, _ => eval (.BoolOp op (y :: rest) p) f.env) _ _ _
  refine wpAny_bind (h.then_ hf R fun v a s₁ σ₁ N₁ st R₁ hv h' => wpAny_bind (wpAny_standAt (wpAny_bind (wpAny_holding ?_))))
  refine xl_EA h' fun z e q => ?_; try clear h'
  refine truthR e hv ?_
  cases op <;> cases z
  · exact wpAny_pure ⟨σ₁, N₁, st, R₁, a, hv, q⟩
  · exact on st (q f s₁ N₁ hf R₁)
  · exact on st (q f s₁ N₁ hf R₁)
  · exact wpAny_pure ⟨σ₁, N₁, st, R₁, a, hv, q⟩
theorem ae_boolop1 {op : BoolOp} {x : Expr} {p : Pos} {Q : AV → St → Prop} (h : AE c sc b x σ Q X) : AE c sc b (.BoolOp op [x] p) σ Q X := fun f s N hf R => h f s N hf R
end
end Mine
end

section
open PySem PySem.W PySem.Calls PyProof.Rows
namespace Mine

section
variable {c : Cx} {sc : Scope} {b : Nat} {σ : St} {X : Int → St → Prop} {f : Frm} {s : Shared} {N : Ledger}

noncomputable def AO.isDict : AO → Bool | .dict _ _ => true | _ => false
theorem ORel.set_of {N : Ledger} {h h' : View} {d : Addr} {o' : Obj} (tk : TupKeep h h') {a : Addr} {ao : AO} (x : ORel N h a ao) (h1 : a ≠ d) (h2 : ∀ C dx, N a = some (instObj C dx) → dx ≠ d) (h3 : ∀ C, ao.isDict = true → o' ≠ instObj C a) : ORel (N.set d o') h' a ao := by
  induction ao with
  | list vs => refine xl_EEA x fun ws n e r => ?_; try clear x; exact ⟨ws, n, (N.set_ne o' h1).trans e, r.mono tk⟩
  | inst C fs => refine xl_EEEAA x fun dx es n e1 e2 r => ?_; try clear x; exact ⟨dx, es, n, (N.set_ne o' h1).trans e1, (N.set_ne o' (h2 _ _ e1)).trans e2, r.mono tk⟩
  | dict w kvs =>
    refine xl_EEAAA x fun es n e r z hh => ?_; try clear x
    refine ⟨es, n, (N.set_ne o' h1).trans e, r.mono tk, fun x C q => ?_, hh⟩
    by_cases y : x = d
    · subst y; rw [Ledger.set_self] at q; exact h3 C rfl (Option.some.inj q)
    · rw [Ledger.set_ne _ _ y] at q; exact z x C q

/-- a tracked object is changed -/
theorem Rp.upd (R : Rp c f s σ N) {h' : Heap} {t : Nat} {d : Addr} {o o' : Obj} (hN : N d = some o) (ko : okKind o') (hs : ∀ b ob, b ≠ d → b ≠ f.env.locals → s.heap.get? b = some ob → h'.get? b = some ob) (hd : h'.get? d = some o')
    (hn : ∀ mc, s.heap.Ns f.env.locals mc → h'.Ns f.env.locals mc) (H' : AHeap) (no : ∀ C dx, o' ≠ instObj C dx) (nt : ∀ vs n, o ≠ tupObj vs n) (dk : ∀ es n, o = dictOf es n → ∃ es' n', o' = dictOf es' n')
    (rel' : TupKeep (N.see s.heap) ((N.set d o').see h') → ∀ a ao, H' a = some ao → ORel (N.set d o') ((N.set d o').see h') a ao) (ht : s.toks ≤ t := by first | exact Nat.le_refl _ | exact Nat.le_succ _ | exact Nat.le_succ_of_le (Nat.le_succ _) | assumption | omega | (dsimp only; omega)) :
    Rp c f { s with heap := h', toks := t } ⟨σ.m, H'⟩ (N.set d o') ∧ Step f.env.locals s N { s with heap := h', toks := t } (N.set d o') := by
  obtain ⟨⟨mc, F, hm⟩, led, inj, dicts, rel, ff, fd, tok⟩ := R
  have nset : ∀ x C dx, N.set d o' x = some (instObj C dx) → N x = some (instObj C dx) := fun x C dx e => by
    by_cases z : x = d
    · subst z; rw [Ledger.set_self] at e; exact absurd (Option.some.inj e) (no C dx)
    · rwa [Ledger.set_ne _ _ z] at e
  refine xl_EEEAAA (id F.ns) fun oL esL epL hoL hdL hkL hfL => ?_
  have D := led d o hN
  refine xl_EEEAA (hn mc F.ns) fun oL' esL' epL' hoL' hdL' _ => ?_
  have tk : TupKeep (N.see s.heap) ((N.set d o').see h') := fun b vs n e => by
    obtain ⟨q, e⟩ := Ledger.see_of e
    have z : b ≠ d := fun z => by rw [z, hN] at q; injection q
    exact Ledger.see_is ((N.set_ne o' z).trans q) (hs b _ z (fun z => by subst z; rw [hoL] at e; cases e; cases hdL) e)
  have nd : ∀ b, b ∈ f.frs → b ≠ d := fun b q z => D.2.2.2.2 (z ▸ q)
  refine ⟨⟨⟨mc, ⟨hn mc F.ns, fun b ob e => ?_, F.above⟩, fun x a e => ?_⟩, fun a oa e => ?_, fun x y C C' dx e1 e2 => inj x y C C' dx (nset _ _ _ e1) (nset _ _ _ e2), fun x C dx e => ?_, fun a ao e => rel' tk a ao e, funFrames_of (fun b ob e hnf => ?_) ff, fun b hb => ?_, Nat.lt_of_lt_of_le tok ht⟩, ⟨rfl, tk, fun b ob e hb hNb => ⟨ob.slots, hs b ob (fun z => by subst z; rw [hN] at hNb; injection hNb) hb e⟩, fun b hb => ?_, fun b ob e => ?_, fun b ob e hb hNb _ => hs b ob (fun z => by subst z; rw [hN] at hNb; injection hNb) hb e, fun b vs n e => by
      have z : b ≠ d := fun z => by rw [z, hN] at e; exact nt vs n (Option.some.inj e)
      rw [Ledger.set_ne _ _ z]; exact e⟩⟩
  · exact hs b ob (fun z => by subst z; rw [D.2.1] at e; injection e) (Nat.ne_of_lt (Nat.lt_of_lt_of_le (Heap.lt_size e) F.above)) (F.keep b ob e)
  · refine xl_EA (hm x a e) fun v h1 h2 => ?_; exact ⟨v, h1, h2.mono tk⟩
  · by_cases z : a = d
    · subst z; rw [Ledger.set_self] at e; cases e; exact ⟨hd, D.2.1, D.2.2.1, ko, D.2.2.2.2⟩
    · rw [Ledger.set_ne _ _ z] at e
      refine xl_AAAA (led a oa e) fun h1 h2 h3 h4 h5 => ?_
      exact ⟨hs a oa z h3 h1, h2, h3, h4, h5⟩
  · refine xl_EE (dicts x C dx (nset _ _ _ e)) fun es n e' => ?_
    by_cases z : dx = d
    · subst z
      rw [hN] at e'
      refine xl_EE (dk es n (Option.some.inj e')) fun es' n' e'' => ?_
      exact ⟨es', n', by rw [Ledger.set_self, e'']⟩
    · exact ⟨es, n, (Ledger.set_ne _ _ z).trans e'⟩
  · by_cases z : b = d
    · subst z; exact ⟨o', hd, ko.notFields⟩
    · by_cases y : b = f.env.locals
      · subst y; exact ⟨oL', hoL', fun vs q => by rw [hdL'] at q; injection q⟩
      · exact ⟨ob, hs b ob z y e, hnf⟩
  · by_cases y : b = f.env.locals
    · subst y; exact ⟨oL', esL', epL', hoL', hdL'⟩
    · refine xl_EEEA (fd b hb) fun ob es n h1 h2 => ?_; exact ⟨ob, es, n, hs b ob (nd b hb) y h1, h2⟩
  · by_cases z : b = d
    · left; rw [z, hN]; exact fun q => nomatch q
    · left; rw [Ledger.set_ne _ _ z] at hb; exact hb
  · by_cases z : b = d
    · subst z; exact ⟨_, hd⟩
    · by_cases y : b = f.env.locals
      · subst y; exact ⟨_, hoL'⟩
      · exact ⟨ob, hs b ob z y e⟩

/-- a new tracked object -/
theorem Rp.new (R : Rp c f s σ N) {h' : Heap} {t : Nat} {a : Addr} {o' : Obj} (hk : ∀ b ob, s.heap.get? b = some ob → h'.get? b = some ob) (ha : h'.get? a = some o') (h0 : s.heap.get? a = none) (ko : okKind o')
    (ni : ∀ C dx, o' = instObj C dx → (∃ es n, N dx = some (dictOf es n)) ∧ (∀ y C', N y ≠ some (instObj C' dx)) ∧ σ.H dx = none) (H' : AHeap) (rel' : TupKeep (N.see s.heap) ((N.set a o').see h') → ∀ b ao, H' b = some ao → b ≠ a → σ.H b = some ao) (relA : ∀ ao, H' a = some ao → TupKeep (N.see s.heap) ((N.set a o').see h') → ORel (N.set a o') ((N.set a o').see h') a ao) (ht : s.toks ≤ t := by first | exact Nat.le_refl _ | exact Nat.le_succ _ | exact Nat.le_succ_of_le (Nat.le_succ _) | assumption | omega | (dsimp only; omega)) :
    Rp c f { s with heap := h', toks := t } ⟨σ.m, H'⟩ (N.set a o') ∧ Step f.env.locals s N { s with heap := h', toks := t } (N.set a o') := by
  have tk : TupKeep (N.see s.heap) ((N.set a o').see h') := fun b vs n e => by
    obtain ⟨q, e⟩ := Ledger.see_of e
    exact Ledger.see_is ((N.set_ne o' fun z => by rw [z, h0] at e; injection e).trans q) (hk b _ e)
  have hNa := R.N_of_none h0
  have hB := R.base_lt h0
  have R' := R.keeps (t := t) hk ht
  have hL : a ≠ f.env.locals := fun z => by obtain ⟨o, e⟩ := R.locThere; rw [← z, h0] at e; injection e
  have hfr : a ∉ f.frs := fun q => by refine xl_EEEA (R.fd a q) fun o _ _ e _ => ?_; rw [h0] at e; injection e
  obtain ⟨⟨mc, F, hm⟩, led, inj, dicts, rel, ff, fd, tok⟩ := R'
  refine xl_EA R.loc fun mc₀ F₀ hm₀ => ?_
  refine ⟨⟨⟨mc₀, F₀.keeps hk, fun x b e => let ⟨v, h1, h2⟩ := hm₀ x b e; ⟨v, h1, h2.mono tk⟩⟩, fun b ob e => ?_, fun x y C C' dx e1 e2 => ?_, fun x C dx e => ?_, fun b ao e => ?_, ff, fd, tok⟩, ⟨rfl, tk, fun b ob e _ _ => ⟨ob.slots, hk b ob e⟩, fun b hb => ?_, fun b ob e => ⟨ob, hk b ob e⟩, fun b ob e _ _ _ => hk b ob e, fun b vs n e => (N.set_ne o' fun z => by rw [z, hNa] at e; injection e).trans e⟩⟩
  · by_cases z : b = a
    · subst z; rw [Ledger.set_self] at e; cases e; exact ⟨ha, hB, hL, ko, hfr⟩
    · rw [Ledger.set_ne _ _ z] at e; exact led b ob e
  · by_cases z : x = a
    · subst z
      rw [Ledger.set_self] at e1
      by_cases y' : y = x
      · exact y'.symm
      · rw [Ledger.set_ne _ _ y'] at e2
        exact absurd e2 ((ni C dx (Option.some.inj e1)).2.1 y C')
    · rw [Ledger.set_ne _ _ z] at e1
      by_cases y' : y = a
      · subst y'
        rw [Ledger.set_self] at e2
        exact absurd e1 ((ni C' dx (Option.some.inj e2)).2.1 x C)
      · rw [Ledger.set_ne _ _ y'] at e2
        exact inj x y C C' dx e1 e2
  · have old : ∀ es n, N dx = some (dictOf es n) → ∃ es n, N.set a o' dx = some (dictOf es n) := fun es n e' => ⟨es, n, (Ledger.set_ne _ _ fun z => by rw [z, hNa] at e'; injection e').trans e'⟩
    by_cases z : x = a
    · subst z
      rw [Ledger.set_self] at e
      refine xl_EE ((ni C dx (Option.some.inj e)).1) fun es n e' => ?_
      exact old es n e'
    · rw [Ledger.set_ne _ _ z] at e
      refine xl_EE (dicts x C dx e) fun es n e' => ?_
      exact old es n e'
  · by_cases z : b = a
    · subst z; exact relA ao e tk
    · refine (R.rel b ao (rel' tk b ao e z)).set_of tk z (fun C dx q w => ?_) fun C _ q => by have := (ni C b q).2.2; rw [rel' tk b ao e z] at this; injection this
      subst w
      have x := R.rel b ao (rel' tk b ao e z)
      induction ao with
      | list vs => refine xl_EEA x fun ws n e1 _ => ?_; try clear x; rw [e1] at q; cases q
      | inst C' fs => refine xl_EEEAA x fun dx' es n e1 e2 _ => ?_; try clear x; rw [e1] at q; cases q; rw [hNa] at e2; cases e2
      | dict w kvs => refine xl_EEA x fun es n e1 _ => ?_; try clear x; rw [e1] at q; cases q
  · by_cases z : b = a
    · right; rw [z]; exact h0
    · left; rw [Ledger.set_ne _ _ z] at hb; exact hb

-- the whole heap as the library's ledger
noncomputable def others (h : Heap) (L d : Addr) : List (Addr × Obj) := (List.range h.objs.size).filterMap fun a => if a = L ∨ a = d then none else (h.get? a).map fun o => (a, o)
theorem others_mem {h : Heap} {L d a : Addr} {o : Obj} (e : h.get? a = some o) (h1 : a ≠ L) (h2 : a ≠ d) : (a, o) ∈ others h L d := by
  refine List.mem_filterMap.mpr ⟨a, List.mem_range.mpr (Heap.lt_size e), ?_⟩
  rw [if_neg (by rintro (z | z) <;> contradiction), e]; rfl
theorem others_of {h : Heap} {L d : Addr} {p : Addr × Obj} (hp : p ∈ others h L d) : h.get? p.1 = some p.2 ∧ p.1 ≠ L ∧ p.1 ≠ d := by
  refine xl_EA (List.mem_filterMap.mp hp) fun a _ e => ?_
  split at e
  · injection e
  · rename_i n
    refine xl_EA (Option.map_eq_some_iff.mp e) fun o ho zr3 => ?_; subst zr3
    exact ⟨ho, fun z => n (.inl z), fun z => n (.inr z)⟩
theorem get_empty (a : Addr) : (({} : Heap).get? a) = none := by
  cases q : (({} : Heap).get? a) with
  | none => rfl
  | some o => exact absurd (Heap.lt_size q) (Nat.not_lt_zero _)
theorem news_all {h : Heap} {L d : Addr} {o : Obj} (e : h.get? d = some o) (hd : d ≠ L) : News {} L h ([] ++ (d, o) :: others h L d) := by
  intro p hp
  rcases List.mem_cons.mp hp with rfl | hp
  · exact ⟨e, hd, get_empty _⟩
  · have z := others_of hp; exact ⟨z.1, z.2.1, get_empty _⟩
theorem fr_empty {B : Heap} {L : Addr} {h : Heap} {m : Str → Option Value} (F : Fr B L h m) : Fr {} L h m := ⟨F.ns, (fun b o e => by rw [get_empty] at e; injection e), Nat.zero_le _⟩

theorem dict_ne_list {es : List DictEntry} {n m : Nat} {its : Array Value} (h : dictOf es n = listOf its m) : False := by
  have := congrArg Obj.data h; injection this

-- attributes
noncomputable def clsField (K : Frag) (C : Addr) (name : Str) : Bool := plainGet K C name && hasDictIn K C && match findIn K (.ref C) name with | some a => noGet K a | none => false
noncomputable def clsStore (K : Frag) (C : Addr) (name : Str) : Bool := findIn K (.ref C) "__setattr__" == some (some (.builtin "object.__setattr__")) && plainOver K C && takerIn K C name == some none && hasDictIn K C
noncomputable def notBi : AV → Bool | .bi _ => false | _ => true
theorem handed_of {h : View} {a : AV} {v : Value} (x : VIs h a v) (n : notBi a = true) : handedIn v = true := by
  cases x <;> first | rfl | injection n
theorem instAt (R : Rp c f s σ N) {x C : Addr} {fs : List (Str × AV)} (hx : σ.H x = some (.inst C fs)) :
    ∃ dx es n, N x = some (instObj C dx) ∧ N dx = some (dictOf es n) ∧ FsIs (N.see s.heap) fs es ∧ InstAt s.heap x (instObj C dx) C (some (dictOf es n)) := by
  refine xl_EEEAA (R.rel x _ hx) fun dx es n e1 e2 r => ?_
  exact ⟨dx, es, n, e1, e2, r, (R.led _ _ e1).1, rfl, rfl, (R.led _ _ e2).1⟩
theorem getAttr_inst {A : Around} {E : Value → Shared → Prop} (R : Rp c f s σ N) (ok : c.Ok) {x C : Addr} {fs : List (Str × AV)} {name : Str} {a : AV} {expr : Bool} {Q : Value → Shared → Prop} (hx : σ.H x = some (.inst C fs)) (hl : fs.lookup name = some a)
    (k : clsField c.K C name = true) (nb : notBi a = true) (q : ∀ v t, s.toks ≤ t → VIs (N.see s.heap) a v → Q v { s with toks := t }) : wpAny (model c.prog c.w) A (getAttr (.ref x) name expr) Q E s := by
  refine xl_EEEAAA (instAt R hx) fun dx es n e1 e2 r I => ?_
  refine xl_EA (r.get hl) fun v g1 g2 => ?_
  unfold clsField at k
  obtain ⟨k1, k2⟩ := Bool.and_eq_true_iff.mp k
  obtain ⟨k1, k3⟩ := Bool.and_eq_true_iff.mp k1
  split at k2
  · rename_i at' ha
    exact get_value (R.kin ok) I (plainGet_of k1).1 (findObj_own k3 ha k2 g1) (handed_of g2 nb) (q v _ (Nat.le_succ _) g2)
  · injection k2
theorem ae_attr {e : Expr} {name : Str} {p : Pos} {Q : AV → St → Prop} (h : AE c sc b e σ (fun o σ₁ => ∃ x C fs a, o = .ref x ∧ σ₁.H x = some (.inst C fs) ∧ fs.lookup name = some a ∧ clsField c.K C name = true ∧ notBi a = true ∧ Q a σ₁) X)
    (he : ∀ env, eval (.Attribute e name p) env = (do
      let o ← eval e env
      standAt p.atName
      let r ← holding [o] (getAttr o name true)
      letTemporaryGo e o r
      pure r) := by intro _; with_unfolding_all rfl) : AE c sc b (.Attribute e name p) σ Q X := fun f s N hf R =>
  Attribute_any_ (h.then_ hf R fun v o s₁ σ₁ N₁ st R₁ hv h' => by
    refine xl_EEEEAAAAA h' fun x C fs a zr4 hx hl k nb q => ?_; refine hv.at_eq zr4 ?_
    exact on st (getAttr_inst R₁ hf.ok hx hl k nb fun v t ht g => Pst.tk R₁ ⟨a, g, q⟩)) (he _)

theorem setAttr_inst {A : Around} {E : Value → Shared → Prop} (R : Rp c f s σ N) (ok : c.Ok) {x C : Addr} {fs : List (Str × AV)} {name : Str} {a : AV} {v : Value} {Q : Unit → Shared → Prop} (hx : σ.H x = some (.inst C fs)) (hv : VIs (N.see s.heap) a v)
    (k : clsStore c.K C name = true) (hz : (fput fs name a).length ≤ 1000) (q : ∀ s' N', Step f.env.locals s N s' N' → Rp c f s' ⟨σ.m, σ.H.set x (.inst C (fput fs name a))⟩ N' → Q () s') : wpAny (model c.prog c.w) A (setAttr (.ref x) name v) Q E s := by
  refine xl_EEEAAA (instAt R hx) fun dx es n e1 e2 r I => ?_
  refine xl_EA (id R.loc) fun mc F hm => ?_
  unfold clsStore at k
  obtain ⟨k, k4⟩ := Bool.and_eq_true_iff.mp k
  obtain ⟨k, k3⟩ := Bool.and_eq_true_iff.mp k
  obtain ⟨k1, k2⟩ := Bool.and_eq_true_iff.mp k
  have D := R.led _ _ e2
  have r' := r.put (n := name) (t := s.toks + 1) (hs := PyData.keyHash c.w.params name) hv
  refine set_plain (R.kin ok) I (beq_iff_eq.mp k1) (osa_dict (s := { s with toks := s.toks + 1 }) (pre := []) (post := others s.heap f.env.locals dx) (fr_empty F) (news_all D.1 D.2.2.1) (R.kin ok) I rfl k2 (beq_iff_eq.mp k3) k4 (r.getSome name)
    (fun _ h => nomatch h) (fun p hp => (others_of hp).2.2) (putName_dict ..) rfl (by rw [r'.length]; exact hz) fun h' F' N' => ?_)
  have hs : ∀ b ob, b ≠ dx → b ≠ f.env.locals → s.heap.get? b = some ob → h'.get? b = some ob := fun b ob h1 h2 e => (N' (b, ob) (List.mem_cons_of_mem _ (others_mem e h2 h1))).1
  have hd := (N' _ (List.Mem.head _)).1
  obtain ⟨U1, U2⟩ := R.upd (t := s.toks + 1 + 1) e2 (.inr (.inl ⟨_, _, rfl⟩)) hs hd (fun m' hm' => by
    refine xl_EEEAAA F'.ns fun oL esL epL g1 g2 g3 g4 => ?_
    refine xl_EEEAAA hm' fun oL' esL' epL' i1 i2 i3 i4 => ?_; try clear hm'
    refine xl_EEEAAA F.ns fun oM esM epM j1 j2 j3 j4 => ?_
    rw [i1] at j1; cases j1; rw [i2] at j2; cases j2
    exact ⟨oL, esL, epL, g1, g2, g3, fun y => (g4 y).trans ((j4 y).symm.trans (i4 y))⟩) (σ.H.set x (.inst C (fput fs name a)))
    (fun C dx e => by cases e) (fun vs n e => dict_ne_tup e) (fun _ _ _ => ⟨_, _, rfl⟩)
    (fun tk b ao e => by
      have nx : x ≠ dx := fun z => by rw [z, e2] at e1; cases e1
      by_cases z : b = x
      · subst z
        rw [AHeap.set_self] at e; cases e
        exact ⟨dx, _, _, (Ledger.set_ne _ _ nx).trans e1, Ledger.set_self .., r'.mono tk⟩
      · rw [AHeap.set_ne _ _ z] at e
        have y := R.rel b ao e
        refine y.set_of tk (fun w => ?_) (fun C' dx' g w => ?_) fun C _ q => by cases q
        · subst w
          induction ao with
          | list vs => refine xl_EEA y fun ws n' i1 _ => ?_; try clear y; rw [e2] at i1; exact dict_ne_list (Option.some.inj i1)
          | inst C' fs' => refine xl_EEEA y fun _ _ _ i1 _ => ?_; try clear y; rw [e2] at i1; cases i1
          | dict w kvs => refine xl_EEAAA y fun _ _ i1 _ z' _ => ?_; try clear y; exact z' _ _ e1
        · subst w; exact z (R.inj _ _ _ _ _ g e1))
  exact q _ _ U2 U1
end
end Mine
end

section
open PySem PySem.W PySem.Calls PyProof.Rows
namespace Mine

theorem lookup_fput (m : List (Str × AV)) (x : Str) (a : AV) (y : Str) : (fput m x a).lookup y = if y = x then some a else m.lookup y := by
  induction m with
  | nil =>
    unfold fput
    rw [List.lookup_cons]
    by_cases h : y = x
    · subst h; simp
    · rw [beq_eq_false_iff_ne.mpr h, if_neg h]
  | cons p r ih =>
    obtain ⟨n, w⟩ := p
    unfold fput
    by_cases h : n = x
    · subst h
      rw [if_pos rfl, List.lookup_cons, List.lookup_cons]
      by_cases g : y = n
      · subst g; simp
      · rw [beq_eq_false_iff_ne.mpr g, if_neg g]
    · rw [if_neg h, List.lookup_cons, List.lookup_cons, ih]
      by_cases g : y = n
      · subst g; simp [h]
      · rw [beq_eq_false_iff_ne.mpr g]

noncomputable abbrev RU (Q : St → Prop) : Unit → View → St → Prop := fun _ _ σ' => Q σ'
/-- an assignment of a value to a target -/
noncomputable def AT (c : Cx) (sc : Scope) (b : Nat) (t : Expr) (a : AV) (σ : St) (Q : St → Prop) (X : Int → St → Prop) : Prop :=
  ∀ (f : Frm) (s : Shared) (N : Ledger) (v : Value), FOk c sc b f → Rp c f s σ N → VIs (N.see s.heap) a v → wpAny (model c.prog c.w) f.A (assign t f.env v) (Pst c f s N (RU Q)) (PX c f s N X) s
/-- a row of arguments, a display's items -/
noncomputable def AEs (c : Cx) (sc : Scope) (b : Nat) (p : Pos) (es : List Expr) (σ : St) (Q : List AV → St → Prop) (X : Int → St → Prop) : Prop :=
  ∀ (f : Frm) (s : Shared) (N : Ledger), FOk c sc b f → Rp c f s σ N → wpAny (model c.prog c.w) f.A (spliced (backTo p (starEach es f.env))) (Pst c f s N (RVs Q)) (PX c f s N X) s
/-- targets in order -/
noncomputable def ATs (c : Cx) (sc : Scope) (b : Nat) (ts : List Expr) (as : List AV) (σ : St) (Q : St → Prop) (X : Int → St → Prop) : Prop :=
  ∀ (f : Frm) (s : Shared) (N : Ledger) (vs : List Value), FOk c sc b f → Rp c f s σ N → VsIs (N.see s.heap) as vs → wpAny (model c.prog c.w) f.A (assignInOrder ((assignEach ts f.env).map (·.2)) vs) (Pst c f s N (RU Q)) (PX c f s N X) s

section
variable {c : Cx} {sc : Scope} {b : Nat} {σ : St} {X : Int → St → Prop} {f : Frm} {s : Shared} {N : Ledger}

theorem store_ok {M : Model} {A : Around} {E : Value → Shared → Prop} (hf : FOk c sc b f) (R : Rp c f s σ N) {x : Str} {a : AV} {v : Value} (hl : sc.names.lookup x = some .local) (hv : VIs (N.see s.heap) a v) {Q : Unit → Shared → Prop}
    (q : ∀ s', Step f.env.locals s N s' N → Rp c f s' ⟨fput σ.m x a, σ.H⟩ N → Q () s') : wpAny M A (storeName f.env x v) Q E s := by
  refine xl_EA (id R.loc) fun mc F hm => ?_
  refine wpAny_storeName_local ((hf.kindOf x).trans hl) F.ns (fun h' hn hs => ?_) (by rw [hf.kind']; rfl)
  obtain ⟨h1, h2⟩ := R.store (t := s.toks + 1) F hm hn hs hv (fput σ.m x a) fun y w e => by
    rw [lookup_fput] at e
    by_cases z : y = x
    · rw [if_pos z] at e; exact .inl ⟨z, (Option.some.inj e).symm⟩
    · rw [if_neg z] at e; exact .inr ⟨z, e⟩
  exact q _ h2 h1

theorem at_name {x : Str} {p : Pos} {a : AV} {Q : St → Prop} (h : Q ⟨fput σ.m x a, σ.H⟩) (hl : sc.names.lookup x = some .local := by rfl) : AT c sc b (.Name x p) a σ Q X := fun f s N v hf R hv =>
  wpAny_assign_Name (store_ok hf R hl hv fun s' st R' => ⟨_, N, st, R', h⟩)
theorem at_attr {o : Expr} {name : Str} {p : Pos} {a : AV} {Q : St → Prop} (h : AE c sc b o σ (fun w σ₁ => ∃ x C fs, w = .ref x ∧ σ₁.H x = some (.inst C fs) ∧ clsStore c.K C name = true ∧ (fput fs name a).length ≤ 1000 ∧ Q ⟨σ₁.m, σ₁.H.set x (.inst C (fput fs name a))⟩) X) :
    AT c sc b (.Attribute o name p) a σ Q X := fun f s N v hf R hv => by
  rw [assign_Attribute]
  refine wpAny_bind (wpAny_holding (h.then_ hf R fun w w' s₁ σ₁ N₁ st R₁ hw h' => ?_))
  refine xl_EEEAAAA h' fun x C fs zr7 hx k hz q => ?_; refine hw.at_eq zr7 ?_
  refine wpAny_bind (wpAny_standAt (wpAny_bind (wpAny_holding (setAttr_inst R₁ hf.ok hx (hv.mono st.tup) k hz fun s' N' st' R' => ?_))))
  exact wpAny_release ⟨_, N', st.trans st', R', q⟩

theorem ats_nil {Q : St → Prop} (h : Q σ) : ATs c sc b [] [] σ Q X := fun f s N vs hf R hv => by cases hv; exact wpAny_pure (Pst.here R h)
theorem ats_cons {t : Expr} {ts : List Expr} {a : AV} {as : List AV} {Q : St → Prop} (h : AT c sc b t a σ (fun σ₁ => ATs c sc b ts as σ₁ Q X) X) (he : ∀ env, assignEach (t :: ts) env = (false, assign t env) :: assignEach ts env := by intro _; rfl) :
    ATs c sc b (t :: ts) (a :: as) σ Q X := fun f s N vs hf R hv => by
  rw [he]
  cases hv with
  | cons h1 h2 =>
    exact wpAny_assignInOrder_more (wpAny_mono (h f s N _ hf R h1) (fun _ s₁ zf0 => xl_EEAA zf0 fun σ₁ N₁ st R₁ h' => on st (h' f s₁ N₁ _ hf R₁ (h2.mono st.tup))) fun _ _ z => z)
theorem at_tuple {ts : List Expr} {k : Nat} {p : Pos} {as : List AV} {Q : St → Prop} (h : ATs c sc b ts as σ Q X) (hl : ts.length = as.length := by rfl) (he : ∀ env, (assignEach ts env).length = ts.length ∧ (assignEach ts env).findIdx? (·.1) = none := by intro _; exact ⟨rfl, rfl⟩) :
    AT c sc b (.Tuple ts k p) (.tup as) σ Q X := fun f s N v hf R hv => by
  cases hv with
  | @tup _ vs a n e r =>
    refine wpAny_assign_Tuple hf.handled ⟨_, (Ledger.see_of e).2, rfl, n, rfl⟩ (by rw [(he _).1, hl, List.size_toArray, r.length]) (he _).2 fun h' hk => ?_
    have hk' : ∀ b o, s.heap.get? b = some o → h'.get? b = some o := fun b o e => hk b o (Nat.ne_of_lt (Heap.lt_size e)) e
    have st : Step f.env.locals s N { s with heap := h' } N := .of_keeps (t := s.toks) hk'
    exact on st (h f _ N vs hf (R.keeps (t := s.toks) hk') (r.mono st.tup))

theorem aes_nil {p : Pos} {Q : List AV → St → Prop} (h : Q [] σ) : AEs c sc b p [] σ Q X := fun f s N hf R => args_nil (Pst.here R ⟨_, .nil, h⟩)
theorem aes_cons {p : Pos} {e : Expr} {es : List Expr} {Q : List AV → St → Prop} (h : AE c sc b e σ (fun a σ₁ => AEs c sc b p es σ₁ (fun as σ₂ => Q (a :: as) σ₂) X) X) (he : ∀ env, starEach (e :: es) env = (false, eval e env) :: starEach es env := by intro _; rfl) :
    AEs c sc b p (e :: es) σ Q X := fun f s N hf R =>
  args_cons (h.then_ hf R fun v a s₁ σ₁ N₁ st R₁ hv h' => wpAny_mono (h' f s₁ N₁ hf R₁) (fun vs s₂ zf1 => xl_EEAAEA zf1 fun σ₂ N₂ st₂ R₂ as g1 g2 => ⟨σ₂, N₂, st.trans st₂, R₂, _, .cons (hv.mono st₂.tup) g1, g2⟩) fun _ _ z => z.trans st) (he _)

theorem ae_tuple {es : List Expr} {k : Nat} {p : Pos} {Q : AV → St → Prop} (h : AEs c sc b p es σ (fun as σ₁ => as.length ≤ 100 ∧ Q (.tup as) σ₁) X) : AE c sc b (.Tuple es k p) σ Q X := fun f s N hf R =>
  Tuple_ (wpAny_mono (h f s N hf R) (fun vs s₁ zf2 => xl_EEAAEAA zf2 fun σ₁ N₁ st R₁ as g1 g2 g3 => on st (wpAny_newObj_type (Pst.kp R₁ (fun b o e => Heap.get?_push_of_some _ e) ⟨_, .tup (R₁.see_new (none_at _) (Heap.get?_push_size _ rfl)) (g1.mono (see_keep fun b _ e => Heap.get?_push_of_some _ e)), g3⟩)
    (by show vs.toArray.size ≤ sizeLine; rw [List.size_toArray, g1.length, sizeLine_eq]; exact lin [_] (.v 0) (.n 16777216) [((.v 0), (.n 100))] g2 rfl))) fun _ _ z => z)

theorem new_list {M : Model} {A : Around} {E : Value → Shared → Prop} (R : Rp c f s σ N) {as : List AV} {vs : List Value} (hv : VsIs (N.see s.heap) as vs) (hz : as.length ≤ sizeLine) {Q : Value → Shared → Prop}
    (q : ∀ a s' N', σ.H a = none → Step f.env.locals s N s' N' → Rp c f s' ⟨σ.m, σ.H.set a (.list as)⟩ N' → Q (.ref a) s') : wpAny M A (newList vs) Q E s := by
  refine wpAny_newObj_type ?_ (by show vs.toArray.size ≤ sizeLine; rw [List.size_toArray, hv.length]; exact hz)
  have h0 : s.heap.get? s.heap.objs.size = none := Heap.get?_none_of_le (Nat.le_refl _)
  obtain ⟨h1, h2⟩ := R.new (t := s.toks) (a := s.heap.objs.size) (o' := listOf vs.toArray 0) (fun b ob e => Heap.get?_push_of_some _ e) (Heap.get?_push_size _ rfl) h0 (.inl ⟨_, _, rfl⟩) (fun C dx e => by cases e) (σ.H.set s.heap.objs.size (.list as))
    (fun _ b ao e z => by rw [AHeap.set_ne _ _ z] at e; exact e) (fun ao e tk => by rw [AHeap.set_self] at e; cases e; exact ⟨vs, 0, Ledger.set_self .., hv.mono tk⟩)
  exact q _ _ _ (R.H_of_none h0) h2 h1
theorem ae_list {es : List Expr} {p : Pos} {Q : AV → St → Prop} (h : AEs c sc b p es σ (fun as σ₁ => as.length ≤ 100 ∧ ∀ a, σ₁.H a = none → Q (.ref a) ⟨σ₁.m, σ₁.H.set a (.list as)⟩) X) : AE c sc b (.List es p) σ Q X := fun f s N hf R =>
  List_ (wpAny_mono (h f s N hf R) (fun vs s₁ zf3 => xl_EEAAEAA zf3 fun σ₁ N₁ st R₁ as g1 g2 g3 => new_list R₁ g1 (by rw [sizeLine_eq]; exact lin [_] (.v 0) (.n 16777216) [((.v 0), (.n 100))] g2 rfl) fun a s' N' h0 st' R' => ⟨_, N', st.trans st', R', _, .ref a, g3 a h0⟩) fun _ _ z => z)

-- statements
theorem as_nil {Q : AFl → St → Prop} (h : Q .next σ) : AS c sc b [] σ Q X := fun f s N hf own R => wpAny_execs_nil (Pst.here R ⟨_, .next, h⟩)
theorem as_cons {st : Stmt} {rest : List Stmt} {Q : AFl → St → Prop} (h : A1 c sc b st σ (fun fl σ₁ => match fl with | .next => AS c sc b rest σ₁ Q X | fl => Q fl σ₁) X) : AS c sc b (st :: rest) σ Q X := fun f s N hf own R =>
  wpAny_execs_cons (wpAny_mono (h f s N hf own R) (fun fl s₁ ⟨σ₁, N₁, st₁, R₁, a, g1, g2⟩ => by
    induction g1 with
    | next => exact on st₁ (g2 f s₁ N₁ hf own R₁)
    | brk => exact ⟨σ₁, N₁, st₁, R₁, _, .brk, g2⟩
    | cont => exact ⟨σ₁, N₁, st₁, R₁, _, .cont, g2⟩
    | ret w => exact ⟨σ₁, N₁, st₁, R₁, _, .ret w, g2⟩) fun _ _ z => z)
/-- what stands after a statement -/
noncomputable def Nx (c : Cx) (sc : Scope) (b : Nat) (rest : List Stmt) (Q : AFl → St → Prop) (X : Int → St → Prop) : AFl → St → Prop := fun fl σ₁ => match fl with | .next => AS c sc b rest σ₁ Q X | fl => Q fl σ₁
theorem as_consL {st : Stmt} {rest : List Stmt} {Q : AFl → St → Prop} (h : let K : AFl → St → Prop := Nx c sc b rest Q X; A1 c sc b st σ K X) : AS c sc b (st :: rest) σ Q X := as_cons h
theorem a1_return {e : Expr} {p : Pos} {Q : AFl → St → Prop} (h : AE c sc b e σ (fun a σ₁ => Q (.ret a) σ₁) X) : A1 c sc b (.Return (some e) p) σ Q X := fun f s N hf own R =>
  wpAny_Return_some (wpAny_mono (h f s N hf R) (fun v s₁ zf5 => xl_EEAAEA zf5 fun σ₁ N₁ st R₁ a g1 g2 => ⟨σ₁, N₁, st, R₁, _, .ret g1, g2⟩) fun _ _ z => z)
theorem a1_return0 {p : Pos} {Q : AFl → St → Prop} (h : Q (.ret .none) σ) : A1 c sc b (.Return none p) σ Q X := fun f s N hf own R =>
  wpAny_Return_none (Pst.here R ⟨_, .ret .none, h⟩)
theorem a1_expr {e : Expr} {p : Pos} {Q : AFl → St → Prop} (h : AE c sc b e σ (fun _ σ₁ => Q .next σ₁) X) (hs : ∀ env, swapsWith e none p.line env = pure false := by intro _; rfl) : A1 c sc b (.Expr e p) σ Q X := fun f s N hf own R =>
  wpAny_Expr_any (wpAny_mono (h f s N hf R) (fun v s₁ zf6 => xl_EEAAEA zf6 fun σ₁ N₁ st R₁ a g1 g2 => ⟨σ₁, N₁, st, R₁, _, .next, g2⟩) fun _ _ z => z) (by unfold interactive; rw [hf.kind']; rfl) (hs _)
theorem a1_if {t : Expr} {x y : List Stmt} {p : Pos} {Q : AFl → St → Prop} (h : AB c sc b t σ (fun z σ₁ => if z then AS c sc b x σ₁ Q X else AS c sc b y σ₁ Q X) X) : A1 c sc b (.If t x y p) σ Q X := fun f s N hf own R =>
  wpAny_If (h.then_ hf R fun z s₁ σ₁ N₁ st R₁ h' => by cases z <;> exact on st (h' f s₁ N₁ hf own R₁))
theorem a1_assign {t value : Expr} {p : Pos} {Q : AFl → St → Prop} (h : AE c sc b value σ (fun a σ₁ => AT c sc b t a σ₁ (fun σ₂ => Q .next σ₂) X) X)
    (hs : ∀ env, swapsWithSole [t] value p.line env = pure false := by intro _; rfl) (hw : ∀ env, swappedStores [t] value env = pure none := by intro _; rfl) (he : ∀ env, (assignEach [t] env).map (·.2) = [assign t env] := by intro _; rfl) :
    A1 c sc b (.Assign [t] value p) σ Q X := fun f s N hf own R =>
  wpAny_Assign_stores (h.then_ hf R fun v a s₁ σ₁ N₁ st R₁ hv h' => by
    rw [he]
    exact wpAny_mono (h' f s₁ N₁ v hf R₁ hv) (fun _ s₂ zf7 => xl_EEAA zf7 fun σ₂ N₂ st₂ R₂ g => ⟨σ₂, N₂, st.trans st₂, R₂, _, .next, g⟩) fun _ _ z => z.trans st) (hs _) (hw _)

/-- the stores of names that a display's items go to, last first -/
noncomputable def storeRev (m : List (Str × AV)) : List (Str × AV) → List (Str × AV)
  | [] => m
  | p :: r => fput (storeRev m r) p.1 p.2
theorem swapped_ok {E : Value → Shared → Prop} (hf : FOk c sc b f) : ∀ (ns : List Str) {s : Shared} {σ : St} {N : Ledger} (R : Rp c f s σ N) {as : List AV} {vs : List Value} (hv : VsIs (N.see s.heap) as vs) (hl : ∀ n ∈ ns, sc.names.lookup n = some .local) (hz : ns.length = as.length) {Q : Unit → Shared → Prop}
    (q : ∀ s', Step f.env.locals s N s' N → Rp c f s' ⟨(ns.zip as).foldl (fun m p => fput m p.1 p.2) σ.m, σ.H⟩ N → Q () s'), wpAny (model c.prog c.w) f.A (assignInOrder (ns.map fun n => bindName f.env n) vs) Q E s
  | [], s, σ, N, R, as, vs, hv, _, hz, Q, q => by
    induction as with
    | nil => cases hv; exact wpAny_pure (q s (.refl ..) R)
    | cons _ _ => injection hz
  | n :: ns, s, σ, N, R, as, vs, hv, hl, hz, Q, q => by
    cases hv with
    | nil => injection hz
    | @cons a v as vs h1 h2 =>
      refine wpAny_assignInOrder_more (wpAny_bindName (store_ok hf R (hl n (.head _)) h1 fun s' st R' => ?_))
      exact swapped_ok hf ns R' (h2.mono st.tup) (fun n' h => hl n' (.tail _ h)) (by simpa using hz) fun s'' st' R'' => q s'' (st.trans st') R''
theorem VsIs.reverse {h : View} {as : List AV} {vs : List Value} (x : VsIs h as vs) : VsIs h as.reverse vs.reverse := by
  induction as generalizing vs with
  | nil => cases x; exact .nil
  | cons a as ih => cases x with | cons p q => rw [List.reverse_cons, List.reverse_cons]; exact (ih q).append (.cons p .nil)
theorem a1_swap {t value : Expr} {p : Pos} {ns : List Str} {Q : AFl → St → Prop} (hw : ∀ env : Env, env.scope = sc → swappedStores [t] value env = pure (some ns))
    (h : AE c sc b value σ (fun a σ₁ => ∃ as, a = .tup as ∧ ns.length = as.length ∧ Q .next ⟨(ns.reverse.zip as.reverse).foldl (fun m p => fput m p.1 p.2) σ₁.m, σ₁.H⟩) X)
    (hl : ∀ n ∈ ns, sc.names.lookup n = some .local) (hs : ∀ env, swapsWithSole [t] value p.line env = pure false := by intro _; rfl) :
    A1 c sc b (.Assign [t] value p) σ Q X := fun f s N hf own R => by
  rw [exec_Assign_arm]
  refine wpAny_bind (wpAny_standAt ?_)
  rw [hs]
  refine wpAny_bind (wpAny_pure ?_)
  rw [if_neg (by decide)]
  refine wpAny_bind (h.then_ hf R fun v a s₁ σ₁ N₁ st R₁ hv h' => ?_)
  rw [hw _ hf.scope]
  refine wpAny_bind (wpAny_pure ?_)
  refine xl_EAA h' fun as zr8 hz q => ?_; refine hv.at_eq zr8 fun vs a n e r => ?_
  refine wpAny_bind (wpAny_rule (wpAny_bind ?_))
  rw [show ns.length = vs.toArray.size from by rw [hz, List.size_toArray, r.length]]
  refine wpAny_unpackItems_tuple hf.handled ⟨_, (Ledger.see_of e).2, rfl, n, rfl⟩ fun h' hk => ?_
  have hk' : ∀ b o, s₁.heap.get? b = some o → h'.get? b = some o := fun b o e => hk b o (Nat.ne_of_lt (Heap.lt_size e)) e
  have st' : Step f.env.locals s₁ N₁ { s₁ with heap := h' } N₁ := .of_keeps (t := s₁.toks) hk'
  refine wpAny_bind (swapped_ok hf ns.reverse (R₁.keeps (t := s₁.toks) hk') (r.mono st'.tup).reverse (fun n hn => hl n (List.mem_reverse.mp hn)) (by simp [hz]) fun s'' st'' R'' => ?_)
  exact wpAny_pure ⟨_, N₁, (st.trans st').trans st'', R'', _, .next, q⟩

theorem a1_augname {x : Str} {op : Operator} {value : Expr} {p p' : Pos} {Q : AFl → St → Prop} {a : AV} (hv : σ.m.lookup x = some a)
    (h : AE c sc b value σ (fun a' σ₁ => ∃ r, (match op, a, a' with | .Add, .int i, .int j => r = .int (i + j) | .Add, .str u, .str w => r = .str (u ++ w) ∧ u.length + w.length ≤ sizeLine | _, _, _ => False) ∧ Q .next ⟨fput σ₁.m x r, σ₁.H⟩) X) (hl : sc.names.lookup x = some .local := by rfl) :
    A1 c sc b (.AugAssign (.Name x p') op value p) σ Q X := fun f s N hf own R => by
  refine xl_EA R.loc fun mc F hm => ?_
  refine xl_EA (hm x a hv) fun v h1 h2 => ?_
  refine wpAny_AugAssign_Name (wpAny_loadName_local hf.kind' ((hf.kindOf x).trans hl) F.ns h1 (h.then_ hf R fun v' a' s₁ σ₁ N₁ st R₁ hv' h' => ?_))
  refine xl_EA h' fun r hr q => ?_; try clear h'
  have h2' := h2.mono st.tup
  split at hr
  · cases h2'; cases hv'; subst hr
    exact PyProof.Rows.iadd_int (store_ok hf R₁.toks hl (.int _ _) fun s'' st'' R'' => ⟨_, N₁, st.trans ((Step.of_keeps (h' := s₁.heap) fun _ _ e => e).trans st''), R'', _, .next, q⟩)
  · cases h2'; cases hv'; obtain ⟨rfl, hz⟩ := hr
    exact wpAny_tk (PyProof.Rows.iadd_str (fun t tk ht => store_ok hf (R₁.toks (t := tk)) hl (.str _ t) fun s'' st'' R'' => ⟨_, N₁, st.trans ((Step.of_keeps (h' := s₁.heap) fun _ _ e => e).trans st''), R'', _, .next, q⟩) hz)
  · exact hr.elim

theorem a1_augattr {o : Expr} {name : Str} {op : Operator} {value : Expr} {p tp : Pos} {Q : AFl → St → Prop}
    (h : AE c sc b o σ (fun w σ₁ => ∃ x C fs i, w = .ref x ∧ σ₁.H x = some (.inst C fs) ∧ fs.lookup name = some (.int i) ∧ clsField c.K C name = true ∧ op = .Add ∧
      AE c sc b value σ₁ (fun a' σ₂ => ∃ j fs', a' = .int j ∧ σ₂.H x = some (.inst C fs') ∧ clsStore c.K C name = true ∧ (fput fs' name (.int (i + j))).length ≤ 1000 ∧ Q .next ⟨σ₂.m, σ₂.H.set x (.inst C (fput fs' name (.int (i + j))))⟩) X) X) :
    A1 c sc b (.AugAssign (.Attribute o name tp) op value p) σ Q X := fun f s N hf own R => by
  refine wpAny_AugAssign_AttributeAny (h.then_ hf R fun v w s₁ σ₁ N₁ st R₁ hv h' => ?_)
  refine xl_EEEEAAAAA h' fun x C fs i ew hx hl k eop h' => ?_
  rw [ew] at hv
  rw [eop]
  refine hv.at ?_
  refine getAttr_inst R₁ hf.ok hx hl k rfl fun v t ht g => ?_
  refine g.at fun u => ?_
  have st' : Step f.env.locals s N { s₁ with toks := t } N₁ := st.trans (.of_keeps (h' := s₁.heap) fun _ _ e => e)
  refine h'.next st' hf R₁.toks fun v' a' s₂ σ₂ N₂ st₂ _ R₂ hv' h'' => ?_
  refine xl_EEAAAA h'' fun j fs' ea hx' k' hz q => ?_
  rw [ea] at hv'
  refine hv'.at fun u => ?_
  refine PyProof.Rows.iadd_int ?_
  have st₃ : Step f.env.locals s N { s₂ with toks := s₂.toks + 1 } N₂ := st₂.trans (.of_keeps (h' := s₂.heap) fun _ _ e => e)
  exact setAttr_inst R₂.toks hf.ok hx' (.int _ _) k' hz fun s' N' st'' R' => ⟨_, N', st₃.trans st'', R', _, .next, q⟩
end
end Mine
end

section
open PySem PySem.W PySem.Calls PyProof.Rows
namespace Mine

/-- a while loop that stands at its test -/
noncomputable def AW (c : Cx) (sc : Scope) (b : Nat) (test : Expr) (body : List Stmt) (σ : St) (Q : AFl → St → Prop) (X : Int → St → Prop) : Prop :=
  ∀ (f : Frm) (s : Shared) (N : Ledger), FOk c sc b f → f.env = f.fenv → Rp c f s σ N → codeAny (model c.prog c.w) f.A (.whileLoop test body [] f.env)
    (fun r s' => match r with | .ok fl => Pst c f s N (RF Q) fl s' | .error e => PXg true (some f.Lf) c f s N X e s') s
/-- a call, as an operation -/
noncomputable def ACw (c : Cx) (b : Nat) (fv : AV) (args : List AV) (H : AHeap) (Q : AV → AHeap → Prop) (X : Int → AHeap → Prop) : Prop :=
  ∀ (sc : Scope) (f : Frm) (s : Shared) (N : Ledger) (σ : St) (v : Value) (vs : List Value), FOk c sc b f → Rp c f s σ N → σ.H = H → VIs (N.see s.heap) fv v → VsIs (N.see s.heap) args vs →
    wpAny (model c.prog c.w) f.A (call v vs) (Pst c f s N fun r V σ' => σ'.m = σ.m ∧ ∃ a, VIs V a r ∧ Q a σ'.H) (PX c f s N fun l σ' => σ'.m = σ.m ∧ X l σ'.H) s
theorem acw_of {c : Cx} {b : Nat} {fv : AV} {args : List AV} {H : AHeap} {Q : AV → AHeap → Prop} {X : Int → AHeap → Prop}
    (k : ∀ (sc : Scope) (f : Frm) (s : Shared) (N : Ledger) (m : List (Str × AV)), FOk c sc b f → Rp c f s ⟨m, H⟩ N → VIs.den (N.see s.heap) fv fun v => VsIs.den (N.see s.heap) args fun vs =>
      wpAny (model c.prog c.w) f.A (call v vs) (Pst c f s N fun r V σ' => σ'.m = m ∧ ∃ a, VIs V a r ∧ Q a σ'.H) (PX c f s N fun l σ' => σ'.m = m ∧ X l σ'.H) s) : ACw c b fv args H Q X := fun sc f s N σ v vs hf R e hv hvs =>
  hvs.at _ _ _ (hv.at0 (k sc f s N σ.m hf (e ▸ R)))
/-- what a call of a def leaves -/
noncomputable def CallEnd (c : Cx) (f : Frm) (s : Shared) (N : Ledger) (m : List (Str × AV)) (Q : AV → AHeap → Prop) (X : Int → AHeap → Prop) : Result → Shared → Prop := fun r s' => match r with
  | .ok (.ret v) => Pst c f s N (fun r V σ' => σ'.m = m ∧ ∃ a, VIs V a r ∧ Q a σ'.H) v s'
  | .ok _ => False
  | .error e => PX c f s N (fun l σ' => σ'.m = m ∧ X l σ'.H) e s'
/-- a call of a def, as code -/
noncomputable def AC (c : Cx) (b : Nat) (fv : AV) (args : List AV) (H : AHeap) (Q : AV → AHeap → Prop) (X : Int → AHeap → Prop) : Prop :=
  ∀ (sc : Scope) (f : Frm) (s : Shared) (N : Ledger) (σ : St) (v : Value) (vs : List Value), FOk c sc b f → Rp c f s σ N → σ.H = H → VIs (N.see s.heap) fv v → VsIs (N.see s.heap) args vs →
    codeAny (model c.prog c.w) f.A (.call v ⟨vs, []⟩) (CallEnd c f s N σ.m Q X) s
theorem AC.w {c : Cx} {b : Nat} {fv : AV} {args : List AV} {H : AHeap} {Q : AV → AHeap → Prop} {X : Int → AHeap → Prop} (h : AC c b fv args H Q X) : ACw c b fv args H Q X := fun sc f s N σ v vs hf R e hv hvs =>
  wpAny_call (codeAny_mono (h sc f s N σ v vs hf R e hv hvs) fun r s' z => by
    unfold CallEnd at z
    rcases r with e | (v | _ | _ | _) <;> exact z)
theorem AC.mono {c : Cx} {b : Nat} {fv : AV} {args : List AV} {H : AHeap} {Q Q' : AV → AHeap → Prop} {X X' : Int → AHeap → Prop} (h : AC c b fv args H Q X) (hq : ∀ a H, Q a H → Q' a H) (hx : ∀ l H, X l H → X' l H) : AC c b fv args H Q' X' := fun sc f s N σ v vs hf R e hv hvs =>
  codeAny_mono (h sc f s N σ v vs hf R e hv hvs) fun r s' z => by
    unfold CallEnd at z ⊢
    rcases r with e | (v | _ | _ | _)
    · exact z.mono fun l σ ⟨h1, h2⟩ => ⟨h1, hx _ _ h2⟩
    all_goals first | exact z | exact z.mono fun V σ' zf1 => xl_AEA zf1 fun h1 a h2 h3 => ⟨h1, a, h2, hq _ _ h3⟩

section
variable {c : Cx} {sc : Scope} {b : Nat} {σ : St} {X : Int → St → Prop} {f : Frm} {s : Shared} {N : Ledger}

theorem cameBack_x {A : Around} {σ₀ : St} {ev : Value} {s' : Shared} (hf : f.fenv.frame = some f.Lf) (own : f.env = f.fenv) (R₀ : Rp c f s σ₀ N) (h'' : PXg true (some f.Lf) c f s N X ev s') : cameBackBy (model c.prog c.w) A f.env (PX c f s N X) ev s' := by
  rw [own]
  have h0 := h''
  refine xl_EEEEAAAA h'' fun e σ' N' line ee h1 h2 fl hX => ?_; clear h''; subst ee
  have e0 := fl.e0
  have eN := fl.eN
  refine xl_EEEEEEAAAAAA fl.there fun dx sl vs es n t g1 g2 g3 g4 g5 g6 g7 => ?_
  rcases g7 with ⟨z, _⟩ | ⟨T, oT, ts, k1, k2, k3, k4, k5, k6, k7, k8⟩
  · injection z
  refine wpAny_bind (wpAny_field g1 rfl k1 ?_)
  rw [if_neg (show ¬ ((Value.ref T == Value.none) = true) from by simp)]
  exact flight_x f.fenv.frame R₀.stays h0 fun s₃ h₃ => h₃.weaken (.inr hf)
theorem noted_x {A : Around} {σ₀ : St} {ev : Value} {s' : Shared} (hfr : A.frames = some (f.fenv :: f.outer)) (hf : f.fenv.frame = some f.Lf) (own : f.env = f.fenv) (R₀ : Rp c f s σ₀ N) (h : PX c f s N X ev s') :
    notedBy (model c.prog c.w) A f.env (PXg true (some f.Lf) c f s N X) ev s' := by
  rw [own]; exact note_x hfr hf R₀ h fun s'' h'' => h''

theorem a1_while {test : Expr} {body : List Stmt} {p : Pos} {Q : AFl → St → Prop} (h : AW c sc b test body σ Q X) : A1 c sc b (.While test body [] p) σ Q X := fun f s N hf own R =>
  wpAny_While (codeAny_mono (h f s N hf own R) fun r s' z => by
    induction r with
    | ok fl => exact z
    | error e => exact cameBack_x hf.fframe own R z)
theorem aw_unroll {test : Expr} {body : List Stmt} {Q : AFl → St → Prop} (h : AB c sc b test σ (fun z σ₁ => if z then AS c sc b body σ₁ (fun fl σ₂ => match fl with
      | .next | .cont => AW c sc b test body σ₂ Q X
      | .brk => Q .next σ₂
      | .ret a => Q (.ret a) σ₂) X else Q .next σ₁) X) : AW c sc b test body σ Q X := fun f s N hf own R => by
  refine codeAny_of_tree ?_
  rw [Around.under_of_weight (by rfl) (by rfl)]
  show wpAny _ f.A ((whileTurn test body [] f.env).onRaise (fun x => do noteFrame x f.env; theTreesLotGoes x)) _ _ s
  refine wpAny_noted ?_
  have note : ∀ ev s', PX c f s N X ev s' → notedBy (model c.prog c.w) f.A f.env (PXg true (some f.Lf) c f s N X) ev s' := fun ev s' z => noted_x hf.frames hf.fframe own R z
  simp only [whileTurn]
  refine wpAny_bind (wpAny_mono (h f s N hf R) (fun z s₁ zf2 => xl_EEAA zf2 fun σ₁ N₁ st R₁ h' => ?_) note)
  induction z with
  | false =>
    simp only [Bool.false_eq_true, if_false]
    exact wpAny_bind (wpAny_execs_nil (wpAny_pure ⟨σ₁, N₁, st, R₁, _, .next, h'⟩))
  | true =>
    simp only [if_true]
    refine wpAny_bind (wpAny_mono (h' f s₁ N₁ hf own R₁) (fun fl s₂ zf3 => xl_EEAAEA zf3 fun σ₂ N₂ st₂ R₂ a g1 g2 => ?_) fun ev s' z => note ev s' (z.trans st))
    have again : AW c sc b test body σ₂ Q X → codeAny (model c.prog c.w) f.A (.whileLoop test body [] f.env) (fun r s' => match r with | .ok fl => Pst c f s N (RF Q) fl s' | .error e => PXg true (some f.Lf) c f s N X e s') s₂ := fun g =>
      codeAny_mono (g f s₂ N₂ hf own R₂) fun r s' z => by
        induction r with
        | ok fl => exact z.trans (st.trans st₂)
        | error e => exact z.trans (st.trans st₂)
    induction g1 with
    | next => exact wpAny_pure ⟨rfl, again g2⟩
    | cont => exact wpAny_pure ⟨rfl, again g2⟩
    | brk => exact wpAny_pure ⟨σ₂, N₂, st.trans st₂, R₂, _, .next, g2⟩
    | ret w => exact wpAny_pure ⟨σ₂, N₂, st.trans st₂, R₂, _, .ret w, g2⟩

theorem binds_lookup {h : View} : ∀ {ns : List Str} {as : List AV} {ws : List Value} (_ : VsIs h as ws) (l1 : List (Str × AV)) (l2 : List (Str × Value)) (_ : ∀ x a, l1.lookup x = some a → ∃ v, l2.lookup x = some v ∧ VIs h a v),
    ∀ x a, ((ns.zip as).reverse ++ l1).lookup x = some a → ∃ v, ((ns.zip ws).reverse ++ l2).lookup x = some v ∧ VIs h a v
  | [], _, _, _, l1, l2, k => by simpa using k
  | _ :: _, [], _, v, l1, l2, k => by cases v; simpa using k
  | n :: ns, a :: as, _, .cons p r, l1, l2, k => by
    simp only [List.zip_cons_cons, List.reverse_cons, List.append_assoc, List.singleton_append]
    refine binds_lookup r _ _ fun x a' e => ?_
    rw [List.lookup_cons] at e ⊢
    by_cases q : x = n
    · subst q; simp only [beq_self_eq_true] at e ⊢; cases e; exact ⟨_, rfl, p⟩
    · rw [beq_eq_false_iff_ne.mpr q] at e ⊢; exact k x a' e

/-- the frame of a call -/
noncomputable def Frm.callee (f : Frm) (A : Around) (env : Env) (L : Addr) : Frm := { A := A.deeper env, env := env, fenv := env, outer := f.fenv :: f.outer, Lf := L }

theorem Rp.enter (R : Rp c f s σ N) {h₀ : Heap} {t : Nat} {env : Env} {A : Around} {m : List (Str × AV)} {mc : Str → Option Value} (hl : env.locals = s.heap.objs.size) (hfr : env.frame = some s.heap.objs.size) (hk : env.scope.kind = .function)
    (ns : h₀.Ns s.heap.objs.size mc) (keep : ∀ b o, s.heap.get? b = some o → h₀.get? b = some o) (hm : ∀ x a, m.lookup x = some a → ∃ v, mc x = some v ∧ VIs (N.see s.heap) a v) (ht : s.toks ≤ t) :
    Rp c (f.callee A env s.heap.objs.size) { s with heap := h₀, toks := t } ⟨m, σ.H⟩ N := by
  obtain ⟨⟨mc₀, F, hm₀⟩, led, inj, dicts, rel, ff, fd, tok⟩ := R
  have tk : TupKeep (N.see s.heap) (N.see h₀) := see_keep keep
  have h0 : s.heap.get? s.heap.objs.size = none := Heap.get?_none_of_le (Nat.le_refl _)
  have hB : c.B.get? s.heap.objs.size = none := by
    cases z : c.B.get? s.heap.objs.size with
    | none => rfl
    | some o => have := F.keep _ o z; rw [h0] at this; injection this
  refine xl_EEEAA (id ns) fun oL es ep g1 g2 g3 => ?_
  have frs : (f.callee A env s.heap.objs.size).frs = s.heap.objs.size :: f.frs := by
    show (env :: f.fenv :: f.outer).filterMap (·.frame) = _
    rw [List.filterMap_cons, hfr]; rfl
  refine ⟨⟨mc, ⟨by show h₀.Ns env.locals mc; rw [hl]; exact ns, fun b o e => keep b o (F.keep b o e), ?_⟩, fun x a e => ?_⟩, fun a o e => ?_, inj, dicts, fun a o e => (rel a o e).mono tk, ?_, fun b hb => ?_, Nat.lt_of_lt_of_le tok ht⟩
  · show c.B.objs.size ≤ env.locals
    rw [hl]; exact Nat.le_trans F.above (Nat.le_of_lt F.ns.lt)
  · refine xl_EA (hm x a e) fun v e1 e2 => ?_; exact ⟨v, e1, e2.mono tk⟩
  · refine xl_AAAA (led a o e) fun k1 k2 k3 k4 k5 => ?_
    have ne : a ≠ s.heap.objs.size := Nat.ne_of_lt (Heap.lt_size k1)
    exact ⟨keep _ _ k1, k2, by show a ≠ env.locals; rw [hl]; exact ne, k4, by rw [frs]; intro q; rcases List.mem_cons.mp q with q | q; exact ne q; exact k5 q⟩
  · exact ⟨by show env.scope.kind ≠ .module; rw [hk]; simp, ⟨_, oL, hfr, hB, g1, fun vs q => by rw [g2] at q; injection q⟩, ff.of_keeps fun b o e _ => ⟨o, keep b o e, rfl⟩⟩
  · rw [frs] at hb
    rcases List.mem_cons.mp hb with rfl | hb
    · exact ⟨oL, es, ep, g1, g2⟩
    · refine xl_EEEA (fd b hb) fun o es' n k1 k2 => ?_; exact ⟨o, es', n, keep _ _ k1, k2⟩

/-- back from a call: what the caller sees -/
theorem Rp.back (R : Rp c f s σ N) {h₀ : Heap} {t : Nat} {env : Env} {A : Around} {s' : Shared} {σ' : St} {N' : Ledger} (hl : env.locals = s.heap.objs.size) (hfr : env.frame = some s.heap.objs.size) (keep : ∀ b o, s.heap.get? b = some o → h₀.get? b = some o)
    (st : Step s.heap.objs.size { s with heap := h₀, toks := t } N s' N') (R' : Rp c (f.callee A env s.heap.objs.size) s' σ' N') : Step f.env.locals s N s' N' ∧ Rp c f s' ⟨σ.m, σ'.H⟩ N' := by
  obtain ⟨⟨mc₀, F, hm₀⟩, led, inj, dicts, rel, ff, fd, tok⟩ := R
  obtain ⟨⟨mc', F', _⟩, led', inj', dicts', rel', ff', fd', tok'⟩ := R'
  have tk : TupKeep (N.see s.heap) (N'.see s'.heap) := fun b vs n e => st.tup b vs n (see_keep keep b vs n e)
  have frs : (f.callee A env s.heap.objs.size).frs = s.heap.objs.size :: f.frs := by
    show (env :: f.fenv :: f.outer).filterMap (·.frame) = _
    rw [List.filterMap_cons, hfr]; rfl
  have lt : ∀ {b o}, s.heap.get? b = some o → b ≠ s.heap.objs.size := fun e => Nat.ne_of_lt (Heap.lt_size e)
  have old : ∀ b, N' b ≠ none → N b ≠ none ∨ s.heap.get? b = none := fun b hb => by
    rcases st.new b hb with z | z
    · exact .inl z
    · right
      cases q : s.heap.get? b with
      | none => rfl
      | some o => have := keep b o q; rw [show h₀.get? b = none from z] at this; injection this
  refine xl_EEEAAA F.ns fun oL es ep g1 g2 g3 g4 => ?_
  have NL : N f.env.locals = none := by
    cases q : N f.env.locals with
    | none => rfl
    | some o => exact absurd rfl (led _ _ q).2.2.1
  obtain ⟨sl, hL⟩ := st.rest _ oL (keep _ _ g1) (lt g1) NL
  refine ⟨⟨by rw [st.shape], tk, fun b o e hb hN => st.rest b o (keep b o e) (lt e) hN, old, fun b o e => st.mono b o (keep b o e), fun b o e hb hN hd => st.exact b o (keep b o e) (lt e) hN hd, st.priv⟩, ⟨⟨mc₀, ⟨⟨_, es, ep, hL, g2, g3, g4⟩, fun b o e => F'.keep b o e, F.above⟩, fun x a e => ?_⟩, fun a o e => ?_, inj', dicts', rel', ff'.2.2, fun b hb => fd' b (by rw [frs]; exact List.mem_cons_of_mem _ hb), tok'⟩⟩
  · refine xl_EA (hm₀ x a e) fun v e1 e2 => ?_; exact ⟨v, e1, e2.mono tk⟩
  · refine xl_AAAA (led' a o e) fun k1 k2 k3 k4 k5 => ?_
    refine ⟨k1, k2, fun z => ?_, k4, fun q => k5 (by rw [frs]; exact List.mem_cons_of_mem _ q)⟩
    rcases old a (by rw [e]; exact fun q => nomatch q) with w | w
    · exact w (z ▸ NL)
    · rw [z, g1] at w; injection w

/-- a def of the text is called -/
theorem ac_def {fa : Addr} {oc : Value} {od : Option Addr} {osl : Array (Option Value)} {fd : FuncData} {body : List Stmt} {ns : List Str} {args as' : List AV} {H : AHeap} {Q : AV → AHeap → Prop} {X : Int → AHeap → Prop}
    (hK : c.K.lookup fa = some ⟨oc, od, .func fd, osl⟩) (hcd : codeIn c.K fd.code fd.qualname = true)
    (hbind : ∀ (s : Shared) (V : View) vs, c.K.In s.heap → VsIs V args vs → ∃ ws, BindsTo s fd ⟨vs, []⟩ (ns.zip ws) ∧ VsIs V as' ws)
    (hns : ∀ n ∈ ns, fd.scope.names.lookup n = some .local)
    (h : AS c fd.scope b body ⟨(ns.zip as').reverse, H⟩ (fun fl σ' => match fl with | .ret a => Q a σ'.H | _ => Q .none σ'.H) (fun l σ' => X l σ'.H))
    (hb : fd.body = .stmts body := by rfl) (hg : fd.globals = mainGlobals := by rfl) (hcl : fd.closure = [] := by rfl) (hbi : fd.builtins = builtinsNs := by rfl)
    (hcell : ∀ x ∈ fd.scope.names, x.2 ≠ .cell := by decide) (hco : fd.scope.isCoroutine = false := by rfl) (hgen : fd.scope.isGenerator = false := by rfl) (hk : fd.scope.kind = .function := by rfl) :
    AC c (b + 1) (.ref fa) args H Q X := fun sc f s N σ v vs hf R eH hv hvs => by
  subst eH
  cases hv
  refine xl_EA (hbind s _ vs (R.kin hf.ok) hvs) fun ws hB hws => ?_
  have hlim : s.heap.NoLimit := hf.ok.top.nolimit.keeps R.stays
  have rm := hf.room
  have un := hf.units
  refine codeAny_call_def (by exact lin [_, _] (.a (.v 0) (.n 1)) (.n 1000) [((.a (.a (.a (.v 0) (.m 4 (.a (.v 1) (.n 1)))) (.n 8)) (.n 1)), (.n 1000))] rm rfl) (R.kin hf.ok _ _ hK) rfl hlim (codeRec_of (R.kin hf.ok) hcd) hb hB hcell (fun x hx => hns x.1 ?_) (fun h₀ hn hkp => ?_) hco hgen hk
  · exact (List.of_mem_zip (show (x.1, x.2) ∈ _ from hx)).1
  have e1 : (callEnv fd s.heap.objs.size fa).locals = s.heap.objs.size := rfl
  have e2 : (callEnv fd s.heap.objs.size fa).frame = some s.heap.objs.size := rfl
  have R₁ : Rp c (f.callee f.A (callEnv fd s.heap.objs.size fa) s.heap.objs.size) { s with heap := h₀, toks := s.toks + (ns.zip ws).length } ⟨(ns.zip as').reverse, σ.H⟩ N :=
    R.enter e1 e2 hk hn hkp (by have := binds_lookup (ns := ns) hws [] [] (fun _ _ e => by injection e); simpa using this) (Nat.le_add_right _ _)
  have hf' : FOk c fd.scope b (f.callee f.A (callEnv fd s.heap.objs.size fa) s.heap.objs.size) :=
    ⟨hf.ok, rfl, hk, hg, hbi, rfl, rfl, by show (f.A.deeper _).frames = _; unfold Around.deeper; dsimp only; rw [hf.frames]; rfl, by show f.A.depth + 1 + 4 * b + 8 < _; exact lin [_, _] (.a (.a (.a (.a (.v 0) (.n 1)) (.m 4 (.v 1))) (.n 8)) (.n 1)) (.n 1000) [((.a (.a (.a (.v 0) (.m 4 (.a (.v 1) (.n 1)))) (.n 8)) (.n 1)), (.n 1000))] rm rfl, by show f.A.units + 3 + 16 * b + 32 < _; exact lin [_, _] (.a (.a (.a (.a (.v 0) (.n 3)) (.m 16 (.v 1))) (.n 32)) (.n 1)) (.n 9900) [((.a (.a (.a (.v 0) (.m 16 (.a (.v 1) (.n 1)))) (.n 32)) (.n 1)), (.n 9900))] un rfl, hf.handled⟩
  refine wpAny_mono (h _ _ _ hf' rfl R₁) (fun fl s' zf4 => xl_EEAAEA zf4 fun σ' N' st R' a g1 g2 => ?_) fun ev s' z => ?_
  · obtain ⟨b1, b2⟩ := R.back e1 e2 hkp st R'
    induction g1 with
    | ret w => exact ⟨_, N', b1, b2, rfl, _, w, g2⟩
    | next => exact ⟨_, N', b1, b2, rfl, .none, .none, g2⟩
    | brk => exact ⟨_, N', b1, b2, rfl, .none, .none, g2⟩
    | cont => exact ⟨_, N', b1, b2, rfl, .none, .none, g2⟩
  · refine leave_x hf'.frames rfl R₁ z fun s'' zf5 => xl_EEEEAAAA zf5 fun e σ' N' line he st R' fl hX => ?_
    obtain ⟨b1, b2⟩ := R.back e1 e2 hkp st R'
    refine PXg.weaken (nt := true) (fl := none) ⟨e, _, N', line, he, b1, b2, ?_, rfl, hX⟩ (.inl rfl)
    have fresh : ∀ b, h₀.get? b = none → s.heap.get? b = none := fun b hb => by
      cases q : s.heap.get? b with
      | none => rfl
      | some o => have := hkp b o q; rw [hb] at this; injection this
    have e0 := fl.e0
    have eN := fl.eN
    refine xl_EEEEEEAAAAAA fl.there fun dx sl vs es n t h1 h2 h3 h4 h5 h6 h7 => ?_
    refine ⟨fresh _ e0, eN, dx, sl, vs, es, n, t, h1, h2, h3, h4, fresh _ h5, h6, ?_⟩
    rcases h7 with h7 | ⟨T, oT, ts, g1, g2, g3, g4, g5, g6, g7, g8⟩
    · exact .inl h7
    · exact .inr ⟨T, oT, ts, g1, g2, g3, g4, g5, g6, fresh _ g7, g8⟩
end
end Mine
end

section
open PySem PySem.W PySem.Calls PyProof.Rows
namespace Mine

noncomputable def keepV (K : Frag) : AV → Bool
  | .ref a => keepIn K (.ref a)
  | .bi _ => true
  | .ty _ => true
  | _ => false
/-- a row of arguments has no star -/
noncomputable def NoStar (p : Pos) (es : List Expr) : Prop := ∃ e r, es = e :: r ∧ ∀ env, starEach (e :: r) env = (false, eval e env) :: starEach r env ∧ (backTo p (starEach r env)).any (·.1) = false
theorem NoStar.cons {p : Pos} {e : Expr} {r : List Expr} (h : ∀ env, starEach (e :: r) env = (false, eval e env) :: starEach r env ∧ (backTo p (starEach r env)).any (·.1) = false) : NoStar p (e :: r) := ⟨e, r, rfl, h⟩

section
variable {c : Cx} {sc : Scope} {b : Nat} {σ : St} {X : Int → St → Prop} {f : Frm} {s : Shared} {N : Ledger}

theorem keep_looks {M : Model} {fv : AV} {v : Value} {h : Heap} {h₀ : View} (k : keepV c.K fv = true) (hv : VIs h₀ fv v) (X : c.K.In h) : ∃ k, (k = Keeper.frame ∨ k = Keeper.machine ∨ k = Keeper.boundFrame) ∧ Looks M h (keeperOf v) k := by
  cases hv <;> first | cases k | skip
  · refine xl_EA (looks_keep (M := M) (K := c.K) (f := .ref _) k X) fun z h1 h2 => ?_
    exact ⟨z, h1.elim .inl fun e => .inr (.inl e), h2⟩
  · exact ⟨.machine, .inr (.inl rfl), Looks.of_pure rfl⟩
  · exact ⟨.machine, .inr (.inl rfl), Looks.of_pure rfl⟩

/-- arguments, then the call -/
theorem call_args {σ₁ : St} {s₁ : Shared} {N₁ : Ledger} {p : Pos} {args : List Expr} {fv : AV} {first : List AV} {v : Value} {vs : List Value} {Q : AV → St → Prop} (st : Step f.env.locals s N s₁ N₁) (hf : FOk c sc b f) (R₁ : Rp c f s₁ σ₁ N₁) (hst : NoStar p args) (k : keepV c.K fv = true)
    (hv : VIs (N₁.see s₁.heap) fv v) (hvs : VsIs (N₁.see s₁.heap) first vs) (h : AEs c sc b p args σ₁ (fun as σ₂ => ACw c b fv (first ++ as) σ₂.H (fun a H => Q a ⟨σ₂.m, H⟩) (fun l H => X l ⟨σ₂.m, H⟩)) X) :
    wpAny (model c.prog c.w) f.A (callWith p v vs (backTo p (starEach args f.env)) []) (Pst c f s N (RV Q)) (PX c f s N X) s₁ := by
  have tail : wpAny (model c.prog c.w) f.A (spliced (backTo p (starEach args f.env))) (fun ws s₂ => c.K.In s₂.heap ∧ wpAny (model c.prog c.w) f.A (call v (vs ++ ws)) (Pst c f s N (RV Q)) (PX c f s N X) s₂) (PX c f s N X) s₁ :=
    wpAny_mono (h f s₁ N₁ hf R₁) (fun ws s₂ zf0 => xl_EEAAEA zf0 fun σ₂ N₂ st₂ R₂ as g1 g2 => ⟨R₂.kin hf.ok, wpAny_mono (g2 sc f s₂ N₂ σ₂ v (vs ++ ws) hf R₂ rfl (hv.mono st₂.tup) ((hvs.mono st₂.tup).append g1))
      (fun r s₃ zz => xl_EEAAAEA zz fun σ₃ N₃ st₃ R₃ em a i1 i2 => ⟨σ₃, N₃, (st.trans st₂).trans st₃, R₃, a, i1, by rw [← em] at i2; exact i2⟩) fun ev s₃ z => (z.trans (st.trans st₂)).mono fun l σ' zz => by have hx := zz.2; rw [← zz.1] at hx; exact hx⟩) fun _ _ z => z.trans st
  refine xl_EEA hst fun e r zr1 he => ?_; try clear hst; subst zr1
  rw [(he f.env).1] at tail ⊢
  exact callWith_of (P := fun h => c.K.In h) (by show ((false || (backTo p (starEach r f.env)).any (·.1)) || false) = false; rw [(he f.env).2]; rfl) (fun h X => keep_looks k hv X) (evalArgs_plain tail)
theorem call_args0 {σ₁ : St} {s₁ : Shared} {N₁ : Ledger} {p : Pos} {fv : AV} {first : List AV} {v : Value} {vs : List Value} {Q : AV → St → Prop} (st : Step f.env.locals s N s₁ N₁) (hf : FOk c sc b f) (R₁ : Rp c f s₁ σ₁ N₁) (k : keepV c.K fv = true)
    (hv : VIs (N₁.see s₁.heap) fv v) (hvs : VsIs (N₁.see s₁.heap) first vs) (h : ACw c b fv first σ₁.H (fun a H => Q a ⟨σ₁.m, H⟩) (fun l H => X l ⟨σ₁.m, H⟩)) :
    wpAny (model c.prog c.w) f.A (callWith p v vs (backTo p (starEach [] f.env)) []) (Pst c f s N (RV Q)) (PX c f s N X) s₁ := by
  refine callWith_of (P := fun h => c.K.In h) rfl (fun h X => keep_looks k hv X) (evalArgs_nil3 ⟨R₁.kin hf.ok, ?_⟩)
  refine wpAny_mono (h sc f s₁ N₁ σ₁ v (vs ++ []) hf R₁ rfl hv (by rw [List.append_nil]; exact hvs)) (fun r s₃ zz => xl_EEAAAEA zz fun σ₃ N₃ st₃ R₃ em a i1 i2 => ⟨σ₃, N₃, st.trans st₃, R₃, a, i1, by rw [← em] at i2; exact i2⟩) fun ev s₃ z => (z.trans st).mono fun l σ' zz => by have hx := zz.2; rw [← zz.1] at hx; exact hx

/-- f(..) -/
theorem ae_call {fn : Expr} {args : List Expr} {p : Pos} {Q : AV → St → Prop} (h : AE c sc b fn σ (fun fv σ₁ => keepV c.K fv = true ∧ AEs c sc b p args σ₁ (fun as σ₂ => ACw c b fv as σ₂.H (fun a H => Q a ⟨σ₂.m, H⟩) (fun l H => X l ⟨σ₂.m, H⟩)) X) X)
    (hst : NoStar p args := by exact NoStar.cons fun _ => ⟨rfl, rfl⟩) (he : ∀ env, eval (.Call fn args [] p) env = (do callWith p (← eval fn env) [] (backTo p (starEach args env)) (backToKw p (keywordEach [] env))) := by intro _; rfl) :
    AE c sc b (.Call fn args [] p) σ Q X := fun f s N hf R =>
  Call_ (h.then_ hf R fun v fv s₁ σ₁ N₁ st R₁ hv zz => call_args (first := []) st hf R₁ hst zz.1 hv .nil zz.2) (he _)
theorem ae_call0 {fn : Expr} {p : Pos} {Q : AV → St → Prop} (h : AE c sc b fn σ (fun fv σ₁ => keepV c.K fv = true ∧ ACw c b fv [] σ₁.H (fun a H => Q a ⟨σ₁.m, H⟩) (fun l H => X l ⟨σ₁.m, H⟩)) X)
    (he : ∀ env, eval (.Call fn [] [] p) env = (do callWith p (← eval fn env) [] (backTo p (starEach [] env)) (backToKw p (keywordEach [] env))) := by intro _; rfl) :
    AE c sc b (.Call fn [] [] p) σ Q X := fun f s N hf R =>
  Call_ (h.then_ hf R fun v fv s₁ σ₁ N₁ st R₁ hv zz => call_args0 (first := []) st hf R₁ zz.1 hv .nil zz.2) (he _)

/-- what a method's name gives -/
noncomputable def MR (c : Cx) (σ : St) (name : Str) (ov fv : AV) (first : List AV) : Prop :=
  ∀ (f : Frm) (s : Shared) (N : Ledger) (v : Value) (A : Around) (E : Value → Shared → Prop) (pl : Sem Bool) (Q : Value × List Value → Shared → Prop), c.Ok → Rp c f s σ N → VIs (N.see s.heap) ov v →
    (∀ w ws, VIs (N.see s.heap) fv w → VsIs (N.see s.heap) first ws → Q (w, ws) s) → wpAny (model c.prog c.w) A (getMethod v name pl) Q E s
/-- o.name(..) -/
theorem ae_meth {o : Expr} {name : Str} {args : List Expr} {ap p : Pos} {pl : Env → Sem Bool} {Q : AV → St → Prop} (h : AE c sc b o σ (fun ov σ₁ => ∃ fv first, MR c σ₁ name ov fv first ∧ keepV c.K fv = true ∧ AEs c sc b p args σ₁ (fun as σ₂ => ACw c b fv (first ++ as) σ₂.H (fun a H => Q a ⟨σ₂.m, H⟩) (fun l H => X l ⟨σ₂.m, H⟩)) X) X)
    (hst : NoStar p args := by exact NoStar.cons fun _ => ⟨rfl, rfl⟩) (he : ∀ env, eval (.Call (.Attribute o name ap) args [] p) env = (do
      let ov ← eval o env
      standAt ap.atName
      let (f, first) ← holding [ov] (getMethod ov name (pl env))
      callWith p f first (backTo p (starEach args env)) []) := by intro _; rfl) : AE c sc b (.Call (.Attribute o name ap) args [] p) σ Q X := fun f s N hf R =>
  MethodCall_ (h.then_ hf R fun v ov s₁ σ₁ N₁ st R₁ hv zf7 => xl_EEAA zf7 fun fv first m k h' => m f s₁ N₁ v _ _ _ _ hf.ok R₁ hv fun w ws hw hws => call_args st hf R₁ hst k hw hws h') (he _)
theorem ae_meth0 {o : Expr} {name : Str} {ap p : Pos} {pl : Env → Sem Bool} {Q : AV → St → Prop} (h : AE c sc b o σ (fun ov σ₁ => ∃ fv first, MR c σ₁ name ov fv first ∧ keepV c.K fv = true ∧ ACw c b fv first σ₁.H (fun a H => Q a ⟨σ₁.m, H⟩) (fun l H => X l ⟨σ₁.m, H⟩)) X)
    (he : ∀ env, eval (.Call (.Attribute o name ap) [] [] p) env = (do
      let ov ← eval o env
      standAt ap.atName
      let (f, first) ← holding [ov] (getMethod ov name (pl env))
      callWith p f first (backTo p (starEach [] env)) []) := by intro _; rfl) : AE c sc b (.Call (.Attribute o name ap) [] [] p) σ Q X := fun f s N hf R =>
  MethodCall_ (h.then_ hf R fun v ov s₁ σ₁ N₁ st R₁ hv zf8 => xl_EEAA zf8 fun fv first m k h' => m f s₁ N₁ v _ _ _ _ hf.ok R₁ hv fun w ws hw hws => call_args0 st hf R₁ k hw hws h') (he _)

noncomputable def clsMeth (K : Frag) (C : Addr) (name : Str) (fa : Addr) : Bool := plainGet K C name && findIn K (.ref C) name == some (some (.ref fa)) && isFn K (.ref fa)
theorem mr_inst {name : Str} {x C fa : Addr} {fs : List (Str × AV)} (hx : σ.H x = some (.inst C fs)) (hl : fs.lookup name = none) (k : clsMeth c.K C name fa = true) : MR c σ name (.ref x) (.ref fa) [.ref x] := fun f s N v A E pl Q ok R hv q => by
  cases hv
  refine xl_EEEAAA (instAt R hx) fun dx es n e1 e2 r I => ?_
  unfold clsMeth at k
  obtain ⟨k, k3⟩ := Bool.and_eq_true_iff.mp k
  obtain ⟨k1, k2⟩ := Bool.and_eq_true_iff.mp k
  refine xl_EA R.loc fun mc F _ => ?_
  exact method_inst F ok.kin I k1 (beq_iff_eq.mp k2) k3 (r.getNone hl) (q _ _ (.ref _) (.cons (.ref _) .nil))

/-- an object is made: its class has an __init__ of the text -/
theorem ac_class {C fI : Addr} {args : List AV} {H : AHeap} {Q : AV → AHeap → Prop} {X : Int → AHeap → Prop} (hm : makesIn c.K C = true) (hi : findIn c.K (.ref C) "__init__" = some (some (.ref fI))) (ht : typeIn c.K (.ref fI) = some (.type "function"))
    (h : ∀ x, H x = none → AC c b (.ref fI) (.ref x :: args) (H.set x (.inst C [])) (fun r H' => r = .none ∧ Q (.ref x) H') X) : AC c (b + 1) (.ref C) args H Q X := fun sc f s N σ v vs hf R eH hv hvs => by
  subst eH
  cases hv
  have rm := hf.room
  have un := hf.units
  obtain ⟨hh, g, d, t, os⟩ := s
  have h0 : hh.get? hh.objs.size = none := Heap.get?_none_of_le (Nat.le_refl _)
  obtain ⟨R₁, st₁⟩ := R.new (t := t) (a := hh.objs.size) (o' := dictOf [] 0) (h' := hh.push emptyDict) (fun b ob e => Heap.get?_push_of_some _ e) (Heap.get?_push_size _ rfl) h0 (.inr (.inl ⟨_, _, rfl⟩)) (fun C dx e => by cases e) σ.H
    (fun _ b ao e z => e) (fun ao e => by have := R.H_of_none h0; rw [e] at this; injection this)
  have h1 : (hh.push emptyDict).get? (hh.objs.size + 1) = none := Heap.get?_none_of_le (by rw [Heap.size_push]; exact Nat.le_refl _)
  have hNs : N.set hh.objs.size (dictOf [] 0) hh.objs.size = some (dictOf [] 0) := Ledger.set_self ..
  obtain ⟨R₂, st₂⟩ := R₁.new (t := t) (a := hh.objs.size + 1) (o' := instObj C hh.objs.size) (h' := (hh.push emptyDict).push (instObj C hh.objs.size)) (fun b ob e => Heap.get?_push_of_some _ e) (by rw [← Heap.size_push hh emptyDict]; exact Heap.get?_push_size _ rfl) h1 (.inr (.inr (.inl ⟨_, _, rfl⟩)))
    (fun C' dx e => by
      have : dx = hh.objs.size := by cases e; rfl
      subst this
      refine ⟨⟨[], 0, hNs⟩, fun y C'' e' => ?_, R.H_of_none h0⟩
      by_cases z : y = hh.objs.size
      · subst z; rw [hNs] at e'; cases e'
      · rw [Ledger.set_ne _ _ z] at e'
        refine xl_EE (R.dicts y C'' _ e') fun es n e'' => ?_
        rw [R.N_of_none h0] at e''; injection e'')
    (σ.H.set (hh.objs.size + 1) (.inst C [])) (fun _ b ao e z => by rw [AHeap.set_ne _ _ z] at e; exact e)
    (fun ao e _ => by rw [AHeap.set_self] at e; cases e; exact ⟨hh.objs.size, [], 0, Ledger.set_self .., (Ledger.set_ne _ _ (Nat.ne_of_lt (Nat.lt_succ_self _))).trans hNs, .nil⟩)
  have hx0 : σ.H (hh.objs.size + 1) = none := R.H_of_none (Heap.get?_none_of_le (Nat.le_succ _))
  refine make_core (makes_of (R.kin hf.ok) hm) (looks_findIn (R.kin hf.ok) hi) (fun self => bind_fn (R.kin hf.ok) self ht) (.inl rfl) ?_
  have hf' : FOk c sc b { f with A := f.A.under (.builtin "type.__call__" ⟨.ref C :: vs, []⟩) } :=
    ⟨hf.ok, hf.scope, hf.kind, hf.glob, hf.bins, hf.frame, hf.fframe, hf.frames, by show f.A.depth + 1 + 4 * b + 8 < _; exact lin [_, _] (.a (.a (.a (.a (.v 0) (.n 1)) (.m 4 (.v 1))) (.n 8)) (.n 1)) (.n 1000) [((.a (.a (.a (.v 0) (.m 4 (.a (.v 1) (.n 1)))) (.n 8)) (.n 1)), (.n 1000))] rm rfl, by show f.A.units + 1 + 16 * b + 32 < _; exact lin [_, _] (.a (.a (.a (.a (.v 0) (.n 1)) (.m 16 (.v 1))) (.n 32)) (.n 1)) (.n 9900) [((.a (.a (.a (.v 0) (.m 16 (.a (.v 1) (.n 1)))) (.n 32)) (.n 1)), (.n 9900))] un rfl, hf.handled⟩
  have Rf : Rp c { f with A := f.A.under (.builtin "type.__call__" ⟨.ref C :: vs, []⟩) } ⟨(hh.push emptyDict).push (instObj C hh.objs.size), g, d, t, os⟩ ⟨σ.m, σ.H.set (hh.objs.size + 1) (.inst C [])⟩ _ := ⟨R₂.1, R₂.2, R₂.3, R₂.4, R₂.5, R₂.6, R₂.7, R₂.8⟩
  refine codeAny_mono (h _ hx0 sc { f with A := f.A.under (.builtin "type.__call__" ⟨.ref C :: vs, []⟩) } _ _ ⟨σ.m, σ.H.set (hh.objs.size + 1) (.inst C [])⟩ _ _ hf' Rf rfl (.ref _) (.cons (.ref _) ((hvs.mono st₁.tup).mono st₂.tup))) fun r s' z => ?_
  unfold CallEnd at z
  have st := Step.trans st₁ st₂
  rcases r with e | (v | _ | _ | _)
  · refine xl_EEEEAAAA z fun e' σ' N' line i0 i1 i2 i3 i4 => ?_; try clear z
    exact PXg.trans (f := f) st ⟨e', σ', N', line, i0, i1, ⟨i2.1, i2.2, i2.3, i2.4, i2.5, i2.6, i2.7, i2.8⟩, i3, i4⟩
  · exact z.elim
  · exact z.elim
  · exact z.elim
  · refine xl_EEAAAEAA z fun σ' N' i1 i2 i3 a i4 i5 i6 => ?_; try clear z
    subst i5
    cases i4
    exact ⟨rfl, σ', N', st.trans i1, ⟨i2.1, i2.2, i2.3, i2.4, i2.5, i2.6, i2.7, i2.8⟩, i3, _, .ref _, i6⟩
end
end Mine
end

section
open PySem PySem.W PySem.Calls PyProof.Rows
namespace Mine

/-- a bound of a slice -/
noncomputable def AEo (c : Cx) (sc : Scope) (b : Nat) (x : Option Expr) (σ : St) (Q : Option Int → St → Prop) (X : Int → St → Prop) : Prop := match x with
  | none => Q none σ
  | some e => AE c sc b e σ (fun a σ₁ => ∃ i, a = .int i ∧ Q (some i) σ₁) X

/-- an item by a place or a key -/
noncomputable def SubR (c : Cx) (o k : AV) (σ : St) (Q : AV → St → Prop) : Prop := match o with
  | .str x => (match k with | .int i => -(2 ^ 62 : Int) < i ∧ i < 2 ^ 62 ∧ -(x.length : Int) ≤ i ∧ i < x.length ∧ Q (.str (Txt.item x i)) σ | _ => False)
  | .tup as => (match k with | .int i => ∃ (j : Nat) (a : AV), seqIndex? i as.length = some j ∧ as[j]? = some a ∧ -(2 ^ 62 : Int) < i ∧ i < 2 ^ 62 ∧ Q a σ | _ => False)
  | .ref l => (match k with
    | .int i => ∃ as a, σ.H l = some (.list as) ∧ -(2 ^ 62 : Int) < i ∧ i < 2 ^ 62 ∧ ((0 ≤ i ∧ as[i.toNat]? = some a) ∨ (i < 0 ∧ -(as.length : Int) ≤ i ∧ as[(i + as.length).toNat]? = some a)) ∧ Q a σ
    | .str x => ∃ kvs a, σ.H l = some (.dict c.w kvs) ∧ kvs.lookup x = some a ∧ Q a σ
    | _ => False)
  | _ => False

section
variable {c : Cx} {sc : Scope} {b : Nat} {σ : St} {X : Int → St → Prop} {f : Frm} {s : Shared} {N : Ledger}

theorem AEo.run {x : Option Expr} {Q : Option Int → St → Prop} {Q' : Value → Shared → Prop} {s₁ : Shared} {σ₁ : St} {N₁ : Ledger} (h : AEo c sc b x σ₁ Q X) (st : Step f.env.locals s N s₁ N₁) (hf : FOk c sc b f) (R : Rp c f s₁ σ₁ N₁)
    (k : ∀ v l s₂ σ₂ N₂, Step f.env.locals s N s₂ N₂ → Step f.env.locals s₁ N₁ s₂ N₂ → Rp c f s₂ σ₂ N₂ → (∃ p, l = p.map (·.1) ∧ v = partValue p) → Q l σ₂ → Q' v s₂) : wpAny (model c.prog c.w) f.A (evalPart x f.env) Q' (PX c f s N X) s₁ := by
  induction x with
  | none => exact wpAny_pure (k _ _ _ _ _ st (.refl ..) R ⟨none, rfl, rfl⟩ h)
  | some e =>
    exact AE.next h st hf R fun v a s₂ σ₂ N₂ st₂ st₁₂ R₂ hv hq => by
      refine xl_EA hq fun i zr8 q => ?_; refine hv.at_eq zr8 fun u => ?_
      exact k _ _ _ _ _ st₂ st₁₂ R₂ ⟨some (i, _), rfl, rfl⟩ q

/-- x[i:j] of a text -/
theorem ae_slice {e : Expr} {lo hi : Option Expr} {p p' : Pos} {Q : AV → St → Prop} (h : AE c sc b e σ (fun a σ₁ => ∃ x, a = .str x ∧ x.length ≤ sizeLine ∧ AEo c sc b lo σ₁ (fun l σ₂ => AEo c sc b hi σ₂ (fun u σ₃ => Q (.str (Txt.slice x l u)) σ₃) X) X) X) :
    AE c sc b (.Subscript e (.Slice lo hi none p) p') σ Q X := fun f s N hf R => by
  refine Subscript_ (h.then_ hf R fun v a s₁ σ₁ N₁ st R₁ hv h' => ?_)
  refine xl_EAA h' fun x ex hz h' => ?_
  refine hv.at_eq ex fun t => ?_
  refine wpAny_Slice (h'.run st hf R₁ fun vl l s₂ σ₂ N₂ st₂ _ R₂ hl h'' => h''.run st₂ hf R₂ fun vu u s₃ σ₃ N₃ st₃ _ R₃ hu q => ?_)
  obtain ⟨pl, rfl, rfl⟩ := hl
  refine xl_EA hu fun pu zr12 zr13 => ?_; try clear hu; subst zr12; subst zr13
  rw [evalPart_none]
  refine wpAny_pure (tail_any (typeIs_str _ x t) F.slot_str_getitem.lookup (ops := [.ref s₃.heap.objs.size, .str x t]) ?_ rfl)
  refine wpAny_tk (wpAny_getItem_str_slice (l := pl) (u := pu) (st := none) ⟨_, Heap.get?_push_size _ rfl, rfl, rfl⟩ rfl (post_val_or_str ⟨Nat.le_trans (Txt.slice_le x _ _) hz, fun t' k ht => ?_⟩))
  exact (Pst.kp R₃ (t := k) (fun b o e => Heap.get?_push_of_some _ e) ⟨_, .str _ t', q⟩).trans st₃

theorem dict_map (R : Rp c f s σ N) {d : Addr} {kvs : List (Str × AV)} (hd : σ.H d = some (.dict c.w kvs)) : ∃ m, s.heap.MapOf (strKind c.prog c.w) d m ∧ ∀ x, (∀ a, kvs.lookup x = some a → ∃ v, m x = some v ∧ VIs (N.see s.heap) a v) ∧ (kvs.lookup x = none → m x = none) := by
  refine xl_EEAAA (R.rel d _ hd) fun es n e r _ hh => ?_
  have q : ∀ x, findBy (strKind c.prog c.w).is es.toArray x = (getL x es).join := fun x => by
    show findBy Value.isStrOf es.toArray x = _
    unfold findBy getL
    rw [List.find?_toArray, show (fun e : DictEntry => Value.isStrOf x e.key) = fun e => e.key.isStr x from funext fun e => (isStr_of x e.key).symm]
    cases z : es.find? (fun e => e.key.isStr x) with
    | some en => rfl
    | none => simp only [Option.map_none]; split <;> rfl
  refine ⟨fun x => (getL x es).join, ⟨_, es.toArray, n, (R.led _ _ e).1, ⟨rfl, rfl, rfl⟩, rfl, fun en he => ?_, q⟩, fun x => ⟨fun a ha => ?_, fun hx => ?_⟩⟩
  · refine xl_EEA (hh en (by simpa using he)) fun k t h1 h2 => ?_
    exact ⟨k, by rw [h1]; exact strKind_is .., h2⟩
  · refine xl_EA (r.get ha) fun v g1 g2 => ?_
    exact ⟨v, by dsimp only; rw [g1]; rfl, g2⟩
  · dsimp only; rw [r.getNone hx]; rfl

theorem subR {o k : AV} {v w : Value} {Q : AV → St → Prop} {A : Around} {E : Value → Shared → Prop} (h : SubR c o k σ Q) (R : Rp c f s σ N) (h1 : VIs (N.see s.heap) o v) (h2 : VIs (N.see s.heap) k w) :
    ∃ T id, s.TypeIs v T ∧ typeLookup (.type T) "__getitem__" = pure (some (.builtin id)) ∧ wpAny (model c.prog c.w) A (getItem v w) (Pst c f s N (RV Q)) E s := by
  cases o with
  | str x => cases k with
    | int i =>
      refine h1.at fun t => ?_
      refine h2.at fun u => ?_
      refine xl_AAAA h fun g1 g2 g3 g4 q => ?_; try clear h
      refine ⟨"str", _, typeIs_str _ x _, F.slot_str_getitem.lookup, ?_⟩
      obtain ⟨ch, hc⟩ := Option.isSome_iff_exists.mp (charAt_isSome g3 g4)
      refine P.getItem_str (c := ch) (Bool.or_eq_false_iff.mpr ⟨decide_eq_false (Int.not_lt.mpr (Int.le_of_lt (Int.lt_trans (by decide) g1))), decide_eq_false (Int.not_le.mpr (Int.lt_trans g2 (by decide)))⟩) hc (Pst.tk R ⟨_, .str _ _, ?_⟩)
      have : Txt.item x i = ⟨#[ch]⟩ := by unfold Txt.item; rw [hc]; rfl
      rw [this] at q; exact q
    | _ => exact False.elim h
  | tup as => cases k with
    | int i =>
      refine h1.at fun vs a n e r => ?_
      refine h2.at fun u => ?_
      refine xl_EEAAAA h fun j y hj hy g1 g2 q => ?_; try clear h
      refine xl_EA (r.get hy) fun v' e1 e2 => ?_
      have ht : IsTup s.heap a vs.toArray := ⟨_, (Ledger.see_of e).2, rfl, n, rfl⟩
      exact ⟨"tuple", _, ht.typeIs, slot_tuple_getitem.lookup, PyProof.Rows.getItem_tuple ht (by exact linI [_] [] (.n (-9223372036854775808)) (.v 0) [((.a (.n (-4611686018427387904)) (.n 1)), (.v 0))] g1 rfl) (by exact linI [_] [] (.a (.v 0) (.n 1)) (.n 9223372036854775808) [((.a (.v 0) (.n 1)), (.n 4611686018427387904))] g2 rfl) (by rw [List.size_toArray, r.length]; exact hj) (by simpa using e1) (Pst.here R ⟨_, e2, q⟩)⟩
    | _ => exact False.elim h
  | ref l => cases k with
    | int i =>
      refine h1.at ?_
      refine h2.at fun u => ?_
      refine xl_EEAAAA h fun as y hl g1 g2 hy q => ?_; try clear h
      refine xl_EEA (R.rel l _ hl) fun ws n e r => ?_
      have hL : s.heap.IsList l ws.toArray := ⟨_, (R.led _ _ e).1, rfl, n, rfl⟩
      refine ⟨"list", _, hL.typeIs, slot_list_getitem.lookup, ?_⟩
      rcases hy with ⟨h0, hy⟩ | ⟨h0, h0', hy⟩
      · refine xl_EA (r.get hy) fun v' e1 e2 => ?_
        exact wpAny_getItem_list hL h0 (by exact linI [_] [] (.a (.v 0) (.n 1)) (.n 9223372036854775808) [((.a (.v 0) (.n 1)), (.n 4611686018427387904))] g2 rfl) (by simpa using e1) (Pst.here R ⟨_, e2, q⟩)
      · refine xl_EA (r.get hy) fun v' e1 e2 => ?_
        exact wpAny_getItem_list_neg hL h0 (by rw [List.size_toArray, r.length]; exact h0') (by exact linI [_] [] (.n (-9223372036854775808)) (.v 0) [((.a (.n (-4611686018427387904)) (.n 1)), (.v 0))] g1 rfl) (by rw [List.size_toArray, r.length]; simpa using e1) (Pst.here R ⟨_, e2, q⟩)
    | str x =>
      refine h1.at ?_
      refine h2.at fun t => ?_
      refine xl_EEAA h fun kvs a hd hl q => ?_; try clear h
      refine xl_EA (dict_map R hd) fun m M hm => ?_
      refine xl_EA ((hm x).1 a hl) fun v' e1 e2 => ?_
      exact ⟨"dict", _, M.typeIs, slot_dict_getitem.lookup, wpAny_getItem_of (strKind_is c.prog c.w x t) M e1 (Pst.tk R ⟨_, e2, q⟩)⟩
    | _ => exact False.elim h
  | _ => exact False.elim h
theorem ae_sub {e sl : Expr} {p : Pos} {Q : AV → St → Prop} (h : AE c sc b e σ (fun o σ₁ => AE c sc b sl σ₁ (fun k σ₂ => SubR c o k σ₂ Q) X) X) (hs : ∀ o i, subscripted sl false o i = operate [o, i] (getItem o i) := by intro _ _; rfl) :
    AE c sc b (.Subscript e sl p) σ Q X := fun f s N hf R => by
  refine Subscript_ (h.then_ hf R fun v o s₁ σ₁ N₁ st R₁ hv h' => h'.next st hf R₁ fun w k s₂ σ₂ N₂ st₂ st₁₂ R₂ hw h'' => ?_)
  refine xl_EEAA (subR (c := c) (A := f.A) (E := PX c f s₂ N₂ X) h'' R₂ (hv.mono st₁₂.tup) hw) fun T id hT hl g => ?_
  exact on st₂ (tail_any hT hl g (hs _ _))

/-- a display of written texts and written values -/
inductive DL : List (Option Expr) → List Expr → List (Str × AV) → Prop
  | nil : DL [] [] []
  | int {k : Str} {i : Int} {n1 n2 : Nat} {p1 p2 : Pos} {ks : List (Option Expr)} {vs : List Expr} {kvs : List (Str × AV)} : DL ks vs kvs → DL (some (.Constant (.str k) n1 p1) :: ks) (.Constant (.int i) n2 p2 :: vs) ((k, .int i) :: kvs)
  | str {k x : Str} {n1 n2 : Nat} {p1 p2 : Pos} {ks : List (Option Expr)} {vs : List Expr} {kvs : List (Str × AV)} : DL ks vs kvs → DL (some (.Constant (.str k) n1 p1) :: ks) (.Constant (.str x) n2 p2 :: vs) ((k, .str x) :: kvs)
noncomputable def VP (h : View) : List (Str × AV) → List (Str × Value) → Prop
  | [], [] => True
  | (n, a) :: r, (m, v) :: r' => n = m ∧ VIs h a v ∧ VP h r r'
  | _, _ => False
theorem dl_run {pos : Pos} {env : Env} {ks : List (Option Expr)} {vs : List Expr} {kvs : List (Str × AV)} (h : DL ks vs kvs) : ∃ pairs : List (Sem Value × Sem Value), (evalEachOpt ks env).zip ((evalEach vs env).map fun v => do let x ← v; standAt pos; pure x) = pairs.map (fun p => (some p.1, p.2)) ∧ pairs.length = kvs.length ∧
    ∀ (A : Around) (E : Value → Shared → Prop) (s : Shared) (Q : List (Value × Value) → Shared → Prop), (∀ ws l t, s.toks ≤ t → Carries (strKind c.prog c.w) ws l → (∀ h, VP h kvs l) → Q ws { s with toks := t }) → wpAny (model c.prog c.w) A (evalPairs pairs) Q E s := by
  induction h with
  | nil => exact ⟨[], rfl, rfl, fun A E s Q q => evalPairs_nil (q [] [] s.toks (Nat.le_refl _) trivial fun _ => trivial)⟩
  | @int k i n1 n2 p1 p2 ks vs kvs _ ih =>
    refine xl_EAA ih fun pairs h1 h2 h3 => ?_; try clear ih
    refine ⟨(constValue env (.str k), (do let x ← constValue env (.int i); standAt pos; pure x)) :: pairs, ?_, by simp [h2], fun A E s Q q => ?_⟩
    · show (some _, _) :: _ = _
      rw [List.map_cons]; exact congrArg _ h1
    · refine evalPairs_cons ?_
      show wpAny _ _ (mkText k) _ _ _
      refine wpAny_mkText ?_
      show wpAny _ _ (do let x ← mkInt i; standAt pos; pure x) _ _ _
      refine wpAny_bind (wpAny_mkInt (wpAny_bind (wpAny_standAt (wpAny_pure ?_))))
      exact h3 A E _ _ fun ws l t ht hc hv => q _ ((k, .int i _) :: l) t (Nat.le_trans (Nat.le_succ_of_le (Nat.le_succ _)) ht) ⟨strKind_is .., rfl, hc⟩ fun h => ⟨rfl, .int _ _, hv h⟩
  | @str k x n1 n2 p1 p2 ks vs kvs _ ih =>
    refine xl_EAA ih fun pairs h1 h2 h3 => ?_; try clear ih
    refine ⟨(constValue env (.str k), (do let x ← constValue env (.str x); standAt pos; pure x)) :: pairs, ?_, by simp [h2], fun A E s Q q => ?_⟩
    · show (some _, _) :: _ = _
      rw [List.map_cons]; exact congrArg _ h1
    · refine evalPairs_cons ?_
      show wpAny _ _ (mkText k) _ _ _
      refine wpAny_mkText ?_
      show wpAny _ _ (do let x ← mkText x; standAt pos; pure x) _ _ _
      refine wpAny_bind (wpAny_mkText (wpAny_bind (wpAny_standAt (wpAny_pure ?_))))
      exact h3 A E _ _ fun ws l t ht hc hv => q _ ((k, .str x _) :: l) t (Nat.le_trans (Nat.le_succ_of_le (Nat.le_succ _)) ht) ⟨strKind_is .., rfl, hc⟩ fun h => ⟨rfl, .str _ _, hv h⟩
theorem vp_fs {h : View} : ∀ {kvs : List (Str × AV)} {l : List (Str × Value)} {es : List DictEntry}, VP h kvs l → Pairs (strKind c.prog c.w) es l → FsIs h kvs es
  | [], [], _, _, .nil => .nil
  | (n, a) :: r, (m, v) :: r', e :: es, hh, .cons h4 h5 h6 => by
    refine xl_AA hh fun h1 h2 h3 => ?_; try clear hh
    subst h1
    obtain ⟨t, ht⟩ := Value.isStrOf_shape (show Value.isStrOf n e.key = true from h4)
    obtain ⟨hs, k, w⟩ := e
    dsimp only at ht h5
    subst ht h5
    exact .cons h2 (vp_fs h3 h6)
theorem vp_keys {h : View} : ∀ {kvs : List (Str × AV)} {l : List (Str × Value)}, VP h kvs l → l.map (·.1) = kvs.map (·.1)
  | [], [], _ => rfl
  | (n, a) :: r, (m, v) :: r', ⟨h1, _, h3⟩ => by rw [List.map_cons, List.map_cons, vp_keys h3, h1]
theorem ae_dict_lo {ks : List (Option Expr)} {vs : List Expr} {kvs : List (Str × AV)} {p : Pos} {Q : AV → St → Prop} (hd : DL ks vs kvs) (hn : (kvs.map (·.1)).Nodup) (h0 : kvs ≠ []) (hz : kvs.length ≤ 15) (h : ∀ a, σ.H a = none → (a == sysModules) = false → Q (.ref a) ⟨σ.m, σ.H.set a (.dict c.w kvs)⟩) :
    AE c sc b (.Dict ks vs p) σ Q X := fun f s N hf R => by
  refine xl_EAA (dl_run (c := c) (pos := p) (env := f.env) hd) fun pairs h1 h2 h3 => ?_
  refine wpAny_Dict_pairs (knd := strKind c.prog c.w) h1 (fun e => h0 (List.length_eq_zero_iff.mp (by rw [← h2, e]; rfl))) (by exact lin [_, _] (.v 1) (.n 15) [((.v 0), (.n 15)), ((.v 1), (.v 0))] hz (Nat.le_of_eq h2) rfl) (h3 _ _ _ _ fun ws l t ht hc hv => ?_)
  refine ⟨l, hc, ⟨_, #[], 0, Heap.get?_push_size _ rfl, ⟨rfl, rfl, rfl⟩, rfl, (fun _ he => by simp at he), .nil, List.nodup_nil⟩, fun h' hD hs => ?_⟩
  have hl : merged [] l = l := merged_append_of_fresh [] l (by rw [List.nil_append, vp_keys (hv (fun _ => none))]; exact hn)
  rw [hl] at hD
  refine xl_EEEAAAAA hD fun o es ep g1 zn14 g5 g6 g7 g8 => ?_; try clear hD; refine xl_AA zn14 fun g2 g3 g4 => ?_; try clear zn14
  have ho : o = dictOf es.toList ep := by
    obtain ⟨a1, a2, a3, a4⟩ := o
    dsimp only at g2 g3 g4 g5
    subst g2 g3 g4 g5
    rfl
  subst ho
  have hk : ∀ b ob, s.heap.get? b = some ob → h'.get? b = some ob := fun b ob e => (hs.2 b (Nat.ne_of_lt (Heap.lt_size e))).trans (Heap.get?_push_of_some _ e)
  have h0' : s.heap.get? s.heap.objs.size = none := Heap.get?_none_of_le (Nat.le_refl _)
  obtain ⟨R', st⟩ := R.new (t := t + ws.length) (ht := Nat.le_trans ht (Nat.le_add_right _ _)) hk g1 h0' (.inr (.inl ⟨_, _, rfl⟩)) (fun C dx e => by cases e) (σ.H.set s.heap.objs.size (.dict c.w kvs)) (fun _ b ao e z => by rw [AHeap.set_ne _ _ z] at e; exact e)
    (fun ao e _ => by
      rw [AHeap.set_self] at e; cases e
      refine ⟨es.toList, ep, Ledger.set_self .., vp_fs (hv _) g7, fun x C q => ?_, fun en he => ?_⟩
      · by_cases z : x = s.heap.objs.size
        · subst z; rw [Ledger.set_self] at q; cases q
        · rw [Ledger.set_ne _ _ z] at q
          refine xl_EE (R.dicts _ _ _ q) fun es' n' q' => ?_
          rw [R.N_of_none h0'] at q'; injection q'
      · refine xl_EA (g6 en (by simpa using he)) fun k i1 i2 => ?_
        obtain ⟨t', ht'⟩ := Value.isStrOf_shape (show Value.isStrOf k en.key = true from i1)
        exact ⟨k, t', ht', i2⟩)
  have lo : (s.heap.objs.size == sysModules) = false := by
    refine xl_EA R.loc fun mc F _ => ?_
    exact F.notModules (modules_low hf.ok.top.nolimit)
  exact ⟨_, _, st, R', _, .ref _, h _ (R.H_of_none h0') lo⟩
theorem ae_dict {ks : List (Option Expr)} {vs : List Expr} {kvs : List (Str × AV)} {p : Pos} {Q : AV → St → Prop} (hd : DL ks vs kvs) (hn : (kvs.map (·.1)).Nodup) (h0 : kvs ≠ []) (hz : kvs.length ≤ 15) (h : ∀ a, σ.H a = none → Q (.ref a) ⟨σ.m, σ.H.set a (.dict c.w kvs)⟩) :
    AE c sc b (.Dict ks vs p) σ Q X := ae_dict_lo hd hn h0 hz fun a h0 _ => h a h0
end
end Mine
end

section
open PySem PySem.W PySem.Calls PyProof.Rows
namespace Mine

section
variable {c : Cx} {sc : Scope} {b : Nat} {σ : St} {f : Frm} {s : Shared} {N : Ledger} {H : AHeap} {Q : AV → AHeap → Prop} {X : Int → AHeap → Prop}

-- calls of built-in functions
theorem acw_len_str {x : Str} (hz : x.length < 2 ^ 62) (q : Q (.int x.length) H) : ACw c b (.bi "len") [.str x] H Q X := acw_of fun sc f s N m hf R t =>
  PyProof.Rows.len_str (Int.not_le.mpr (Int.lt_trans (Int.ofNat_lt.mpr hz) (by decide))) (Pst.tk R ⟨rfl, _, .int _ _, q⟩)
theorem listAt (R : Rp c f s σ N) {l : Addr} {as : List AV} (hl : σ.H l = some (.list as)) : ∃ ws n, N l = some (listOf ws.toArray n) ∧ s.heap.get? l = some (listOf ws.toArray n) ∧ VsIs (N.see s.heap) as ws ∧ s.heap.IsList l ws.toArray := by
  refine xl_EEA (R.rel l _ hl) fun ws n e r => ?_
  exact ⟨ws, n, e, (R.led _ _ e).1, r, _, (R.led _ _ e).1, rfl, n, rfl⟩
theorem acw_len_list {l : Addr} {as : List AV} (hl : H l = some (.list as)) (hz : as.length < 2 ^ 62) (q : Q (.int as.length) H) : ACw c b (.bi "len") [.ref l] H Q X := acw_of fun sc f s N m hf R => by
    refine xl_EEAAA (listAt R hl) fun ws n e1 e2 r I => ?_
    exact call_len_list I (by rw [List.size_toArray, r.length]; exact linI [] [_] (.a (.c (.v 0)) (.n 1)) (.n 9223372036854775808) [((.c (.a (.v 0) (.n 1))), (.c (.n 4611686018427387904)))] (Int.ofNat_le.mpr hz) rfl) (Pst.tk R ⟨rfl, _, by rw [List.size_toArray, r.length]; exact .int _ _, q⟩)
theorem acw_len_tup {as : List AV} (hz : as.length < 2 ^ 62) (q : Q (.int as.length) H) : ACw c b (.bi "len") [.tup as] H Q X := acw_of fun sc f s N m hf R ws a n e r =>
    PyProof.Rows.len_tuple ⟨_, (Ledger.see_of e).2, rfl, n, rfl⟩ (by rw [List.size_toArray, r.length]; exact linI [] [_] (.a (.c (.v 0)) (.n 1)) (.n 9223372036854775808) [((.c (.a (.v 0) (.n 1))), (.c (.n 4611686018427387904)))] (Int.ofNat_le.mpr hz) rfl) (Pst.tk R ⟨rfl, _, by rw [List.size_toArray, r.length]; exact .int _ _, q⟩)
theorem acw_max {i j : Int} (q : Q (.int (max i j)) H) : ACw c b (.bi "max") [.int i, .int j] H Q X := acw_of fun sc f s N m hf R t u => by
      refine wpAny_tk (max_two_ints hf.handled fun h' tk hk ht => Pst.kp R hk ⟨rfl, .int (max i j), ?_, q⟩)
      split
      · rename_i h; rw [Int.max_eq_right (Int.le_of_lt h)]; exact .int _ _
      · rename_i h; rw [Int.max_eq_left (Int.not_lt.mp h)]; exact .int _ _
theorem acw_chr {i : Int} (h0 : 0 ≤ i) (h1 : i ≤ 0x10FFFF) (q : Q (.str ⟨#[i.toNat]⟩) H) : ACw c b (.bi "chr") [.int i] H Q X := acw_of fun sc f s N m hf R t =>
  P.chr_of_int (by simp; exact And.intro (linI [_] [] (.n 0) (.v 0) [((.n 0), (.v 0))] h0 rfl) (linI [_] [] (.v 0) (.n 1114111) [((.v 0), (.n 1114111))] h1 rfl)) (Pst.tk R ⟨rfl, _, .str _ _, q⟩)
theorem acw_int {x : Str} {n : Int} (hn : PySem.intText? x = some n) (hz : x.length ≤ 640) (q : Q (.int n) H) : ACw c b (.ty "int") [.str x] H Q X := acw_of fun sc f s N m hf R t =>
  KIN.call_text hn hz (Pst.tk R ⟨rfl, _, .int _ _, q⟩)
theorem acw_isi_str_str {x : Str} (q : Q (.bool true) H) : ACw c b (.bi "isinstance") [.str x, .ty "str"] H Q X := acw_of fun sc f s N m hf R t =>
  IsiPair.str_str (Pst.here R ⟨rfl, _, .bool _, q⟩)
theorem acw_isi_list {l : Addr} {as : List AV} (hl : H l = some (.list as)) {T : String} (hT : T = "str" ∨ T = "int") (q : Q (.bool false) H) : ACw c b (.bi "isinstance") [.ref l, .ty T] H Q X := acw_of fun sc f s N m hf R => by
      refine xl_EEAAA (listAt R hl) fun ws n e1 e2 r I => ?_
      rcases hT with rfl | rfl
      · exact IsiPair.list_str e2 rfl (Pst.tk R ⟨rfl, _, .bool _, q⟩)
      · exact IsiPair.list_int e2 rfl (Pst.tk R ⟨rfl, _, .bool _, q⟩)

-- methods of built-in values
theorem mr_str {name : Str} {id : String} {x : Str} (slot : Slot "str" name id) (ty : typeOf (.builtin id) = pure (.type "method_descriptor")) : MR c σ name (.str x) (.bi id) [.str x] := fun f s N v A E pl Q ok R hv q => by
  cases hv
  exact GM.of _ (typeIs_str _ _ _) slot ty GM.noRef (q _ _ (.bi _) (.cons (.str _ _) .nil))
theorem mr_list {name : Str} {id : String} {l : Addr} {as : List AV} (hl : σ.H l = some (.list as)) (slot : Slot "list" name id) (ty : typeOf (.builtin id) = pure (.type "method_descriptor")) : MR c σ name (.ref l) (.bi id) [.ref l] := fun f s N v A E pl Q ok R hv q => by
  cases hv
  refine xl_EEAAA (listAt R hl) fun ws n e1 e2 r I => ?_
  exact getMethod_builtin I.typeIs PySem.F.plainAttrs_list slot ty (fun a e => by cases e; exact ⟨_, e2, rfl⟩) (q _ _ (.bi _) (.cons (.ref _) .nil))
theorem mr_dict_get {d : Addr} {kvs : List (Str × AV)} (hd : σ.H d = some (.dict c.w kvs)) : MR c σ "get" (.ref d) (.bi "dict.get") [.ref d] := fun f s N v A E pl Q ok R hv q => by
  cases hv
  refine xl_EA (dict_map R hd) fun m M hm => ?_
  exact getMethod_builtin M.typeIs F.plainAttrs_dict F.slot_dict_get F.type_dict_get M.noDict (q _ _ (.bi _) (.cons (.ref _) .nil))

theorem acw_lower {x : Str} (hz : x.length ≤ 5592405) (q : Q (.str (Txt.lower x)) H) : ACw c b (.bi "str.lower") [.str x] H Q X := acw_of fun sc f s N m hf R t =>
  SCL.lower hz fun _ => Pst.tk R ⟨rfl, _, .str _ _, q⟩
theorem acw_count {x y : Str} (q : Q (.int (Txt.count x y)) H) : ACw c b (.bi "str.count") [.str x, .str y] H Q X := acw_of fun sc f s N m hf R t u =>
  SC.count (Pst.tk R ⟨rfl, _, .int _ _, q⟩)
theorem acw_index {x y : Str} {i : Nat} {rest : List Nat} (ho : Builtin.Str.occurrences x y 0 x.length 1 = i :: rest) (q : Q (.int i) H) : ACw c b (.bi "str.index") [.str x, .str y] H Q X := acw_of fun sc f s N m hf R t u =>
  SC.index ho (Pst.tk R ⟨rfl, _, .int _ _, q⟩)
theorem vsis_strs {h : View} : ∀ (l : List (Str × Tok)), VsIs h (l.map fun p => .str p.1) (strValues l)
  | [] => .nil
  | (x, t) :: r => .cons (.str x t) (vsis_strs r)
theorem strs_of {h : View} {xs : List Str} {vs : List Value} (H : VsIs h (xs.map .str) vs) : ∃ l : List (Str × Tok), vs = strValues l ∧ l.map (·.1) = xs := by
  induction xs generalizing vs with
  | nil => cases H; exact ⟨[], rfl, rfl⟩
  | cons x xs ih =>
    cases H with
    | cons p r => cases p with
      | str _ t =>
        refine xl_EA (ih r) fun l h1 h2 => ?_
        exact ⟨(x, t) :: l, by rw [h1]; rfl, by rw [List.map_cons, h2]⟩
theorem acw_join {x : Str} {l : Addr} {xs : List Str} (hl : H l = some (.list (xs.map .str))) (hok : JoinOk x xs = true) (q : Q (.str (Txt.join x xs)) H) : ACw c b (.bi "str.join") [.str x, .ref l] H Q X := acw_of fun sc f s N m hf R t => by
      refine xl_EEAAA (listAt R hl) fun ws n e1 e2 r I => ?_
      refine xl_EA (strs_of r) fun l' zr1 hx => ?_; subst zr1
      exact wpAny_tk (SC.join I hx hok fun t' k ht => Pst.tk R ⟨rfl, _, .str _ _, q⟩)

/-- a made list gets new items -/
theorem Rp.updList (R : Rp c f s σ N) {l : Addr} {as bs : List AV} {ws : List Value} {n : Nat} {h' : Heap} {t : Nat} (hl : σ.H l = some (.list as)) (hs : Heap.SameBut l s.heap h') (hd : h'.get? l = some (listOf ws.toArray n)) (hv : VsIs (N.see s.heap) bs ws)
    (ht : s.toks ≤ t := by first | exact Nat.le_refl _ | exact Nat.le_succ _ | assumption | omega) :
    ∃ N', Rp c f { s with heap := h', toks := t } ⟨σ.m, σ.H.set l (.list bs)⟩ N' ∧ Step f.env.locals s N { s with heap := h', toks := t } N' := by
  refine xl_EEAAA (listAt R hl) fun ws0 n0 e1 e2 r I => ?_
  have D := R.led _ _ e1
  refine ⟨_, R.upd (t := t) (ht := ht) e1 (.inl ⟨_, n, rfl⟩) (fun b ob h1 h2 e => (hs.2 b h1).trans e) hd (fun mc hm => ?_) (σ.H.set l (.list bs)) (fun C dx e => by cases e) (fun vs n e => list_ne_tup e) (fun es n e => (dict_ne_list e.symm).elim) fun tk b ao e => ?_⟩
  · refine xl_EEEA hm fun o es ep g1 g2 => ?_; try clear hm
    exact ⟨o, es, ep, (hs.2 _ (Ne.symm D.2.2.1)).trans g1, g2⟩
  · by_cases z : b = l
    · subst z
      rw [AHeap.set_self] at e; cases e
      exact ⟨ws, n, Ledger.set_self .., hv.mono tk⟩
    · rw [AHeap.set_ne _ _ z] at e
      have y := R.rel b ao e
      refine y.set_of tk z (fun C dx g w => ?_) fun C _ q => by cases q
      subst w
      refine xl_EE (R.dicts _ _ _ g) fun es n' i1 => ?_
      rw [e1] at i1; exact dict_ne_list (Option.some.inj i1).symm
theorem acw_append {l : Addr} {as : List AV} {a : AV} (hl : H l = some (.list as)) (hz : as.length ≤ 1000000) (q : Q .none (H.set l (.list (as ++ [a])))) : ACw c b (.bi "list.append") [.ref l, a] H Q X := acw_of fun sc f s N m hf R => by
      refine VIs.den_of (h := N.see s.heap) (a := a) (P := fun v => wpAny (model c.prog c.w) f.A (call (.builtin "list.append") [.ref l, v]) (Pst c f s N fun r V σ' => σ'.m = m ∧ ∃ a, VIs V a r ∧ Q a σ'.H) (PX c f s N fun l σ' => σ'.m = m ∧ X l σ'.H) s) fun v h2 => ?_
      refine xl_EEAAA (listAt R hl) fun ws n e1 e2 r I => ?_
      refine append_at e2 (fun h' hs hd => ?_) (by rw [List.size_toArray, r.length, sizeLine_eq]; exact lin [_] (.v 0) (.n 16777216) [((.v 0), (.n 1000000))] hz rfl)
      refine xl_EA (R.updList (t := s.toks) (bs := as ++ [a]) (n := n + 1) (ws := ws ++ [_]) hl hs (by rw [hd]; simp) (r.append (.cons h2 .nil))) fun N' R' st => ?_
      exact ⟨_, N', st, R', rfl, _, .none, q⟩
theorem acw_extend {l l' : Addr} {as bs : List AV} (hl : H l = some (.list as)) (hl' : H l' = some (.list bs)) (hz : as.length ≤ 1000000) (hz' : bs.length ≤ 1000000) (q : Q .none (H.set l (.list (as ++ bs)))) : ACw c b (.bi "list.extend") [.ref l, .ref l'] H Q X := acw_of fun sc f s N m hf R => by
      refine xl_EEAAA (listAt R hl) fun ws n e1 e2 r I => ?_
      refine xl_EEAAA (listAt R hl') fun ws' n' e1' e2' r' I' => ?_
      have hsz' : ws.toArray.size + ws'.toArray.size ≤ sizeLine := by rw [List.size_toArray, List.size_toArray, r.length, r'.length, sizeLine_eq]; exact lin [_, _] (.a (.v 0) (.v 1)) (.n 16777216) [((.v 0), (.n 1000000)), ((.v 1), (.n 1000000))] hz hz' rfl
      refine call_meets PySem.F.slot_list_extend ⟨_, e2, rfl⟩ PySem.F.entry_list_extend (PySem.F.args_list_extend_2 _ _) (AutoSeq1.list_extend_list_list_0 l ws.toArray n l' ws'.toArray n' (extend_door hsz') (Nat.le_trans (Nat.le_add_right _ _) hsz')) ⟨e2, e2', ?_⟩
      have ho' : (s.heap.update l (Obj.mapSeq fun x => x ++ ws'.toArray)).get? l = some (listOf (ws ++ ws').toArray (if (ws.toArray ++ ws'.toArray).size == ws.toArray.size then n else n + 1)) := by
        rw [Heap.get?_update_self _ e2 (by rw [mapSeq_app]; rfl), mapSeq_app]
        simp
      refine xl_EA (R.updList (t := s.toks) (bs := as ++ bs) hl (Heap.SameBut.update ..) ho' (r.append r')) fun N' R' st => ?_
      exact ⟨_, N', st, R', rfl, _, .none, q⟩
theorem acw_dict_get {d : Addr} {kvs : List (Str × AV)} {x : Str} {dflt : AV} (hd : H d = some (.dict c.w kvs)) (hm : (d == sysModules) = false) (q : Q ((kvs.lookup x).getD dflt) H) : ACw c b (.bi "dict.get") [.ref d, .str x, dflt] H Q X := acw_of fun sc f s N m hf R t => by
        refine VIs.den_of (h := N.see s.heap) (a := dflt) (P := fun v => wpAny (model c.prog c.w) f.A (call (.builtin "dict.get") [.ref d, .str x t, v]) (Pst c f s N fun r V σ' => σ'.m = m ∧ ∃ a, VIs V a r ∧ Q a σ'.H) (PX c f s N fun l σ' => σ'.m = m ∧ X l σ'.H) s) fun v h3 => ?_
        refine xl_EA (dict_map R hd) fun m M hm' => ?_
        refine call_meetsIn PySem.F.slot_dict_get M.typeIs PySem.F.entry_dict_get (PySem.F.args_dict_get_3 _ _ _) (meets_dict_get_default (strKind c.prog c.w) d (strKind_is c.prog c.w x t) hm _) ⟨m, M, ?_⟩
        refine Pst.tk R ⟨rfl, _, ?_, q⟩
        cases e : kvs.lookup x with
        | none => rw [(hm' x).2 e]; exact h3
        | some a => refine xl_EA ((hm' x).1 a e) fun v' e1 e2 => ?_; rw [e1]; exact e2
theorem acw_split {x : Str} (hz : x.length ≤ 100000) (hz2 : (Builtin.Str.spaceWords x (x.length + 1)).length ≤ 100000) (q : ∀ l, H l = none → Q (.ref l) (H.set l (.list ((Txt.words x).map .str)))) : ACw c b (.bi "str.split") [.str x] H Q X := acw_of fun sc f s N m hf R t => by
    have h0 : s.heap.get? s.heap.objs.size = none := Heap.get?_none_of_le (Nat.le_refl _)
    have fin : ∀ (l : List (Str × Tok)) k, s.toks ≤ k → l.map (·.1) = Txt.words x → Pst c f s N (fun r V σ' => σ'.m = m ∧ ∃ a, VIs V a r ∧ Q a σ'.H) (.ref s.heap.objs.size) { s with heap := s.heap.push (listOf (strValues l).toArray 0), toks := k } := fun l k hk e => by
      have hv : VsIs (N.see s.heap) ((Txt.words x).map .str) (strValues l) := by rw [← e, List.map_map]; exact vsis_strs l
      obtain ⟨h1, h2⟩ := R.new (t := k) (a := s.heap.objs.size) (o' := listOf (strValues l).toArray 0) (fun b ob e => Heap.get?_push_of_some _ e) (Heap.get?_push_size _ rfl) h0 (.inl ⟨_, _, rfl⟩) (fun C dx e => by cases e) (H.set s.heap.objs.size (.list ((Txt.words x).map .str)))
        (fun _ b ao e z => by rw [AHeap.set_ne _ _ z] at e; exact e) (fun ao e tk => by rw [AHeap.set_self] at e; cases e; exact ⟨_, 0, Ledger.set_self .., hv.mono tk⟩)
      exact ⟨_, _, h2, h1, rfl, _, .ref _, q _ (R.H_of_none h0)⟩
    have e : sizeLine = 16777216 := sizeLine_eq
    refine call_meets F.slot_str_split (typeIs_str _ _ _) F.entry_str_split (F.args_str_split_1 _) (meets_str_split_space x t (by exact lin [_] (.v 0) (.n 16777216) [((.v 0), (.n 100000))] hz rfl) (by exact lin [_] (.v 0) (.n 16777216) [((.v 0), (.n 100000))] hz2 rfl)) ?_
    cases hw : Builtin.Str.spaceWords x (x.length + 1) == [(0, x.length)]
    · simp only [Bool.false_eq_true, if_false]
      rw [strsFrom_eq]
      exact fin (numbered s.toks (PySem.wordsOf x)) _ (Nat.le_add_right _ _) ((numbered_texts _ _).trans (if_neg (ne_true_of_eq_false hw)).symm)
    · simp only [if_true]
      exact fin [(x, t)] s.toks (Nat.le_refl _) (if_pos hw).symm
end

section
variable {c : Cx} {sc : Scope} {b : Nat} {σ : St} {X : Int → St → Prop} {f : Frm} {s : Shared} {N : Ledger}
/-- x.replace(y, "") -/
theorem ae_replace {e : Expr} {y : Str} {k1 k2 : Nat} {ap p p1 p2 : Pos} {pl : Env → Sem Bool} {Q : AV → St → Prop} (hy : (y == "") = false) (h : AE c sc b e σ (fun a σ₁ => ∃ x, a = .str x ∧ x.length ≤ 1000000 ∧ Q (.str (Txt.replace x y "")) σ₁) X)
    (he : ∀ env, eval (.Call (.Attribute e "replace" ap) [.Constant (.str y) k1 p1, .Constant (.str "") k2 p2] [] p) env = (do
      let ov ← eval e env
      standAt ap.atName
      let (f, first) ← holding [ov] (getMethod ov "replace" (pl env))
      callWith p f first (backTo p (starEach [.Constant (.str y) k1 p1, .Constant (.str "") k2 p2] env)) []) := by intro _; rfl) :
    AE c sc b (.Call (.Attribute e "replace" ap) [.Constant (.str y) k1 p1, .Constant (.str "") k2 p2] [] p) σ Q X := fun f s N hf R =>
  MethodCall_ (h.then_ hf R fun v ov s₁ σ₁ N₁ st R₁ hv hh => by
    refine xl_EAA hh fun x e1 hz h' => ?_; try clear hh
    subst e1
    cases hv
    refine mr_str (c := c) (σ := σ₁) (x := x) F.slot_str_replace F.type_str_replace f s₁ N₁ _ _ _ _ _ hf.ok R₁ (.str _ _) fun w ws hw hws => ?_
    refine callWith_of (P := fun h => c.K.In h) rfl (fun h X => keep_looks (fv := .bi "str.replace") rfl hw X) (evalArgs_plain ?_)
    refine args_cons (wpAny_Constant_str (args_cons (wpAny_Constant_str (args_nil ?_)) rfl)) rfl
    refine ⟨R₁.kin hf.ok, ?_⟩
    cases hw
    cases hws with
    | cons h1 h2 =>
      cases h1; cases h2
      have t0 := R₁.tok
      refine wpAny_tk (SC.replace (u := s₁.toks) (v := s₁.toks + 1) (z := "") (Nat.ne_of_gt t0) (Nat.succ_ne_zero _) (Nat.ne_of_lt (Nat.lt_succ_self _)) hy (show x.length ≤ 16777216 from Nat.le_trans hz (by decide)) fun t' k ht => ?_)
      refine (Pst.tk R₁ (ht := Nat.le_trans (by dsimp only; exact lin [_] (.v 0) (.a (.a (.v 0) (.n 1)) (.n 1)) []  rfl) ht) ⟨_, .str _ t', h'⟩).trans st) (he _)
end
end Mine
end

section
open PySem PySem.W PySem.Calls PyProof.Rows PySem.SeqAt
namespace Mine

noncomputable def eqS : AV → AV → Option Bool
  | .int i, .int j => some (i == j)
  | .str x, .str y => some (x == y)
  | .bool x, .bool y => some (x == y)
  | _, _ => none
noncomputable def eqZ (f : AV → AV → Option Bool) (as : List AV) : List AV → Option (List Bool) :=
  List.rec (fun _ => some []) (fun a _ g bs => List.casesOn bs (some []) fun b bs => (f a b).bind fun z => (g bs).map (z :: ·)) as
theorem eqZ_cc {f : AV → AV → Option Bool} {a b : AV} {as bs : List AV} : eqZ f (a :: as) (b :: bs) = (f a b).bind fun z => (eqZ f as bs).map (z :: ·) := rfl
noncomputable def eqT (as bs : List AV) : Option Bool := (eqZ eqS as bs).map fun l => l.all id && as.length == bs.length
theorem eqT_of {as bs : List AV} {l : List Bool} (h : eqZ eqS as bs = some l) (hl : l.all id = true) (hn : as.length = bs.length) : eqT as bs = some true := by
  rw [eqT, h, Option.map_some, hl, hn, beq_self_eq_true]; rfl
theorem eqZ_c {f : AV → AV → Option Bool} {a b : AV} {as bs : List AV} {l : List Bool} (h : f a b = some true) (k : eqZ f as bs = some l) : eqZ f (a :: as) (b :: bs) = some (true :: l) := by rw [eqZ_cc, h, k]; rfl
theorem eqS_int {i : Int} : eqS (.int i) (.int i) = some true := congrArg some (beq_self_eq_true i)
theorem eqS_str {x : Str} : eqS (.str x) (.str x) = some true := congrArg some (beq_self_eq_true x)
noncomputable def eqA : AV → AV → Option Bool
  | .tup as, .tup bs => eqT as bs
  | a, b => eqS a b

section
variable {A : Around} {s : Shared} {V : View}
theorem eqS_at {a b : AV} {z : Bool} {v w : Value} (e : eqS a b = some z) (h1 : VIs V a v) (h2 : VIs V b w) : EqAt A s v w z := by
  cases a with
  | int i => cases b with
    | int j => exact h1.at fun t => h2.at fun u => Option.some.inj e ▸ EqAt.int_int _ _ _ _
    | _ => exact no_some e
  | str i => cases b with
    | str j => exact h1.at fun t => h2.at fun u => Option.some.inj e ▸ EqAt.str_str _ _ _ _
    | _ => exact no_some e
  | bool i => cases b with
    | bool j => exact h1.at (h2.at (Option.some.inj e ▸ EqAt.bool_bool _ _))
    | _ => exact no_some e
  | _ => exact no_some e
theorem eqZ_cons {f : AV → AV → Option Bool} {a b : AV} {as bs : List AV} {l : List Bool} (e : eqZ f (a :: as) (b :: bs) = some l) : ∃ z r, f a b = some z ∧ eqZ f as bs = some r ∧ l = z :: r := by
  rw [eqZ_cc] at e
  refine xl_EA (Option.bind_eq_some_iff.mp e) fun z hz e => ?_
  exact xl_EA (Option.map_eq_some_iff.mp e) fun r hr e => ⟨z, r, hz, hr, e.symm⟩
theorem eqZ_at {f : AV → AV → Option Bool} (hf : ∀ a b z v w, f a b = some z → VIs V a v → VIs V b w → EqAt A s v w z) : ∀ {as bs : List AV} {l : List Bool} {vs ws : List Value}, eqZ f as bs = some l → VsIs V as vs → VsIs V bs ws →
    l.length = min vs.length ws.length ∧ ∀ j (h1 : j < vs.length) (h2 : j < ws.length), EqAt A s vs[j] ws[j] ((l[j]?).getD true) := fun {as} => by
  induction as with
  | nil => intro bs l vs ws e h1 h2; cases h1; cases e; exact ⟨(Nat.zero_min _).symm, fun j h1 => absurd h1 (Nat.not_lt_zero _)⟩
  | cons a as ih =>
    intro bs l vs ws e h1 h2
    cases h2 with
    | nil => cases e; exact ⟨(Nat.min_zero _).symm, fun j _ h2 => absurd h2 (Nat.not_lt_zero _)⟩
    | cons p2 r2 =>
      cases h1 with
      | cons p1 r1 =>
        refine xl_EEAA (eqZ_cons e) fun z r hz hr hl => ?_
        obtain ⟨i1, i2⟩ := ih hr r1 r2
        subst hl
        refine ⟨by rw [List.length_cons, i1]; exact (Nat.succ_min_succ _ _).symm, fun j h1 h2 => ?_⟩
        induction j with
        | zero => exact hf _ _ _ _ _ hz p1 p2
        | succ j => exact i2 j (Nat.lt_of_succ_lt_succ h1) (Nat.lt_of_succ_lt_succ h2)
theorem all_of {l : List Bool} {n : Nat} (h : l.length = n) : ((List.range n).all fun j => (l[j]?).getD true) = l.all id := by subst h; exact LSm.range_all l
theorem eqT_rc {as bs : List AV} {z : Bool} {x y : Addr} {vs ws : List Value} {n m : Nat} (e : eqT as bs = some z) (h1 : s.heap.get? x = some (tupObj vs n)) (h2 : s.heap.get? y = some (tupObj ws m)) (r1 : VsIs V as vs) (r2 : VsIs V bs ws) (hu : A.units < cLine) : RcAt A s (.ref x) (.ref y) z := by
  unfold eqT at e
  refine xl_EA (Option.map_eq_some_iff.mp e) fun l hl zr1 => ?_; subst zr1
  obtain ⟨i1, i2⟩ := eqZ_at (A := A.in1) (fun _ _ _ _ _ => eqS_at) hl r1 r2
  have := RcAt.tuples (A := A) (e := fun j => (l[j]?).getD true) ⟨_, h1, rfl, n, rfl⟩ ⟨_, h2, rfl, m, rfl⟩ hu fun j g1 g2 => by simpa using i2 j (by simpa using g1) (by simpa using g2)
  rw [all_of (by rw [i1]; simp)] at this
  simpa [r1.length, r2.length] using this
theorem eqT_ne {as bs : List AV} {z : Bool} {x y : Addr} {vs ws : List Value} {n m : Nat} (e : eqT as bs = some z) (h1 : s.heap.get? x = some (tupObj vs n)) (h2 : s.heap.get? y = some (tupObj ws m)) (r1 : VsIs V as vs) (r2 : VsIs V bs ws) (hu : A.units < cLine) : RcNeAt A s (.ref x) (.ref y) (!z) := by
  unfold eqT at e
  refine xl_EA (Option.map_eq_some_iff.mp e) fun l hl zr2 => ?_; subst zr2
  obtain ⟨i1, i2⟩ := eqZ_at (A := A.in1) (fun _ _ _ _ _ => eqS_at) hl r1 r2
  have := RcNeAt.tuples (A := A) (e := fun j => (l[j]?).getD true) ⟨_, h1, rfl, n, rfl⟩ ⟨_, h2, rfl, m, rfl⟩ hu fun j g1 g2 => by simpa using i2 j (by simpa using g1) (by simpa using g2)
  rw [all_of (by rw [i1]; simp)] at this
  simpa [r1.length, r2.length] using this
theorem eqS_same {a b : AV} {z : Bool} {v : Value} (e : eqS a b = some z) (h1 : VIs V a v) (h2 : VIs V b v) : z = true := by
  cases a with
  | int i => cases b with
    | int j => exact h2.at (P := fun v => VIs V (.int i) v → z = true) (fun t h1 => by cases h1; exact (Option.some.inj e).symm.trans (beq_self_eq_true i)) h1
    | _ => exact no_some e
  | str i => cases b with
    | str j => exact h2.at (P := fun v => VIs V (.str i) v → z = true) (fun t h1 => by cases h1; exact (Option.some.inj e).symm.trans (beq_self_eq_true i)) h1
    | _ => exact no_some e
  | bool i => cases b with
    | bool j => exact h2.at (P := fun v => VIs V (.bool i) v → z = true) (fun h1 => by cases h1; exact (Option.some.inj e).symm.trans (beq_self_eq_true i)) h1
    | _ => exact no_some e
  | _ => exact no_some e
theorem eqZ_same : ∀ {as bs : List AV} {l : List Bool} {vs : List Value}, eqZ eqS as bs = some l → VsIs V as vs → VsIs V bs vs → l.all id = true ∧ as.length = bs.length := fun {as} => by
  induction as with
  | nil => intro bs l vs e h1 h2; cases h1; cases h2; cases e; exact ⟨rfl, rfl⟩
  | cons a as ih =>
    intro bs l vs e h1 h2
    cases h1 with
    | cons p1 r1 => cases h2 with
      | cons p2 r2 =>
        refine xl_EEAA (eqZ_cons e) fun z r hz hr hl => ?_
        obtain ⟨i1, i2⟩ := ih hr r1 r2
        subst hl
        exact ⟨by rw [eqS_same hz p1 p2]; exact i1, congrArg Nat.succ i2⟩
theorem eqA_at {a b : AV} {z : Bool} {v w : Value} (hV : ∀ a o, V a = some o → s.heap.get? a = some o) (hu : A.units < cLine) (e : eqA a b = some z) (h1 : VIs V a v) (h2 : VIs V b w) : EqAt A s v w z := by
  cases h1 with
  | @tup as vs x n e1 r1 =>
    cases h2 with
    | @tup bs ws y m e2 r2 =>
      by_cases hxy : x = y
      · subst hxy
        rw [e1] at e2
        have hvw : vs = ws := by
          have := congrArg Obj.data (Option.some.inj e2)
          injection this with this _
          exact congrArg Array.toList this
        subst hvw
        refine xl_EA (Option.map_eq_some_iff.mp (show (eqZ eqS as bs).map _ = some z from e)) fun l hl hz => ?_
        subst hz
        obtain ⟨i1, i2⟩ := eqZ_same hl r1 r2
        rw [i1, i2, beq_self_eq_true]; exact EqAt.same (A := A) (s := s) (.ref x)
      · exact EqAt.of_refs hxy (eqT_rc e (hV _ _ e1) (hV _ _ e2) r1 r2 hu)
    | _ => exact no_some e
  | int i t => exact eqS_at e (.int i t) h2
  | str i t => exact eqS_at e (.str i t) h2
  | bool i => exact eqS_at e (.bool i) h2
  | _ => exact no_some e
noncomputable def strIs (x : Str) : Value → Bool | .str y _ => y == x | _ => false
theorem items_at {x : Str} {t : Tok} (xs : List Str) : ∀ {vs : List Value}, VsIs V (xs.map .str) vs → (∀ y ∈ vs, EqAt A s y (.str x t) (strIs x y)) ∧ vs.any (strIs x) = xs.contains x := by
  induction xs with
  | nil => intro vs h; exact h.nil_at ⟨fun _ h => (nomatch h), rfl⟩
  | cons y xs ih =>
    intro vs h
    refine VsIs.cons_at h fun v r p q => ?_
    refine p.at fun u => ?_
    exact ⟨fun v hv => (List.mem_cons.mp hv).elim (fun e => e ▸ EqAt.str_str _ _ _ _) fun hv => (ih q).1 v hv, by rw [List.any_cons, (ih q).2, List.contains_cons]; exact congrArg (or · _) Bool.beq_comm⟩
end

/-- a comparison, for more kinds -/
noncomputable def CmpTT (op : CmpOp) (as bs : List AV) (z : Bool) : Prop := match op with
  | .Eq => eqT as bs = some z
  | .NotEq => eqT as bs = some (!z)
  | _ => False
noncomputable def CmpRR (H : AHeap) (op : CmpOp) (l l' : Addr) (z : Bool) : Prop := match op with
  | .Eq => ∃ as bs r, H l = some (.list as) ∧ H l' = some (.list bs) ∧ as.length = bs.length ∧ eqZ eqA as bs = some r ∧ z = r.all id
  | .NotEq => ∃ as, H l = some (.list as) ∧ H l' = some (.list []) ∧ z = !as.isEmpty
  | _ => False
noncomputable def CmpBB (op : CmpOp) (x y : Bool) (z : Bool) : Prop := match op with
  | .NotEq => z = (x != y)
  | _ => False
noncomputable def CmpST (op : CmpOp) (x : Str) (as : List AV) (z : Bool) : Prop := match op with
  | .In => ∃ xs : List Str, as = xs.map .str ∧ z = xs.contains x
  | .NotIn => ∃ xs : List Str, as = xs.map .str ∧ z = !xs.contains x
  | _ => False
noncomputable def CmpSR (H : AHeap) (op : CmpOp) (x : Str) (l : Addr) (z : Bool) : Prop := match op with
  | .In => ∃ xs : List Str, H l = some (.list (xs.map .str)) ∧ z = xs.contains x
  | _ => False
noncomputable def CmpR (H : AHeap) (op : CmpOp) (a b : AV) (z : Bool) : Prop := match a with
  | .tup as => (match b with | .tup bs => CmpTT op as bs z | _ => False)
  | .bool x => (match b with | .bool y => CmpBB op x y z | _ => False)
  | .ref l => (match b with | .ref l' => CmpRR H op l l' z | _ => False)
  | .str x => (match b with | .tup as => CmpST op x as z | .ref l => CmpSR H op x l z | b => cmpV op (.str x) b = some z)
  | .int i => cmpV op (.int i) b = some z
  | _ => False

section
variable {c : Cx} {sc : Scope} {b : Nat} {σ : St} {X : Int → St → Prop} {f : Frm} {s : Shared} {N : Ledger}
theorem cmpR2 {op : CmpOp} {a₁ a₂ : AV} {v₁ v₂ : Value} {z : Bool} {Q : Value → Shared → Prop} {E : Value → Shared → Prop} (hf : FOk c sc b f) (R : Rp c f s σ N) (e : CmpR σ.H op a₁ a₂ z) (h1 : VIs (N.see s.heap) a₁ v₁) (h2 : VIs (N.see s.heap) a₂ v₂)
    (q : ∀ t, s.toks ≤ t → Q (.bool z) { s with toks := t }) : wpAny (model c.prog c.w) f.A (compareOp op v₁ v₂) Q E s := by
  have q0 : Q (.bool z) s := q s.toks (Nat.le_refl _)
  have un := hf.units
  have hu : f.A.units < cLine := by exact lin [_, _] (.a (.v 0) (.n 1)) (.n 9900) [((.a (.a (.a (.v 0) (.m 16 (.v 1))) (.n 32)) (.n 1)), (.n 9900))] un rfl
  have hu1 : f.A.in1.units < cLine := by show f.A.units + 1 < _; exact lin [_, _] (.a (.a (.v 0) (.n 1)) (.n 1)) (.n 9900) [((.a (.a (.a (.v 0) (.m 16 (.v 1))) (.n 32)) (.n 1)), (.n 9900))] un rfl
  have qe : ∀ {z' : Bool}, z = z' → Q (.bool z') s := fun h => h ▸ q0
  cases a₁ with
  | tup as => cases a₂ with
    | tup bs =>
      refine h1.at fun vs x n e1 r1 => ?_
      refine h2.at fun ws y m e2 r2 => ?_
      induction op with
      | Eq => exact eqT_rc e (Ledger.see_of e1).2 (Ledger.see_of e2).2 r1 r2 hu _ _ _ _ q0
      | NotEq => exact eqT_ne e (Ledger.see_of e1).2 (Ledger.see_of e2).2 r1 r2 hu _ _ _ _ (by rw [Bool.not_not]; exact q0)
      | _ => exact False.elim e
    | _ => exact False.elim e
  | bool x => cases a₂ with
    | bool y =>
      refine h1.at ?_
      refine h2.at ?_
      induction op with
      | NotEq => exact RcNeAt.bool_bool _ _ _ _ _ _ (qe e)
      | _ => exact False.elim e
    | _ => exact False.elim e
  | ref l => cases a₂ with
    | ref l' =>
      refine h1.at ?_
      refine h2.at ?_
      induction op with
      | Eq =>
        refine xl_EEEAAAA e fun as bs r hl hl' hz hr ez => ?_; try clear e
        refine xl_EEAAA (listAt R hl) fun ws n e1 e2 r1 I => ?_
        refine xl_EEAAA (listAt R hl') fun ws' n' e1' e2' r1' I' => ?_
        obtain ⟨i1, i2⟩ := eqZ_at (A := f.A.in1) (fun _ _ _ _ _ => eqA_at (fun _ _ e => (Ledger.see_of e).2) hu1) hr r1 r1'
        have hsz : ws.length = ws'.length := by rw [r1.length, r1'.length, hz]
        refine RcAt.lists (e := fun j => (r[j]?).getD true) I I' hsz hu (fun j g1 g2 => i2 j g1 g2) _ _ _ _ ?_
        rw [all_of (by rw [i1, hsz, Nat.min_self, List.size_toArray, hsz])]; exact qe ez
      | NotEq =>
        refine xl_EAA e fun as hl hl' ez => ?_; try clear e
        refine xl_EEAAA (listAt R hl) fun ws n e1 e2 r1 I => ?_
        refine xl_EEAAA (listAt R hl') fun ws' n' e1' e2' r1' I' => ?_
        cases r1'
        cases r1 with
        | nil => exact RcNeAt.lists (e := fun _ => true) I I' rfl hu (fun j g1 => absurd g1 (Nat.not_lt_zero _)) _ _ _ _ (qe ez)
        | cons p r => exact RcNeAt.lists_lengths I I' rfl hu _ _ _ _ (qe ez)
      | _ => exact False.elim e
    | _ => exact False.elim e
  | str x => cases a₂ with
    | tup as =>
      refine h1.at fun t => ?_
      refine h2.at fun vs y n e1 r1 => ?_
      induction op with
      | In =>
        refine xl_EA e fun xs ea ez => ?_; try clear e
        subst ea
        obtain ⟨i1, i2⟩ := items_at (A := f.A.in1) (x := _) (t := _) _ r1
        exact in_tupleAt _ ⟨_, (Ledger.see_of e1).2, rfl, _, rfl⟩ (fun y hy => i1 y (List.mem_toArray.mp hy)) (by rw [List.any_toArray, i2]; exact qe ez)
      | NotIn =>
        refine xl_EA e fun xs ea ez => ?_; try clear e
        subst ea
        obtain ⟨i1, i2⟩ := items_at (A := f.A.in1) (x := _) (t := _) _ r1
        exact notIn_tupleAt _ ⟨_, (Ledger.see_of e1).2, rfl, _, rfl⟩ (fun y hy => i1 y (List.mem_toArray.mp hy)) (by rw [List.any_toArray, i2]; exact qe ez)
      | _ => exact False.elim e
    | ref l =>
      refine h1.at fun t => ?_
      refine h2.at ?_
      induction op with
      | In =>
        refine xl_EA e fun xs hl ez => ?_; try clear e
        refine xl_EEAAA (listAt R hl) fun ws n e1 e2 r1 I => ?_
        obtain ⟨i1, i2⟩ := items_at (A := f.A.in1) (x := _) (t := _) _ r1
        exact in_listAt _ I (fun y hy => i1 y (List.mem_toArray.mp hy)) (by rw [List.any_toArray, i2]; exact qe ez)
      | _ => exact False.elim e
    | str y =>
      refine h1.at fun t => ?_
      refine h2.at fun u => ?_
      exact cmpR (N := N) (a₁ := .str x) (a₂ := .str y) e (.str x t) (.str y u) q
    | _ => exact no_some e
  | int i => refine h1.at fun t => ?_; exact cmpR (N := N) (a₁ := .int i) e (.int i t) h2 q
  | _ => exact False.elim e
theorem ae_cmp2 {op : CmpOp} {l r : Expr} {p : Pos} {Q : AV → St → Prop} (h : AE c sc b l σ (fun a σ₁ => AE c sc b r σ₁ (fun a' σ₂ => ∃ z, CmpR σ₂.H op a a' z ∧ Q (.bool z) σ₂) X) X) (hm : behindInMarks op r = false := by with_unfolding_all rfl) :
    AE c sc b (.Compare l [op] [r] p) σ Q X := fun f s N hf R =>
  wpAny_Compare1 (h.then_ hf R fun v a s₁ σ₁ N₁ st R₁ hv h' => h'.next st hf R₁ fun v' a' s₂ σ₂ N₂ st₂ st₁₂ R₂ hv' h'' => by
    refine xl_EA h'' fun z e q => ?_; try clear h''
    exact on st₂ (cmpR2 hf R₂ e (hv.mono st₁₂.tup) hv' fun t ht => Pst.tk R₂ ⟨_, .bool z, q⟩)) hm
theorem ab_cmp2 {op : CmpOp} {l r : Expr} {p : Pos} {Q : Bool → St → Prop} (h : AE c sc b l σ (fun a σ₁ => AE c sc b r σ₁ (fun a' σ₂ => ∃ z, CmpR σ₂.H op a a' z ∧ Q z σ₂) X) X) (hm : behindInMarks op r = false := by with_unfolding_all rfl) :
    AB c sc b (.Compare l [op] [r] p) σ Q X := fun f s N hf R =>
  wpAny_isTrue_Compare1 (h.then_ hf R fun v a s₁ σ₁ N₁ st R₁ hv h' => h'.next st hf R₁ fun v' a' s₂ σ₂ N₂ st₂ st₁₂ R₂ hv' h'' => by
    refine xl_EA h'' fun z e q => ?_; try clear h''
    exact cmpR2 hf R₂ e (hv.mono st₁₂.tup) hv' fun t ht => wpAny_truthy_bool ((Pst.tk R₂ q).trans st₂)) hm
/-- a chain of two comparisons -/
theorem ab_chain {o1 o2 : CmpOp} {l m r : Expr} {p : Pos} {Q : Bool → St → Prop} (h : AE c sc b l σ (fun a σ₁ => AE c sc b m σ₁ (fun a' σ₂ => ∃ z, CmpR σ₂.H o1 a a' z ∧ if z then AE c sc b r σ₂ (fun a'' σ₃ => ∃ z, CmpR σ₃.H o2 a' a'' z ∧ Q z σ₃) X else Q false σ₂) X) X)
    (hm : lastMarks [o1, o2] [m, r] = false := by with_unfolding_all rfl) : AB c sc b (.Compare l [o1, o2] [m, r] p) σ Q X := fun f s N hf R =>
  isTrue_chain (h.then_ hf R fun v a s₁ σ₁ N₁ st R₁ hv h' => test_link (h'.next st hf R₁ fun v' a' s₂ σ₂ N₂ st₂ st₁₂ R₂ hv' h'' => by
    refine xl_EA h'' fun z e q => ?_; try clear h''
    refine cmpR2 hf R₂ e (hv.mono st₁₂.tup) hv' fun t ht => wpAny_truthy_bool ?_
    have st₃ : Step f.env.locals s₂ N₂ { s₂ with toks := t } N₂ := .of_keeps (h' := s₂.heap) fun _ _ e => e
    induction z with
    | false => exact (Pst.tk R₂ q).trans st₂
    | true => exact test_last (AE.next q (st₂.trans st₃) hf (R₂.toks (t := t)) fun v'' a'' s₄ σ₄ N₄ st₄ st₃₄ R₄ hv'' h₄ => by
        refine xl_EA h₄ fun z e q => ?_; try clear h₄
        exact cmpR2 hf R₄ e ((hv'.mono st₃.tup).mono st₃₄.tup) hv'' fun t ht => wpAny_truthy_bool ((Pst.tk R₄ q).trans st₄)))) hm
theorem ae_chain {o1 o2 : CmpOp} {l m r : Expr} {p : Pos} {Q : AV → St → Prop} (h : AE c sc b l σ (fun a σ₁ => AE c sc b m σ₁ (fun a' σ₂ => ∃ z, CmpR σ₂.H o1 a a' z ∧ if z then AE c sc b r σ₂ (fun a'' σ₃ => ∃ z, CmpR σ₃.H o2 a' a'' z ∧ Q (.bool z) σ₃) X else Q (.bool false) σ₂) X) X)
    (hm : lastMarks [o1, o2] [m, r] = false := by with_unfolding_all rfl) : AE c sc b (.Compare l [o1, o2] [m, r] p) σ Q X := fun f s N hf R =>
  Compare_chain (h.then_ hf R fun v a s₁ σ₁ N₁ st R₁ hv h' => chain_link (h'.next st hf R₁ fun v' a' s₂ σ₂ N₂ st₂ st₁₂ R₂ hv' h'' => by
    refine xl_EA h'' fun z e q => ?_; try clear h''
    refine cmpR2 hf R₂ e (hv.mono st₁₂.tup) hv' fun t ht => wpAny_truthy_bool ?_
    have st₃ : Step f.env.locals s₂ N₂ { s₂ with toks := t } N₂ := .of_keeps (h' := s₂.heap) fun _ _ e => e
    induction z with
    | false => exact (Pst.tk R₂ ⟨_, .bool _, q⟩).trans st₂
    | true => exact chain_last (AE.next q (st₂.trans st₃) hf (R₂.toks (t := t)) fun v'' a'' s₄ σ₄ N₄ st₄ st₃₄ R₄ hv'' h₄ => by
        refine xl_EA h₄ fun z e q => ?_; try clear h₄
        exact cmpR2 hf R₄ e ((hv'.mono st₃.tup).mono st₃₄.tup) hv'' fun t ht => (Pst.tk R₄ ⟨_, .bool _, q⟩).trans st₄))) hm

noncomputable def rep (x : Str) (n : Int) : Str := ⟨(List.replicate n.toNat x.cps).foldl (· ++ ·) #[]⟩
/-- a binary operator, for more kinds -/
noncomputable def BinII2 (op : Operator) (i j : Int) (σ : St) (Q : AV → St → Prop) : Prop := match op with
  | .FloorDiv => j ≠ 0 ∧ j.natAbs < 1073741824 ∧ Q (.int (i.fdiv j)) σ
  | .Pow => 0 ≤ j ∧ j ≤ 1000000 ∧ i.natAbs < 2 ^ 64 ∧ Q (.int (i ^ j.toNat)) σ
  | op => BinI op i j σ Q
noncomputable def BinSI2 (op : Operator) (x : Str) (n : Int) (σ : St) (Q : AV → St → Prop) : Prop := match op with
  | .Mult => 2 ≤ n ∧ n ≤ 1000 ∧ 1 ≤ x.length ∧ x.length ≤ 1000 ∧ (rep x n).length ≤ 100000 ∧ Q (.str (rep x n)) σ
  | _ => False
noncomputable def BinRR2 (op : Operator) (l l' : Addr) (σ : St) (Q : AV → St → Prop) : Prop := match op with
  | .Add => ∃ as bs, σ.H l = some (.list as) ∧ σ.H l' = some (.list bs) ∧ as.length + bs.length ≤ 1000000 ∧ ∀ a, σ.H a = none → Q (.ref a) ⟨σ.m, σ.H.set a (.list (as ++ bs))⟩
  | _ => False
noncomputable def BinR2 (op : Operator) (a b : AV) (σ : St) (Q : AV → St → Prop) : Prop := match a with
  | .str x => (match b with | .int n => BinSI2 op x n σ Q | b => BinR op (.str x) b σ Q)
  | .int i => (match b with | .int j => BinII2 op i j σ Q | _ => False)
  | .ref l => (match b with | .ref l' => BinRR2 op l l' σ Q | _ => False)
  | _ => False
theorem binR2 {op : Operator} {a₁ a₂ : AV} {v₁ v₂ : Value} {Q : AV → St → Prop} {A : Around} {E : Value → Shared → Prop} (h : BinR2 op a₁ a₂ σ Q) (R : Rp c f s σ N) (h1 : VIs (N.see s.heap) a₁ v₁) (h2 : VIs (N.see s.heap) a₂ v₂) :
    wpAny (model c.prog c.w) A (binaryOp op v₁ v₂) (Pst c f s N (RV Q)) E s := by
  cases a₁ with
  | str x => cases a₂ with
    | int n =>
      refine h1.at fun t => ?_
      refine h2.at fun u => ?_
      induction op with
      | Mult =>
        refine xl_AAAAA h fun g1 g2 g3 g4 g5 q => ?_; try clear h
        have h1n : ¬ n < 1 := by exact Int.not_lt.mpr (linI [_] [] (.n 1) (.v 0) [((.n 2), (.v 0))] g1 rfl)
        have hn1 : (n == 1 || x.length == 0) = false := Bool.or_eq_false_iff.mpr ⟨beq_eq_false_iff_ne.mpr (Int.ne_of_gt (Int.lt_of_lt_of_le (by decide) g1)), beq_eq_false_iff_ne.mpr (Nat.ne_of_gt g3)⟩
        have hm : x.length * n.toNat ≤ 1000 * 1000 := Nat.mul_le_mul g4 (Int.toNat_le.mpr g2)
        refine P.mul_str (by simp; exact And.intro (linI [_] [] (.g (.n 9223372036854775808)) (.v 0) [((.n 2), (.v 0))] g1 rfl) (linI [_] [] (.a (.v 0) (.n 1)) (.n 9223372036854775808) [((.v 0), (.n 1000))] g2 rfl)) (fun _ _ => ?_) (fun _ _ => ?_) ?_
        · have : (1000 : Int) ≤ (2 ^ 63 - 1) / n := Int.le_ediv_of_mul_le (by exact linI [_] [] (.a (.n 0) (.n 1)) (.v 0) [((.n 2), (.v 0))] g1 rfl) (Int.le_trans (Int.mul_le_mul_of_nonneg_left g2 (by decide)) (by decide))
          exact Int.not_lt.mpr (Int.le_trans (Int.ofNat_le.mpr g4) this)
        · unfold Builtin.Str.tooLong sizeLine; simp; exact lin [_] (.v 0) (.n 16777216) [((.v 0), (.n 1000000))] hm rfl
        · rw [if_neg h1n, if_neg (by rw [hn1]; simp)]
          refine ⟨?_, Pst.tk R ⟨_, .str _ _, q⟩⟩
          have := g5; unfold rep at this; rw [sizeLine_eq]; exact lin [_] (.v 0) (.n 16777216) [((.v 0), (.n 100000))] this rfl
      | _ => exact False.elim h
    | str y =>
      refine h1.at fun t => ?_
      refine h2.at fun u => ?_
      exact binR (a₁ := .str x) (a₂ := .str y) h R (.str x t) (.str y u)
    | _ => exact False.elim h
  | int i => cases a₂ with
    | int j =>
      refine h1.at fun t => ?_
      refine h2.at fun u => ?_
      induction op with
      | FloorDiv =>
        refine xl_AA h fun g1 g2 q => ?_; try clear h
        exact PyProof.Rows.floordiv_int g1 (Pst.tk R ⟨_, .int _ _, q⟩) (Or.inl (PyProof.noPylong_small g2))
      | Pow =>
        refine xl_AAA h fun g1 g2 g3 q => ?_; try clear h
        exact PyProof.Rows.pow_int_small g1 g2 g3 (Pst.tk R ⟨_, .int _ _, q⟩)
      | _ => exact binR (a₁ := .int i) (a₂ := .int j) h R (.int i t) (.int j u)
    | _ => exact False.elim h
  | ref l => cases a₂ with
    | ref l' =>
      refine h1.at ?_
      refine h2.at ?_
      induction op with
      | Add =>
        refine xl_EEAAA h fun as bs hl hl' hz q => ?_; try clear h
        refine xl_EEAAA (listAt R hl) fun ws n e1 e2 r1 I => ?_
        refine xl_EEAAA (listAt R hl') fun ws' n' e1' e2' r1' I' => ?_
        have h0 : s.heap.get? s.heap.objs.size = none := Heap.get?_none_of_le (Nat.le_refl _)
        refine P.add_list e2 e2' ?_ (by rw [List.size_toArray, List.size_toArray, r1.length, r1'.length, sizeLine_eq]; exact lin [_, _] (.a (.v 0) (.v 1)) (.n 16777216) [((.a (.v 0) (.v 1)), (.n 1000000))] hz rfl)
        have e : ws.toArray ++ ws'.toArray = (ws ++ ws').toArray := by simp
        rw [e]
        obtain ⟨h1, h2⟩ := R.new (t := s.toks) (a := s.heap.objs.size) (o' := listOf (ws ++ ws').toArray 0) (fun b ob e => Heap.get?_push_of_some _ e) (Heap.get?_push_size _ rfl) h0 (.inl ⟨_, _, rfl⟩) (fun C dx e => by cases e) (σ.H.set s.heap.objs.size (.list (as ++ bs)))
          (fun _ b ao e z => by rw [AHeap.set_ne _ _ z] at e; exact e) (fun ao e tk => by rw [AHeap.set_self] at e; cases e; exact ⟨_, 0, Ledger.set_self .., (r1.append r1').mono tk⟩)
        exact ⟨_, _, h2, h1, _, .ref _, q _ (R.H_of_none h0)⟩
      | _ => exact False.elim h
    | _ => exact False.elim h
  | _ => exact False.elim h
theorem ae_bin2 {op : Operator} {l r : Expr} {p : Pos} {Q : AV → St → Prop} (h : AE c sc b l σ (fun a σ₁ => AE c sc b r σ₁ (fun a' σ₂ => BinR2 op a a' σ₂ Q) X) X) : AE c sc b (.BinOp l op r p) σ Q X := fun f s N hf R =>
  wpAny_BinOp (h.then_ hf R fun v a s₁ σ₁ N₁ st R₁ hv h' => h'.next st hf R₁ fun v' a' s₂ σ₂ N₂ st₂ st₁₂ R₂ hv' h'' => on st₂ (binR2 h'' R₂ (hv.mono st₁₂.tup) hv'))

/-- l[i] = .. -/
theorem at_sub {o i : Expr} {p : Pos} {a : AV} {Q : St → Prop} (h : AE c sc b o σ (fun w σ₁ => AE c sc b i σ₁ (fun k σ₂ => ∃ l as j, w = .ref l ∧ k = .int (Int.ofNat j) ∧ σ₂.H l = some (.list as) ∧ j < as.length ∧ as.length < 2 ^ 62 ∧ Q ⟨σ₂.m, σ₂.H.set l (.list (as.set j a))⟩) X) X) :
    AT c sc b (.Subscript o i p) a σ Q X := fun f s N v hf R hv => by
  rw [assign_Subscript]
  refine wpAny_bind (wpAny_holding (h.then_ hf R fun w w' s₁ σ₁ N₁ st R₁ hw h' => ?_))
  refine wpAny_bind (wpAny_holding (h'.next st hf R₁ fun k k' s₂ σ₂ N₂ st₂ st₁₂ R₂ hk h'' => ?_))
  refine xl_EEEAAAAA h'' fun l as j zr3 zr4 hl hj hz q => ?_
  rw [zr4] at hk
  have hw2 := hw.mono st₁₂.tup
  rw [zr3] at hw2
  refine hk.at fun u => ?_
  refine hw2.at ?_
  refine xl_EEAAA (listAt R₂ hl) fun ws n e1 e2 r1 I => ?_
  refine wpAny_bind (wpAny_standAt (wpAny_bind (wpAny_holding (ki_setAt e2 (by simp) (by simp; exact linI [] [_, _] (.a (.c (.v 0)) (.n 1)) (.n 9223372036854775808) [((.c (.a (.v 0) (.n 1))), (.c (.v 1))), ((.c (.a (.v 1) (.n 1))), (.c (.n 4611686018427387904)))] (Int.ofNat_le.mpr hj) (Int.ofNat_le.mpr hz) rfl) (by rw [List.size_toArray, r1.length]; simp; exact hj) ?_))))
  have hv2 := (hv.mono st.tup).mono st₁₂.tup
  have key : ∀ {as : List AV} {vs : List Value} (j : Nat), VsIs (N₂.see s₂.heap) as vs → VsIs (N₂.see s₂.heap) (as.set j a) (vs.set j v) := fun {as} => by
    induction as with
    | nil => intro vs j h; exact h.nil_at .nil
    | cons a' as ih =>
      intro vs j h
      refine VsIs.cons_at h fun v' r p q => ?_
      induction j with
      | zero => exact .cons hv2 q
      | succ j => exact .cons p (ih j q)
  have ho' := PySem.IsL.update (show PySem.IsL s₂.heap l ws.toArray n from e2) (·.setIfInBounds (Int.ofNat j).toNat v)
  have eset : ws.toArray.setIfInBounds (Int.ofNat j).toNat v = (ws.set j v).toArray := by simp
  rw [eset] at ho'
  refine xl_EA (R₂.updList (t := s₂.toks) (bs := as.set j a) hl (Heap.SameBut.update ..) ho' (key j r1)) fun N' R' st' => ?_
  exact wpAny_release ⟨_, N', st₂.trans st', R', q⟩
end
end Mine
end

section
open PySem PySem.W PySem.Calls PyProof.Rows
namespace Mine

/-- a machine's own object stays -/
theorem Rp.own_ne {c : Cx} {g : Frm} {s : Shared} {σ : St} {N : Ledger} (R : Rp c g s σ N) {b : Addr} {o : Obj} {vs : Array Value} (e : s.heap.get? b = some o) (hd : o.data = .fields vs) : b ≠ g.env.locals ∧ b ∉ g.frs := by
  refine ⟨fun z => ?_, fun q => ?_⟩
  · refine xl_EA R.loc fun mc F _ => ?_
    refine xl_EEEAA F.ns fun oL es ep h1 h2 _ => ?_
    rw [z, h1] at e; cases e; rw [h2] at hd; cases hd
  · refine xl_EEEA (R.fd b q) fun o' es n h1 h2 => ?_
    rw [h1] at e; cases e; rw [h2] at hd; cases hd
theorem Rp.locNF {c : Cx} {g : Frm} {s : Shared} {σ : St} {N : Ledger} (R : Rp c g s σ N) : ∀ o, s.heap.get? g.env.locals = some o → ∀ vs, o.data ≠ .fields vs := fun o e vs q => (R.own_ne e q).1 rfl
theorem Step.own {L : Addr} {s s' : Shared} {N N' : Ledger} (hL : ∀ o, s.heap.get? L = some o → ∀ vs, o.data ≠ .fields vs) (st : Step L s N s' N') {b : Addr} {o : Obj} {vs : Array Value} (e : s.heap.get? b = some o) (hd : o.data = .fields vs) (hN : N b = none) : s'.heap.get? b = some o ∧ N' b = none :=
  ⟨st.exact b o e (fun z => by subst z; exact hL o e vs hd) hN fun es n q => (by rw [hd] at q; injection q), st.stays_out e hN⟩

/-- a machine's own objects, unseen by values: where an iterator lies -/
noncomputable def Own (c : Cx) (s₀ : Shared) (N : Ledger) (h : Heap) (b : Addr) : Prop := s₀.heap.get? b = none ∧ c.B.get? b = none ∧ N b = none ∧ ∃ o vs, h.get? b = some o ∧ o.data = .fields vs

/-- a step of the machine's own objects -/
structure Moves (s₀ : Shared) (N₀ : Ledger) (s : Shared) (N : Ledger) (s₁ : Shared) (N₁ : Ledger) : Prop where
  step : ∀ L, Step L s₀ N₀ s N → Step L s₀ N₀ s₁ N₁
  quiet : ∀ b o, s.heap.get? b = some o → (∀ vs, o.data ≠ .fields vs) → N b = none → s₁.heap.get? b = some o ∧ N₁ b = none

/-- an object that no value of the frame lies in -/
noncomputable def OwnG (c : Cx) (f : Frm) (s₀ : Shared) (N : Ledger) (h : Heap) (b : Addr) : Prop := s₀.heap.get? b = none ∧ c.B.get? b = none ∧ N b = none ∧ b ≠ f.env.locals ∧ b ∉ f.frs ∧ ∃ o, h.get? b = some o ∧ ∀ vs n, o ≠ tupObj vs n
theorem Own.g {c : Cx} {f : Frm} {s₀ s : Shared} {σ : St} {N : Ledger} {b : Addr} (x : Own c s₀ N s.heap b) (R : Rp c f s σ N) : OwnG c f s₀ N s.heap b := by
  refine xl_AAAEEA x fun h1 h2 h3 o vs h4 h5 => ?_; try clear x
  obtain ⟨h6, h7⟩ := R.own_ne h4 h5
  exact ⟨h1, h2, h3, h6, h7, o, h4, fun ws n q => by rw [q] at h5; injection h5⟩

/-- the machine's own objects change, all others stay -/
theorem Rp.iter {c : Cx} {g : Frm} {s s₀ : Shared} {σ : St} {N N₀ : Ledger} (R : Rp c g s σ N) {U : Addr → Prop} {h' : Heap} {t : Nat} (hU : ∀ b, U b → Own c s₀ N s.heap b) (k : ∀ b o, ¬ U b → s.heap.get? b = some o → h'.get? b = some o)
    (ht : s.toks ≤ t := by first | exact Nat.le_refl _ | exact Nat.le_succ _ | assumption | omega) :
    Rp c g { s with heap := h', toks := t } σ N ∧ Moves s₀ N₀ s N { s with heap := h', toks := t } N := by
  have x : ∀ frs, Notes frs U s.heap h' := fun frs => ⟨fun b o e _ u => k b o u e, fun b o e u => ⟨o.slots, k b o u e⟩⟩
  exact ⟨R.notes (ht := ht) (x _) (fun b u => (hU b u).2.1) (fun b u => (hU b u).2.2.1) fun b o u e => by
      refine xl_EEA ((hU b u).2.2.2) fun o' vs e1 e2 => ?_
      rw [e] at e1; cases e1; exact ⟨vs, e2⟩,
    ⟨fun L st => st.notes (frs := []) (x _) (fun b u => (hU b u).1) (fun b h => nomatch h), fun b o e hd hN => ⟨k b o (fun u => by
      refine xl_EEA ((hU b u).2.2.2) fun o' vs e1 e2 => ?_
      rw [e] at e1; cases e1; exact hd _ e2) e, hN⟩⟩⟩

/-- where the items of a loop come from -/
structure Supply (c : Cx) (s₀ : Shared) (N₀ : Ledger) (P : AHeap → Prop) (it : Value) (tgt : Expr) (J : Nat → Shared → Ledger → Prop) (items : List AV) : Prop where
  stay : ∀ L n s N s' N', J n s N → (∀ o, s.heap.get? L = some o → ∀ vs, o.data ≠ .fields vs) → Step L s N s' N' → J n s' N'
  next : ∀ (g : Frm) n s N σ (E : Value → Shared → Prop), g.A.handled = none → J n s N → Rp c g s σ N → P σ.H →
    wpAny (model c.prog c.w) g.A (pyNext it) (fun r s₁ => match items[n]? with
      | none => r = none ∧ ∃ N₁, Moves s₀ N₀ s N s₁ N₁ ∧ Rp c g s₁ σ N₁
      | some a => ∃ v, r = some v ∧ ∀ E', wpAny (model c.prog c.w) g.A (letOwnedTupleGo tgt it v) (fun _ s₂ => ∃ N₂, Moves s₀ N₀ s N s₂ N₂ ∧ Rp c g s₂ σ N₂ ∧ VIs (N₂.see s₂.heap) a v ∧ J (n + 1) s₂ N₂) E' s₁) E s
  self : ∀ (g : Frm) n s N (E : Value → Shared → Prop) (Q : Value → Shared → Prop), J n s N → Q it s → wpAny (model c.prog c.w) g.A (pyIter it) Q E s

/-- the source of a loop: what its items are, and what must stay so that they are -/
noncomputable def ASrc (c : Cx) (sc : Scope) (b : Nat) (iter tgt : Expr) (σ : St) (Q : List AV → (AHeap → Prop) → St → Prop) (X : Int → St → Prop) : Prop :=
  ∀ (f : Frm) (s : Shared) (N : Ledger), FOk c sc b f → Rp c f s σ N → wpAny (model c.prog c.w) f.A (eval iter f.env) (fun x s₁ => wpAny (model c.prog c.w) f.A (pyIter x) (fun it s₂ =>
    ∃ σ' N' items P J, Step f.env.locals s N s₂ N' ∧ Rp c f s₂ σ' N' ∧ Supply c s N P it tgt J items ∧ J 0 s₂ N' ∧ Q items P σ') (PX c f s N X) s₁) (PX c f s N X) s

/-- the turns of a loop -/
noncomputable def ATurns (c : Cx) (sc : Scope) (b : Nat) (tgt : Expr) (body : List Stmt) (P : AHeap → Prop) (Q : AFl → St → Prop) (X : Int → St → Prop) : List AV → St → Prop
  | [], σ => Q .next σ
  | a :: rest, σ => AT c sc b tgt a σ (fun σ₁ => AS c sc b body σ₁ (fun fl σ₂ => match fl with
      | .next | .cont => P σ₂.H ∧ ATurns c sc b tgt body P Q X rest σ₂
      | .brk => Q .next σ₂
      | .ret a => Q (.ret a) σ₂) X) X

section
variable {c : Cx} {sc : Scope} {b : Nat} {σ : St} {X : Int → St → Prop} {f : Frm} {s : Shared} {N : Ledger}

theorem for_turns {tgt : Expr} {it : Value} {body : List Stmt} {P : AHeap → Prop} {J : Nat → Shared → Ledger → Prop} {items : List AV} {Q : AFl → St → Prop} {σ₀ : St} (hf : FOk c sc b f) (own : f.env = f.fenv) (R₀ : Rp c f s σ₀ N) (S : Supply c s N P it tgt J items) {s₁ : Shared} {N₁ : Ledger}
    (st : Step f.env.locals s N s₁ N₁) (R : Rp c f s₁ σ N₁) (hJ : J 0 s₁ N₁) (hP : P σ.H) (h : ATurns c sc b tgt body P Q X items σ) :
    codeAny (model c.prog c.w) f.A (.forLoop tgt it body [] f.env) (fun r s' => match r with | .ok fl => Pst c f s N (RF Q) fl s' | .error e => PXg true (some f.Lf) c f s N X e s') s₁ := by
  have note : ∀ ev s', PX c f s N X ev s' → notedBy (model c.prog c.w) f.A f.env (PXg true (some f.Lf) c f s N X) ev s' := fun ev s' z => noted_x hf.frames hf.fframe own R₀ z
  refine codeAny_forLoop_any (fun k s' => ∃ n σ' N', k = items.length - n ∧ n ≤ items.length ∧ Step f.env.locals s N s' N' ∧ Rp c f s' σ' N' ∧ J n s' N' ∧ P σ'.H ∧ ATurns c sc b tgt body P Q X (items.drop n) σ') (fun k s' zf0 => xl_EEEAAAAAA zf0 fun n σ' N' hk hn st' R' hJ' hP' h' => ?_) items.length ⟨0, σ, N₁, rfl, Nat.zero_le _, st, R, hJ, hP, h⟩
  refine wpAny_mono (S.next f n s' N' σ' _ hf.handled hJ' R' hP') (fun r s₂ h₂ => ?_) fun _ _ z => z
  cases hi : items[n]? with
  | none =>
    rw [hi] at h₂
    refine xl_AEA h₂ fun zr11 N₂ st₂ R₂ => ?_
    rw [zr11]
    rw [List.drop_eq_nil_of_le (by simpa using hi)] at h'
    exact wpAny_execs_nil ⟨σ', N₂, st₂.step _ st', R₂, _, .next, h'⟩
  | some a =>
    rw [hi] at h₂
    refine xl_EA h₂ fun v ev h₂ => ?_
    rw [ev]
    obtain ⟨hlt, ha⟩ := List.getElem?_eq_some_iff.mp hi
    rw [List.drop_eq_getElem_cons hlt, ha] at h'
    refine wpAny_mono (h₂ _) (fun _ s₃ zf1 => xl_EAAA zf1 fun N₃ st₃ R₃ hv hJ₃ => ?_) fun _ _ z => z
    have st0 := st₃.step _ st'
    refine wpAny_mono (h' f s₃ N₃ v hf R₃ hv) (fun _ s₄ zf2 => xl_EEAA zf2 fun σ₄ N₄ st₄ R₄ h₄ => ?_) fun ev s' z => note ev s' (z.trans st0)
    have hJ₄ := S.stay _ _ _ _ _ _ hJ₃ R₃.locNF st₄
    refine wpAny_mono (h₄ f s₄ N₄ hf own R₄) (fun fl s₅ zf3 => xl_EEAAEA zf3 fun σ₅ N₅ st₅ R₅ a' g1 g2 => ?_) fun ev s' z => note ev s' (z.trans (st0.trans st₄))
    have st1 := (st0.trans st₄).trans st₅
    have hJ₅ := S.stay _ _ _ _ _ _ hJ₄ R₄.locNF st₅
    induction g1 with
    | next => exact ⟨items.length - (n + 1), (Nat.lt_of_lt_of_eq (Nat.sub_lt_sub_left hlt (Nat.lt_succ_self n)) (Eq.symm ‹k = items.length - n›)), n + 1, σ₅, N₅, rfl, by exact lin [_, _] (.a (.v 0) (.n 1)) (.v 1) [((.a (.v 0) (.n 1)), (.v 1))] hlt rfl, st1, R₅, hJ₅, g2.1, g2.2⟩
    | cont => exact ⟨items.length - (n + 1), (Nat.lt_of_lt_of_eq (Nat.sub_lt_sub_left hlt (Nat.lt_succ_self n)) (Eq.symm ‹k = items.length - n›)), n + 1, σ₅, N₅, rfl, by exact lin [_, _] (.a (.v 0) (.n 1)) (.v 1) [((.a (.v 0) (.n 1)), (.v 1))] hlt rfl, st1, R₅, hJ₅, g2.1, g2.2⟩
    | brk => exact ⟨σ₅, N₅, st1, R₅, _, .next, g2⟩
    | ret w => exact ⟨σ₅, N₅, st1, R₅, _, .ret w, g2⟩

theorem a1_for {tgt iter : Expr} {body : List Stmt} {p : Pos} {Q : AFl → St → Prop} (h : ASrc c sc b iter tgt σ (fun items P σ₁ => P σ₁.H ∧ ATurns c sc b tgt body P Q X items σ₁) X)
    (hs : ∀ env x, foldedSetIterable iter env x = pure x := by intro _ _; rfl) : A1 c sc b (.For tgt iter body [] p) σ Q X := fun f s N hf own R => by
  refine wpAny_For (wpAny_mono (h f s N hf R) (fun x s₁ h₁ => wpAny_mono h₁ (fun it s₂ zf4 => xl_EEEEEAAAAA zf4 fun σ' N' items P J st R' S hJ hP ht => ?_) fun _ _ z => z) fun _ _ z => z) (hs _)
  refine codeAny_mono (for_turns hf own R S st R' hJ hP ht) fun r s' z => ?_
  induction r with
  | ok fl => exact z
  | error e => exact cameBack_x hf.fframe own R z

/-- a list's iterator -/
theorem supply_list {tgt : Expr} {s₀ : Shared} {N₀ : Ledger} {it l : Addr} {as : List AV} (ht : ∀ v, letOwnedTupleGo tgt (.ref it) v = pure ()) :
    Supply c s₀ N₀ (fun H => H l = some (.list as)) (.ref it) tgt (fun n s N => s.heap.IsListIter it l n ∧ s₀.heap.get? it = none ∧ c.B.get? it = none ∧ N it = none) as := by
  refine ⟨fun L n s N s' N' J R st => xl_EAA J.1 fun o h1 h2 h3 => ⟨⟨o, (Step.own R st h1 h3 J.2.2.2).1, h2, h3⟩, J.2.1, J.2.2.1, (Step.own R st h1 h3 J.2.2.2).2⟩, fun g n s N σ E hh zf R hl => xl_AAA zf fun hit h4 h5 h6 => ?_, fun g n s N E Q zf q => wpAny_pyIter_listiter zf.1 q⟩
  · refine xl_EEAAA (listAt R hl) fun ws m e1 e2 r I => ?_
    refine xl_EAA (id hit) fun o h1 h2 h3 => ?_
    cases hi : as[n]? with
    | none =>
      refine wpAny_pyNext_list_end hh hit I (by have := r.length; simp at hi ⊢; exact lin [_, _, _] (.v 0) (.v 2) [((.v 0), (.v 1)), ((.v 1), (.v 2))] (Nat.le_of_eq this) hi rfl) fun h' hs => ⟨rfl, N, ?_⟩
      obtain ⟨R', st'⟩ := R.iter (N₀ := N₀) (t := s.toks) (U := fun b => b = it) (s₀ := s₀) (h' := h') (fun b q => q ▸ ⟨h4, h5, h6, o, _, h1, h3⟩) fun b o u e => hs b o u e
      exact ⟨st', R'⟩
    | some a =>
      refine xl_EA (r.get hi) fun v e hv => ?_
      refine wpAny_pyNext_list_item hit I (by simpa using e) fun h' hit' hs => ⟨v, rfl, fun E' => wpAny_of_eq (ht v) ⟨N, ?_⟩⟩
      obtain ⟨R', st'⟩ := R.iter (N₀ := N₀) (t := s.toks) (U := fun b => b = it) (s₀ := s₀) (h' := h') (fun b q => q ▸ ⟨h4, h5, h6, o, _, h1, h3⟩) fun b o u e => (hs.2 b u).trans e
      refine ⟨st', R', hv.mono fun b vs n e => ?_, hit', h4, h5, h6⟩
      obtain ⟨z, e⟩ := Ledger.see_of e
      exact Ledger.see_is z ((hs.2 b fun q => by subst q; rw [h1] at e; cases e; cases h3).trans e)

/-- the machine's own objects and private tuples change or come, all others stay -/
theorem Rp.mach {s₀ : Shared} {N₀ : Ledger} (R : Rp c f s σ N) {U : Addr → Prop} {h' : Heap} {t : Nat} (N' : Ledger) (hU : ∀ b, U b → OwnG c f s₀ N s.heap b)
    (hN : ∀ b, N' b = N b ∨ (s₀.heap.get? b = none ∧ N₀ b = none ∧ (N b = none → s.heap.get? b = none) ∧ (∀ o, N b = some o → ∃ vs n, o = tupObj vs n) ∧ ∀ o, N' b = some o → (∃ vs n, o = tupObj vs n) ∧ h'.get? b = some o))
    (k : ∀ b o, ¬ U b → N' b = N b → s.heap.get? b = some o → h'.get? b = some o) (ht : s.toks ≤ t := by first | exact Nat.le_refl _ | exact Nat.le_succ _ | assumption | omega) :
    Rp c f { s with heap := h', toks := t } σ N' ∧ TupKeep (N.see s.heap) (N'.see h') ∧ ∀ L, Step L s₀ N₀ s N → Step L s₀ N₀ { s with heap := h', toks := t } N' := by
  have same : ∀ b o, s.heap.get? b = some o → (∀ vs n, o ≠ tupObj vs n) → N' b = N b := fun b o e hno => by
    rcases hN b with q | ⟨_, _, q1, q2, _⟩
    · exact q
    · cases z : N b with
      | none => rw [q1 z] at e; injection e
      | some o' =>
        refine xl_EE (q2 o' z) fun vs n zr13 => ?_; subst zr13
        rw [(R.led _ _ z).1] at e
        exact absurd (Option.some.inj e).symm (hno vs n)
  have sameN : ∀ b o, N b = some o → (∀ vs n, o ≠ tupObj vs n) → N' b = some o := fun b o e hno => by
    rw [same b o (R.led _ _ e).1 hno]; exact e
  have out : ∀ b o, s.heap.get? b = some o → N b = none → N' b = none := fun b o e z => by
    rcases hN b with q | ⟨_, _, q1, _⟩
    · exact q.trans z
    · rw [q1 z] at e; injection e
  have nT : ∀ b vs n, s.heap.get? b = some (tupObj vs n) → ¬ U b := fun b vs n e u => by
    refine xl_EA ((hU b u).2.2.2.2.2) fun o' e' hd => ?_
    rw [e] at e'; cases e'; exact hd _ _ rfl
  have tk : TupKeep (N.see s.heap) (N'.see h') := fun b vs n e => by
    obtain ⟨z, e⟩ := Ledger.see_of e
    have z' := out b _ e z
    exact Ledger.see_is z' (k b _ (nT b _ _ e) (z'.trans z.symm) e)
  have kd : ∀ b o, ¬ U b → s.heap.get? b = some o → (∃ es n, o.data = .dict es n) → h'.get? b = some o := fun b o u e zf7 => xl_EE zf7 fun es n hd =>
    k b o u (same b o e fun vs m q => by rw [q] at hd; injection hd) e
  have kB : ∀ b o, c.B.get? b = some o → h'.get? b = some o := fun b o e => by
    have e' := R.stays b o e
    refine k b o (fun u => by rw [(hU b u).2.1] at e; injection e) ?_ e'
    rcases hN b with q | ⟨_, _, q1, q2, _⟩
    · exact q
    · cases z : N b with
      | none => rw [q1 z] at e'; injection e'
      | some o' => rw [(R.led _ _ z).2.1] at e; injection e
  refine ⟨?_, tk, fun L st => ?_⟩
  · obtain ⟨⟨mc, F, hm⟩, led, inj, dicts, rel, ff, fd, tok⟩ := R
    refine xl_EEEAA (id F.ns) fun oL es ep g1 g2 g3 => ?_
    have instN : ∀ x C dx, N' x = some (instObj C dx) → N x = some (instObj C dx) := fun x C dx e => by
      rcases hN x with q | ⟨_, _, _, _, q⟩
      · exact q.symm.trans e
      · obtain ⟨⟨vs, n, z⟩, _⟩ := q _ e; exact (inst_ne_tup z).elim
    refine ⟨⟨mc, ⟨⟨oL, es, ep, kd _ _ (fun u => (hU _ u).2.2.2.1 rfl) g1 ⟨_, _, g2⟩, g2, g3⟩, kB, F.above⟩, fun x a e => let ⟨v, h1, h2⟩ := hm x a e; ⟨v, h1, h2.mono tk⟩⟩, fun a o e => ?_, fun x y C C' dx e1 e2 => inj x y C C' dx (instN _ _ _ e1) (instN _ _ _ e2), fun x C dx e => ?_, fun a ao e => ?_, ?_, fun b hb => ?_, Nat.lt_of_lt_of_le tok ht⟩
    · rcases hN a with q | ⟨q0, _, q1, q2, q3⟩
      · have e' := q.symm.trans e
        obtain ⟨h1, h2⟩ := led a o e'
        exact ⟨k a o (fun u => by rw [(hU a u).2.2.1] at e'; injection e') q h1, h2⟩
      · obtain ⟨q5, q4⟩ := q3 o e
        refine ⟨q4, ?_, ?_, .inr (.inr (.inr q5)), ?_⟩
        · cases z : N a with
          | none =>
            cases w : c.B.get? a with
            | none => rfl
            | some o => have := F.keep a o w; rw [q1 z] at this; injection this
          | some o' => exact (led a o' z).2.1
        · cases z : N a with
          | none => intro w; rw [w] at q1; rw [q1 (w ▸ z)] at g1; injection g1
          | some o' => exact (led a o' z).2.2.1
        · cases z : N a with
          | none => intro w; refine xl_EEEA (fd a w) fun o _ _ i1 _ => ?_; rw [q1 z] at i1; injection i1
          | some o' => exact (led a o' z).2.2.2.2
    · refine xl_EE (dicts x C dx (instN _ _ _ e)) fun es n e' => ?_
      exact ⟨es, n, sameN _ _ e' fun vs m q => dict_ne_tup q⟩
    · have z := rel a ao e
      induction ao with
      | list vs => refine xl_EEA z fun ws n i1 i2 => ?_; try clear z; exact ⟨ws, n, sameN _ _ i1 fun _ _ q => list_ne_tup q, i2.mono tk⟩
      | inst C fs => refine xl_EEEAA z fun dx es n i1 i2 i3 => ?_; try clear z; exact ⟨dx, es, n, sameN _ _ i1 fun _ _ q => inst_ne_tup q, sameN _ _ i2 fun _ _ q => dict_ne_tup q, i3.mono tk⟩
      | dict w kvs => refine xl_EEAAA z fun es n i1 i2 i3 i4 => ?_; try clear z; exact ⟨es, n, sameN _ _ i1 fun _ _ q => dict_ne_tup q, i2.mono tk, fun x C q => i3 x C (instN _ _ _ q), i4⟩
    · have : ∀ l : List Env, (∀ b ∈ l.filterMap (·.frame), (∃ o es n, s.heap.get? b = some o ∧ o.data = .dict es n) ∧ ¬ U b) → s.heap.FunFrames c.B l → h'.FunFrames c.B l := fun l => by
        induction l with
        | nil => intro _ _; trivial
        | cons e l ih =>
          intro hl ⟨hk, ⟨La, o, hf, hn, ho, hd⟩, hr⟩
          obtain ⟨⟨o', es', n', i1, i2⟩, i3⟩ := hl La (by rw [List.filterMap_cons, hf]; exact List.mem_cons_self ..)
          exact ⟨hk, ⟨La, o', hf, hn, kd _ _ i3 i1 ⟨_, _, i2⟩, fun vs q => by rw [i2] at q; injection q⟩, ih (fun b hb => hl b (by rw [List.filterMap_cons, hf]; exact List.mem_cons_of_mem _ hb)) hr⟩
      exact this _ (fun b hb => ⟨fd b hb, fun u => (hU b u).2.2.2.2.1 hb⟩) ff
    · refine xl_EEEA (fd b hb) fun o es' n' i1 i2 => ?_; exact ⟨o, es', n', kd _ _ (fun u => (hU b u).2.2.2.2.1 hb) i1 ⟨_, _, i2⟩, i2⟩
  · have old : ∀ b o o', s₀.heap.get? b = some o → s.heap.get? b = some o' → h'.get? b = some o' := fun b o o' e e' => by
      refine k b o' (fun u => by rw [(hU b u).1] at e; injection e) ?_ e'
      rcases hN b with q | ⟨q0, _⟩
      · exact q
      · rw [q0] at e; injection e
    refine ⟨by rw [st.shape], fun b vs n e => tk b vs n (st.tup b vs n e), fun b o e hb hz => ?_, fun b hb => ?_, fun b o e => ?_, fun b o e hb hz hd => old b o o e (st.exact b o e hb hz hd), fun b vs n e => ?_⟩
    · obtain ⟨sl, e'⟩ := st.rest b o e hb hz; exact ⟨sl, old b o _ e e'⟩
    · rcases hN b with q | ⟨q0, _⟩
      · rw [q] at hb; exact st.new b hb
      · exact .inr q0
    · obtain ⟨o', e'⟩ := st.mono b o e; exact ⟨o', old b o o' e e'⟩
    · rcases hN b with q | ⟨_, q1, _⟩
      · exact q.trans (st.priv b vs n e)
      · rw [q1] at e; cases e

theorem moves_of {s₀ : Shared} {N₀ N' : Ledger} {U : Addr → Prop} {h' : Heap} {t : Nat} (st : ∀ L, Step L s₀ N₀ s N → Step L s₀ N₀ { s with heap := h', toks := t } N') (hU : ∀ b, U b → Own c s₀ N s.heap b)
    (hN : ∀ b, N' b = N b ∨ (N b = none → s.heap.get? b = none)) (k : ∀ b o, ¬ U b → N' b = N b → s.heap.get? b = some o → h'.get? b = some o) : Moves s₀ N₀ s N { s with heap := h', toks := t } N' :=
  ⟨st, fun b o e hd z => by
    have z' : N' b = N b := by
      rcases hN b with q | q
      · exact q
      · rw [q z] at e; injection e
    refine ⟨k b o (fun u => ?_) z' e, z'.trans z⟩
    refine xl_EEA ((hU b u).2.2.2) fun o' vs e1 e2 => ?_
    rw [e] at e1; cases e1; exact hd _ e2⟩
theorem own_new (R : Rp c f s σ N) {s₀ : Shared} {N₀ : Ledger} (st : Step f.env.locals s₀ N₀ s N) : s₀.heap.get? s.heap.objs.size = none ∧ c.B.get? s.heap.objs.size = none ∧ N s.heap.objs.size = none :=
  ⟨st.fresh (none_at _), R.base_lt (none_at _), R.N_of_none (none_at _)⟩
noncomputable abbrev plainT (tgt : Expr) : Prop := ∀ it v, letOwnedTupleGo tgt it v = pure ()
/-- for .. in a list -/
theorem asrc_list {iter tgt : Expr} {Q : List AV → (AHeap → Prop) → St → Prop} (h : AE c sc b iter σ (fun a σ₁ => ∃ l as, a = .ref l ∧ σ₁.H l = some (.list as) ∧ Q as (fun H => H l = some (.list as)) σ₁) X) (ht : plainT tgt := by intro _ _; rfl) : ASrc c sc b iter tgt σ Q X := fun f s N hf R =>
  h.then_ hf R fun v a s₁ σ₁ N₁ st R₁ hv h' => by
    refine xl_EEAA h' fun l as zr17 hl q => ?_; refine hv.at_eq zr17 ?_
    refine xl_EEAAA (listAt R₁ hl) fun ws m e1 e2 r I => ?_
    refine xl_AA (own_new R₁ st) fun n1 n2 n3 => ?_
    have kp : ∀ b o, s₁.heap.get? b = some o → (s₁.heap.push { cls := .type "list_iterator", data := .fields #[.ref l, .int 0 0] }).get? b = some o := fun b o e => Heap.get?_push_of_some _ e
    exact wpAny_pyIter_list I ⟨σ₁, N₁, as, _, _, st.trans (.of_keeps (t := s₁.toks) kp), R₁.keeps (t := s₁.toks) kp, supply_list (it := s₁.heap.objs.size) (l := l) fun v => ht _ v, ⟨⟨_, Heap.get?_push_size _ rfl, rfl, rfl⟩, n1, n2, n3⟩, q⟩

theorem supply_tuple {tgt : Expr} {s₀ : Shared} {N₀ : Ledger} {it t : Addr} {as : List AV} {vs : List Value} {m : Nat} (ht : ∀ v, letOwnedTupleGo tgt (.ref it) v = pure ()) :
    Supply c s₀ N₀ (fun _ => True) (.ref it) tgt (fun n s N => s.heap.IsTupleIter it t n ∧ N.see s.heap t = some (tupObj vs m) ∧ VsIs (N.see s.heap) as vs ∧ s₀.heap.get? it = none ∧ c.B.get? it = none ∧ N it = none) as := by
  refine ⟨fun L n s N s' N' J R st => xl_EAA J.1 fun o h1 h2 h3 => ⟨⟨o, (Step.own R st h1 h3 J.2.2.2.2.2).1, h2, h3⟩, st.tup _ _ _ J.2.1, J.2.2.1.mono st.tup, J.2.2.2.1, J.2.2.2.2.1, (Step.own R st h1 h3 J.2.2.2.2.2).2⟩, fun g n s N σ E hh zf R _ => xl_AAAAA zf fun hit h7 h8 h4 h5 h6 => ?_, fun g n s N E Q zf q => wpAny_pyIter_tupleiter zf.1 q⟩
  · have hT : s.heap.IsTuple t vs.toArray := ⟨_, (Ledger.see_of h7).2, rfl, m, rfl⟩
    refine xl_EAA (id hit) fun o h1 h2 h3 => ?_
    cases hi : as[n]? with
    | none =>
      refine wpAny_pyNext_tuple_end hh hit hT (by have := h8.length; simp at hi ⊢; exact lin [_, _, _] (.v 0) (.v 2) [((.v 0), (.v 1)), ((.v 1), (.v 2))] (Nat.le_of_eq this) hi rfl) fun h' hs => ⟨rfl, N, ?_⟩
      obtain ⟨R', st'⟩ := R.iter (N₀ := N₀) (t := s.toks) (U := fun b => b = it) (s₀ := s₀) (h' := h') (fun b q => q ▸ ⟨h4, h5, h6, o, _, h1, h3⟩) fun b o u e => hs b o u e
      exact ⟨st', R'⟩
    | some a =>
      refine xl_EA (h8.get hi) fun v e hv => ?_
      refine wpAny_pyNext_tuple_item hit hT (by simpa using e) fun h' hit' hs => ⟨v, rfl, fun E' => wpAny_of_eq (ht v) ⟨N, ?_⟩⟩
      obtain ⟨R', st'⟩ := R.iter (N₀ := N₀) (t := s.toks) (U := fun b => b = it) (s₀ := s₀) (h' := h') (fun b q => q ▸ ⟨h4, h5, h6, o, _, h1, h3⟩) fun b o u e => (hs.2 b u).trans e
      have tk : TupKeep (N.see s.heap) (N.see h') := fun b vs n e => by
        obtain ⟨z, e⟩ := Ledger.see_of e
        exact Ledger.see_is z ((hs.2 b fun q => by subst q; rw [h1] at e; cases e; cases h3).trans e)
      exact ⟨st', R', hv.mono tk, hit', tk _ _ _ h7, h8.mono tk, h4, h5, h6⟩
theorem asrc_tuple {iter tgt : Expr} {Q : List AV → (AHeap → Prop) → St → Prop} (h : AE c sc b iter σ (fun a σ₁ => ∃ as, a = .tup as ∧ Q as (fun _ => True) σ₁) X) (ht : plainT tgt := by intro _ _; rfl) : ASrc c sc b iter tgt σ Q X := fun f s N hf R =>
  h.then_ hf R fun v a s₁ σ₁ N₁ st R₁ hv h' => by
    refine xl_EA h' fun as zr18 q => ?_; refine hv.at_eq zr18 fun vs t m e r => ?_
    refine xl_AA (own_new R₁ st) fun n1 n2 n3 => ?_
    have kp : ∀ b o, s₁.heap.get? b = some o → (s₁.heap.push { cls := .type "tuple_iterator", data := .fields #[.ref t, .int 0 0] }).get? b = some o := fun b o e => Heap.get?_push_of_some _ e
    exact wpAny_pyIter_tuple ⟨_, (Ledger.see_of e).2, rfl, m, rfl⟩ ⟨σ₁, N₁, as, _, _, st.trans (.of_keeps (t := s₁.toks) kp), R₁.keeps (t := s₁.toks) kp, supply_tuple (it := s₁.heap.objs.size) (t := t) (vs := vs) (m := m) fun v => ht _ v,
      ⟨⟨_, Heap.get?_push_size _ rfl, rfl, rfl⟩, see_keep kp _ _ _ e, r.mono (see_keep kp), n1, n2, n3⟩, q⟩

/-- the signs of a text -/
noncomputable def signsOf (x : Str) : List AV := x.cps.toList.map fun c => .str ⟨#[c]⟩
theorem supply_str {tgt : Expr} {s₀ : Shared} {N₀ : Ledger} {it : Addr} {x : Str} {t : Tok} (ht : ∀ v, letOwnedTupleGo tgt (.ref it) v = pure ()) :
    Supply c s₀ N₀ (fun _ => True) (.ref it) tgt (fun n s N => s.heap.IsStrIter it (strIterType x) x t n ∧ s₀.heap.get? it = none ∧ c.B.get? it = none ∧ N it = none) (signsOf x) := by
  refine ⟨fun L n s N s' N' J R st => xl_EAA J.1 fun o h1 h2 h3 => ⟨⟨o, (Step.own R st h1 h3 J.2.2.2).1, h2, h3⟩, J.2.1, J.2.2.1, (Step.own R st h1 h3 J.2.2.2).2⟩, fun g n s N σ E hh zf10 R _ => xl_AAA zf10 fun hit h4 h5 h6 => ?_, fun g n s N E Q zf q => by
    have hit := zf.1
    unfold strIterType at hit
    split at hit
    · exact wpAny_pyIter_striter_ascii hit q
    · exact wpAny_pyIter_striter_wide hit q⟩
  · refine xl_EAA (id hit) fun o h1 h2 h3 => ?_
    have fin : ∀ h', Heap.ExtBut it s.heap h' → ∃ N₁, Moves s₀ N₀ s N { s with heap := h' } N₁ ∧ Rp c g { s with heap := h' } σ N₁ := fun h' hs => by
      obtain ⟨R', st'⟩ := R.iter (N₀ := N₀) (t := s.toks) (U := fun b => b = it) (s₀ := s₀) (h' := h') (fun b q => q ▸ ⟨h4, h5, h6, o, _, h1, h3⟩) fun b o u e => hs b o u e
      exact ⟨N, st', R'⟩
    have gen : ∀ (ch : Nat) h', h'.IsStrIter it (strIterType x) x t (n + 1) → Heap.SameBut it s.heap h' → ∃ N₂, Moves s₀ N₀ s N { s with heap := h', toks := s.toks + 1 } N₂ ∧ Rp c g { s with heap := h', toks := s.toks + 1 } σ N₂ ∧
        VIs (N₂.see h') (.str ⟨#[ch]⟩) (.str ⟨#[ch]⟩ s.toks) ∧ h'.IsStrIter it (strIterType x) x t (n + 1) ∧ s₀.heap.get? it = none ∧ c.B.get? it = none ∧ N₂ it = none := fun ch h' hit' hs => by
      obtain ⟨R', st'⟩ := R.iter (N₀ := N₀) (t := s.toks + 1) (U := fun b => b = it) (s₀ := s₀) (h' := h') (fun b q => q ▸ ⟨h4, h5, h6, o, _, h1, h3⟩) fun b o u e => (hs.2 b u).trans e
      exact ⟨N, st', R', .str _ _, hit', h4, h5, h6⟩
    unfold signsOf
    rw [List.getElem?_map, Array.getElem?_toList]
    unfold strIterType at hit gen
    split at hit
    · rename_i ha
      simp only [ha, if_true] at gen
      cases hi : x.cps[n]? with
      | none => exact wpAny_pyNext_ascii_end hh hit hi fun h' hs => ⟨rfl, fin h' hs⟩
      | some ch => exact wpAny_pyNext_ascii_item hit hi fun h' hit' hs => ⟨_, rfl, fun E' => wpAny_of_eq (ht _) (by unfold strIterType; simp only [ha, if_true]; exact gen ch h' hit' hs)⟩
    · rename_i ha
      simp only [ha, if_false] at gen
      cases hi : x.cps[n]? with
      | none => exact wpAny_pyNext_wide_end hh hit hi fun h' hs => ⟨rfl, fin h' hs⟩
      | some ch => exact wpAny_pyNext_wide_item hit hi fun h' hit' hs => ⟨_, rfl, fun E' => wpAny_of_eq (ht _) (by unfold strIterType; simp only [ha, if_false]; exact gen ch h' hit' hs)⟩
theorem asrc_str {iter tgt : Expr} {Q : List AV → (AHeap → Prop) → St → Prop} (h : AE c sc b iter σ (fun a σ₁ => ∃ x, a = .str x ∧ Q (signsOf x) (fun _ => True) σ₁) X) (ht : plainT tgt := by intro _ _; rfl) : ASrc c sc b iter tgt σ Q X := fun f s N hf R =>
  h.then_ hf R fun v a s₁ σ₁ N₁ st R₁ hv h' => by
    refine xl_EA h' fun x zr19 q => ?_; refine hv.at_eq zr19 fun t => ?_
    refine xl_AA (own_new R₁ st) fun n1 n2 n3 => ?_
    have kp : ∀ b o, s₁.heap.get? b = some o → (s₁.heap.push { cls := .type (strIterType x), data := .fields #[.str x t, .int 0 0] }).get? b = some o := fun b o e => Heap.get?_push_of_some _ e
    exact wpAny_pyIter_strU ⟨σ₁, N₁, _, _, _, st.trans (.of_keeps (t := s₁.toks) kp), R₁.keeps (t := s₁.toks) kp, supply_str (it := s₁.heap.objs.size) (t := t) fun v => ht _ v, ⟨⟨_, Heap.get?_push_size _ rfl, rfl, rfl⟩, n1, n2, n3⟩, q⟩

/-- arguments, then a call that is looked into -/
theorem call_ty {fn : Expr} {args : List Expr} {p : Pos} {T : String} {Q : List AV → St → Prop} {Q' : Value → Shared → Prop} (hf : FOk c sc b f) (R : Rp c f s σ N) (hst : NoStar p args) (h : AE c sc b fn σ (fun fv σ₁ => fv = .ty T ∧ AEs c sc b p args σ₁ Q X) X)
    (he : ∀ env, eval (.Call fn args [] p) env = (do callWith p (← eval fn env) [] (backTo p (starEach args env)) (backToKw p (keywordEach [] env))))
    (fin : ∀ s₂ σ₂ N₂ as vs, Step f.env.locals s N s₂ N₂ → Rp c f s₂ σ₂ N₂ → VsIs (N₂.see s₂.heap) as vs → Q as σ₂ → wpAny (model c.prog c.w) f.A (call (.type T) vs) Q' (PX c f s N X) s₂) :
    wpAny (model c.prog c.w) f.A (eval (.Call fn args [] p) f.env) Q' (PX c f s N X) s :=
  Call_ (h.then_ hf R fun v fv s₁ σ₁ N₁ st R₁ hv zz => by
    refine hv.at_eq zz.1 ?_
    have h' := zz.2
    have tail : wpAny (model c.prog c.w) f.A (spliced (backTo p (starEach args f.env))) (fun ws s₂ => c.K.In s₂.heap ∧ wpAny (model c.prog c.w) f.A (call (.type T) ws) Q' (PX c f s N X) s₂) (PX c f s N X) s₁ :=
      wpAny_mono (h' f s₁ N₁ hf R₁) (fun ws s₂ zz => xl_EEAAEA zz fun σ₂ N₂ st₂ R₂ as g1 g2 => ⟨R₂.kin hf.ok, fin s₂ σ₂ N₂ as ws (st.trans st₂) R₂ g1 g2⟩) fun _ _ z => z.trans st
    refine xl_EEA hst fun e r zr20 he' => ?_; try clear hst; subst zr20
    rw [(he' f.env).1] at tail ⊢
    exact callWith_of (P := fun h => c.K.In h) (by show ((false || (backTo p (starEach r f.env)).any (·.1)) || false) = false; rw [(he' f.env).2]; rfl) (fun h X => keep_looks (fv := .ty T) rfl (VIs.ty (h := fun _ => none) T) X) (evalArgs_plain tail)) (he _)

/-- the numbers from 0 -/
noncomputable def numsTo (n : Nat) : List AV := (List.range n).map fun (i : Nat) => .int i
theorem supply_range {tgt : Expr} {s₀ : Shared} {N₀ : Ledger} {it : Addr} {k : Nat} (ht : ∀ v, letOwnedTupleGo tgt (.ref it) v = pure ()) :
    Supply c s₀ N₀ (fun _ => True) (.ref it) tgt (fun n s N => IsRangeIter s.heap it n ((k : Int) - n) 1 ∧ s₀.heap.get? it = none ∧ c.B.get? it = none ∧ N it = none) (numsTo k) := by
  refine ⟨fun L n s N s' N' J R st => ⟨(Step.own R st J.1 rfl J.2.2.2).1, J.2.1, J.2.2.1, (Step.own R st J.1 rfl J.2.2.2).2⟩, fun g n s N σ E hh zf R _ => xl_AAA zf fun hit h4 h5 h6 => ?_, fun g n s N E Q zf q => wpAny_pyIter_rangeiter zf.1 q⟩
  · unfold numsTo
    rw [List.getElem?_map]
    by_cases hi : n < k
    · rw [List.getElem?_range hi]
      refine wpAny_pyNext_range_item hit (by exact linI [] [_, _] (.a (.n 0) (.n 1)) (.s (.c (.v 1)) (.c (.v 0))) [((.c (.a (.v 0) (.n 1))), (.c (.v 1)))] (Int.ofNat_le.mpr hi) rfl) fun h' hit' hs => ⟨_, rfl, fun E' => wpAny_of_eq (ht _) ?_⟩
      obtain ⟨R', st'⟩ := R.iter (N₀ := N₀) (t := s.toks + 1) (U := fun b => b = it) (s₀ := s₀) (h' := h') (fun b q => q ▸ ⟨h4, h5, h6, _, _, hit, rfl⟩) fun b o u e => (hs.2 b u).trans e
      refine ⟨N, st', R', .int _ _, ?_, h4, h5, h6⟩
      have e1 : ((n : Int) + 1) = ((n + 1 : Nat) : Int) := by exact Int.le_antisymm (linI [] [_] (.a (.c (.v 0)) (.n 1)) (.c (.a (.v 0) (.n 1))) []  rfl) (linI [] [_] (.c (.a (.v 0) (.n 1))) (.a (.c (.v 0)) (.n 1)) []  rfl)
      have e2 : (k : Int) - n - 1 = (k : Int) - ((n + 1 : Nat) : Int) := by exact Int.le_antisymm (linI [] [_, _] (.s (.s (.c (.v 0)) (.c (.v 1))) (.n 1)) (.s (.c (.v 0)) (.c (.a (.v 1) (.n 1)))) []  rfl) (linI [] [_, _] (.s (.c (.v 0)) (.c (.a (.v 1) (.n 1)))) (.s (.s (.c (.v 0)) (.c (.v 1))) (.n 1)) []  rfl)
      rw [e1, e2] at hit'; exact hit'
    · rw [List.getElem?_eq_none (by simp; exact lin [_, _] (.v 0) (.v 1) [((.v 0), (.v 1))] (Nat.le_of_not_lt hi) rfl)]
      refine wpAny_pyNext_range_end hh hit (by exact linI [] [_, _] (.s (.c (.v 0)) (.c (.v 1))) (.n 0) [((.c (.v 0)), (.c (.v 1)))] (Int.ofNat_le.mpr (Nat.le_of_not_lt hi)) rfl) fun h' hs => ⟨rfl, N, ?_⟩
      obtain ⟨R', st'⟩ := R.iter (N₀ := N₀) (t := s.toks) (U := fun b => b = it) (s₀ := s₀) (h' := h') (fun b q => q ▸ ⟨h4, h5, h6, _, _, hit, rfl⟩) fun b o u e => hs b o u e
      exact ⟨st', R'⟩
/-- for .. in range(n) -/
theorem asrc_range {fn e : Expr} {p : Pos} {tgt : Expr} {Q : List AV → (AHeap → Prop) → St → Prop} (h : AE c sc b fn σ (fun fv σ₁ => fv = .ty "range" ∧ AE c sc b e σ₁ (fun a σ₂ => ∃ n : Int, a = .int n ∧ n < 2 ^ 40 ∧ -(2 ^ 40 : Int) < n ∧ Q (numsTo n.toNat) (fun _ => True) σ₂) X) X) (ht : plainT tgt := by intro _ _; rfl)
    (hst : NoStar p [e] := by exact NoStar.cons fun _ => ⟨rfl, rfl⟩) (hse : ∀ env, starEach [e] env = (false, eval e env) :: starEach [] env := by intro _; rfl) (he : ∀ env, eval (.Call fn [e] [] p) env = (do callWith p (← eval fn env) [] (backTo p (starEach [e] env)) (backToKw p (keywordEach [] env))) := by intro _; rfl) :
    ASrc c sc b (.Call fn [e] [] p) tgt σ Q X := fun f s N hf R => by
  refine call_ty (T := "range") (Q := fun as σ₂ => ∃ n : Int, as = [.int n] ∧ n < 2 ^ 40 ∧ -(2 ^ 40 : Int) < n ∧ Q (numsTo n.toNat) (fun _ => True) σ₂) hf R hst (h.mono (fun fv σ₁ z => ⟨z.1, aes_cons (z.2.mono (fun a σ₂ z => xl_EA z fun n e2 h2 => aes_nil ⟨n, by rw [e2], h2⟩) fun _ _ z => z) hse⟩) fun _ _ z => z) he fun s₂ σ₂ N₂ as vs st R₂ hv zz => ?_
  refine xl_EAAA zz fun n e1 z1 z2 q => ?_
  refine hv.go_eq e1 fun t => ?_
  refine call_range_1 ?_
  have kp : ∀ b o, s₂.heap.get? b = some o → (s₂.heap.push { cls := .type "range", data := .fields #[.int 0 s₂.toks, .int n t, .int 1 (s₂.toks + 1)] }).get? b = some o := fun b o e => Heap.get?_push_of_some _ e
  have R₃ := R₂.keeps (t := s₂.toks + 1 + 1) kp
  have st₃ := st.trans (.of_keeps (t := s₂.toks + 1 + 1) kp)
  generalize hh3 : s₂.heap.push { cls := .type "range", data := .fields #[.int 0 s₂.toks, .int n t, .int 1 (s₂.toks + 1)] } = h3 at R₃ st₃
  have hr : IsRange h3 s₂.heap.objs.size 0 n 1 s₂.toks t (s₂.toks + 1) := by rw [← hh3]; exact IsRange.new ..
  refine xl_AA (own_new R₃ st₃) fun n1 n2 n3 => ?_
  have kp' : ∀ b o, h3.get? b = some o → (h3.push { cls := .type "range_iterator", data := .fields #[rawInt 0, rawInt (Builtin.Range.rangeSize 0 n 1), rawInt 1] }).get? b = some o := fun b o e => Heap.get?_push_of_some _ e
  refine wpAny_pyIter_range hr (small_one (by exact linI [] [] (.n (-4611686018427387904)) (.n 0) []  rfl) (by exact linI [] [] (.a (.n 0) (.n 1)) (.n 4611686018427387904) []  rfl) (by exact linI [_] [] (.n (-4611686018427387904)) (.v 0) [((.a (.n (-1099511627776)) (.n 1)), (.v 0))] z2 rfl) (by exact linI [_] [] (.a (.v 0) (.n 1)) (.n 4611686018427387904) [((.a (.v 0) (.n 1)), (.n 1099511627776))] z1 rfl)) ⟨σ₂, N₂, numsTo n.toNat, _, _, st₃.trans (.of_keeps (t := s₂.toks + 1 + 1) kp'), R₃.keeps (t := s₂.toks + 1 + 1) kp', supply_range (it := h3.objs.size) (k := n.toNat) fun v => ht _ v, ⟨?_, n1, n2, n3⟩, q⟩
  have ez : Builtin.Range.rangeSize 0 n 1 = ((n.toNat : Nat) : Int) - ((0 : Nat) : Int) := by rw [rangeSize_nat, Int.sub_zero]; exact (Int.sub_zero _).symm
  rw [← ez]
  exact Heap.get?_push_size _ rfl
end
end Mine
end

section
open PySem PySem.W PySem.Calls PyProof.Rows
namespace Mine

section
variable {c : Cx} {sc : Scope} {b : Nat} {σ : St} {X : Int → St → Prop} {f : Frm} {s : Shared} {N : Ledger}

noncomputable def OwnJ (c : Cx) (s₀ : Shared) (N : Ledger) (a : Addr) : Prop := s₀.heap.get? a = none ∧ c.B.get? a = none ∧ N a = none

noncomputable def zipJ (c : Cx) (s₀ : Shared) (N₀ : Ledger) (z TI TO i1 i2 l1 l2 : Addr) (n : Nat) (s : Shared) (N : Ledger) : Prop :=
  ∃ a b, IsZip s.heap z TI TO .none ∧ N TI = some (tupObj [.ref i1, .ref i2] 0) ∧ N TO = some (tupObj [a, b] 0) ∧ s.heap.IsListIter i1 l1 n ∧ s.heap.IsListIter i2 l2 n ∧
    OwnJ c s₀ N z ∧ OwnJ c s₀ N i1 ∧ OwnJ c s₀ N i2 ∧ s₀.heap.get? TO = none ∧ N₀ TO = none
theorem zipJ.el {c : Cx} {s₀ : Shared} {N₀ : Ledger} {z TI TO i1 i2 l1 l2 : Addr} {n : Nat} {s : Shared} {N : Ledger} {G : Prop} (J : zipJ c s₀ N₀ z TI TO i1 i2 l1 l2 n s N)
    (k : ∀ a b, IsZip s.heap z TI TO .none → N TI = some (tupObj [.ref i1, .ref i2] 0) → N TO = some (tupObj [a, b] 0) → s.heap.IsListIter i1 l1 n → s.heap.IsListIter i2 l2 n → OwnJ c s₀ N z → OwnJ c s₀ N i1 → OwnJ c s₀ N i2 → s₀.heap.get? TO = none → N₀ TO = none → G) : G :=
  xl_EE J fun a b h => k a b h.1 h.2.1 h.2.2.1 h.2.2.2.1 h.2.2.2.2.1 h.2.2.2.2.2.1 h.2.2.2.2.2.2.1 h.2.2.2.2.2.2.2.1 h.2.2.2.2.2.2.2.2.1 h.2.2.2.2.2.2.2.2.2
theorem zip_moves {s₀ : Shared} {N₀ N' : Ledger} {TO : Addr} {a b : Value} {U : Addr → Prop} {h' : Heap} (R : Rp c f s σ N) (hU : ∀ x, U x → Own c s₀ N s.heap x) (h3 : N TO = some (tupObj [a, b] 0)) (h9 : s₀.heap.get? TO = none) (h10 : N₀ TO = none)
    (hn : ∀ x, x ≠ TO → N' x = N x) (hT : ∀ o, N' TO = some o → (∃ vs n, o = tupObj vs n) ∧ h'.get? TO = some o) (kk : ∀ x o, ¬ U x → N' x = N x → s.heap.get? x = some o → h'.get? x = some o) :
    Moves s₀ N₀ s N { s with heap := h', toks := s.toks } N' ∧ Rp c f { s with heap := h', toks := s.toks } σ N' ∧ TupKeep (N.see s.heap) (N'.see h') := by
  have e3 : N TO = none → s.heap.get? TO = none := fun w => by rw [h3] at w; cases w
  have m := R.mach (N₀ := N₀) (t := s.toks) (h' := h') N' (fun x u => (hU x u).g R) (fun x => by
    by_cases q : x = TO
    · rw [q]; exact .inr ⟨h9, h10, e3, fun o w => ⟨_, _, Option.some.inj (w.symm.trans h3)⟩, hT⟩
    · exact .inl (hn x q)) kk
  refine ⟨moves_of (t := s.toks) m.2.2 hU (fun x => by
    by_cases q : x = TO
    · rw [q]; exact .inr e3
    · exact .inl (hn x q)) kk, m.1, m.2.1⟩
theorem supply_zip {elts : List Expr} {x1 : Nat} {pos : Pos} {s₀ : Shared} {N₀ : Ledger} {z TI TO i1 i2 l1 l2 : Addr} {as bs : List AV} (D : ZipApart z TI TO i1 i2 l1 l2) :
    Supply c s₀ N₀ (fun H => H l1 = some (.list as) ∧ H l2 = some (.list bs)) (.ref z) (.Tuple elts x1 pos) (zipJ c s₀ N₀ z TI TO i1 i2 l1 l2) (List.zipWith (fun a b => .tup [a, b]) as bs) := by
  refine ⟨fun L n s N s' N' J R st => ?_, fun g n s N σ E hh J R hl => ?_, fun g n s N E Q J q => J.el fun a b h1 _ _ _ _ _ _ _ _ _ => wpAny_pyIter_zip h1 q⟩
  · refine J.el fun a b h1 h2 h3 h4 h5 h6 h7 h8 h9 h10 => ?_
    refine xl_EAA h4 fun o4 h4 h4' h4'' => ?_
    refine xl_EAA h5 fun o5 h5 h5' h5'' => ?_
    have e := Step.own R st h1 rfl h6.2.2
    have f := Step.own R st h4 h4'' h7.2.2
    have g := Step.own R st h5 h5'' h8.2.2
    exact ⟨a, b, e.1, st.priv _ _ _ h2, st.priv _ _ _ h3, ⟨o4, f.1, h4', h4''⟩, ⟨o5, g.1, h5', h5''⟩, ⟨h6.1, h6.2.1, e.2⟩, ⟨h7.1, h7.2.1, f.2⟩, ⟨h8.1, h8.2.1, g.2⟩, h9, h10⟩
  refine J.el fun a b h1 h2 h3 h4 h5 h6 h7 h8 h9 h10 => ?_
  have hl1 := hl.1
  have hl2 := hl.2
  · refine xl_EEAAA (listAt R hl1) fun ws m e1 e2 r I => ?_
    refine xl_EEAAA (listAt R hl2) fun ws' m' e1' e2' r' I' => ?_
    have pTI : IsPair s.heap TI (.ref i1) (.ref i2) := (R.led _ _ h2).1
    have pTO : IsPair s.heap TO a b := (R.led _ _ h3).1
    have hU : ∀ x, (x = z ∨ x = i1 ∨ x = i2) → Own c s₀ N s.heap x := fun x hx => by
      rcases hx with rfl | rfl | rfl
      · exact ⟨h6.1, h6.2.1, h6.2.2, _, _, h1, rfl⟩
      · refine xl_EAA h4 fun o i1 i2 i3 => ?_; try clear h4; exact ⟨h7.1, h7.2.1, h7.2.2, o, _, i1, i3⟩
      · refine xl_EAA h5 fun o i1 i2 i3 => ?_; try clear h5; exact ⟨h8.1, h8.2.1, h8.2.2, o, _, i1, i3⟩
    rw [List.getElem?_zipWith]
    have fin : ∀ h' : Heap, (∀ x o, x ≠ z → x ≠ TO → x ≠ i1 → x ≠ i2 → s.heap.get? x = some o → h'.get? x = some o) → ∃ N', Moves s₀ N₀ s N { s with heap := h', toks := s.toks } N' ∧ Rp c g { s with heap := h', toks := s.toks } σ N' := fun h' hk => by
      have m := zip_moves (N' := fun x => if x = TO then none else N x) (h' := h') R hU h3 h9 h10 (fun x q => if_neg q) (fun o w => by rw [if_pos rfl] at w; cases w) (fun x o u w e => hk x o (fun q => u (.inl q)) (fun q => by rw [q, if_pos rfl, h3] at w; cases w) (fun q => u (.inr (.inl q))) (fun q => u (.inr (.inr q))) e)
      exact ⟨_, m.1, m.2.1⟩
    cases hx : as[n]? with
    | none => exact wpAny_pyNext_zip_end hh D h1 pTI pTO h4 h5 I I' (.inl (by have := r.length; simp at hx ⊢; exact Nat.le_trans (Nat.le_of_eq this) hx)) fun h' hk => ⟨rfl, fin h' hk⟩
    | some x =>
      cases hy : bs[n]? with
      | none => exact wpAny_pyNext_zip_end hh D h1 pTI pTO h4 h5 I I' (.inr (by have := r'.length; simp at hy ⊢; exact Nat.le_trans (Nat.le_of_eq this) hy)) fun h' hk => ⟨rfl, fin h' hk⟩
      | some y =>
        refine xl_EA (r.get hx) fun v ev hv => ?_
        refine xl_EA (r'.get hy) fun w ew hw => ?_
        refine wpAny_pyNext_zip_item D h1 pTI pTO h4 h5 I I' (by simpa using ev) (by simpa using ew) fun h' hz hTO hi1 hi2 hT hsz hk => ⟨_, rfl, fun E' => wpAny_letOwnedTupleGo_zip hz fun h'' hz' hs => ?_⟩
        have zT : s.heap.objs.size ≠ z := Nat.ne_of_gt (Heap.lt_size h1)
        have tT : s.heap.objs.size ≠ TO := Nat.ne_of_gt (Heap.lt_size pTO)
        have hTO' : h''.get? TO = some (tupObj [v, w] 0) := (hs.2 _ D.TOz).trans hTO
        have kk : ∀ x o, ¬ (x = z ∨ x = i1 ∨ x = i2) → N.set TO (tupObj [v, w] 0) x = N x → s.heap.get? x = some o → h''.get? x = some o := fun x o u q e => by
          by_cases p : x = TO
          · subst p
            rw [Ledger.set_self, h3] at q
            rw [pTO] at e; cases e
            rw [hTO', Option.some.inj q]
          · exact (hs.2 x fun q => u (.inl q)).trans (hk x o (fun q => u (.inl q)) p (fun q => u (.inr (.inl q))) (fun q => u (.inr (.inr q))) e)
        have m := zip_moves (N' := N.set TO (tupObj [v, w] 0)) (h' := h'') R hU h3 h9 h10 (fun x q => Ledger.set_ne _ _ q) (fun o w => by rw [Ledger.set_self] at w; cases w; exact ⟨⟨_, _, rfl⟩, hTO'⟩) kk
        have tk := m.2.2
        refine ⟨_, m.1, m.2.1, .tup (Ledger.see_is ((Ledger.set_ne _ _ tT).trans (R.N_of_none (none_at _))) ((hs.2 _ zT).trans hT)) (.cons (hv.mono tk) (.cons (hw.mono tk) .nil)), v, w, hz', (Ledger.set_ne _ _ D.TITO).trans h2, Ledger.set_self .., hi1.extBut hs.extBut D.i1z, hi2.extBut hs.extBut D.i2z, ?_, ?_, ?_, h9, h10⟩
        · exact ⟨h6.1, h6.2.1, (Ledger.set_ne _ _ D.TOz.symm).trans h6.2.2⟩
        · exact ⟨h7.1, h7.2.1, (Ledger.set_ne _ _ D.TOi1.symm).trans h7.2.2⟩
        · exact ⟨h8.1, h8.2.1, (Ledger.set_ne _ _ D.TOi2.symm).trans h8.2.2⟩
/-- for .. in zip(l1, l2) -/
theorem asrc_zip {fn e1 e2 : Expr} {p pos : Pos} {elts : List Expr} {x1 : Nat} {Q : List AV → (AHeap → Prop) → St → Prop}
    (h : AE c sc b fn σ (fun fv σ₁ => fv = .ty "zip" ∧ AE c sc b e1 σ₁ (fun a σ₂ => AE c sc b e2 σ₂ (fun a' σ₃ => ∃ l1 l2 as bs, a = .ref l1 ∧ a' = .ref l2 ∧ σ₃.H l1 = some (.list as) ∧ σ₃.H l2 = some (.list bs) ∧
      Q (List.zipWith (fun a b => .tup [a, b]) as bs) (fun H => H l1 = some (.list as) ∧ H l2 = some (.list bs)) σ₃) X) X) X)
    (hst : NoStar p [e1, e2] := by exact NoStar.cons fun _ => ⟨rfl, rfl⟩) (hse : ∀ env, starEach [e1, e2] env = (false, eval e1 env) :: starEach [e2] env := by intro _; rfl) (hse2 : ∀ env, starEach [e2] env = (false, eval e2 env) :: starEach [] env := by intro _; rfl)
    (he : ∀ env, eval (.Call fn [e1, e2] [] p) env = (do callWith p (← eval fn env) [] (backTo p (starEach [e1, e2] env)) (backToKw p (keywordEach [] env))) := by intro _; rfl) :
    ASrc c sc b (.Call fn [e1, e2] [] p) (.Tuple elts x1 pos) σ Q X := fun f s N hf R => by
  refine call_ty (T := "zip") (Q := fun as σ₃ => ∃ l1 l2 xs ys, as = [.ref l1, .ref l2] ∧ σ₃.H l1 = some (.list xs) ∧ σ₃.H l2 = some (.list ys) ∧ Q (List.zipWith (fun a b => .tup [a, b]) xs ys) (fun H => H l1 = some (.list xs) ∧ H l2 = some (.list ys)) σ₃) hf R hst
    (h.mono (fun fv σ₁ z => ⟨z.1, aes_cons (z.2.mono (fun a σ₂ h2 => aes_cons (h2.mono (fun a' σ₃ z => xl_EEEEAAAA z fun l1 l2 xs ys q1 q2 q3 q4 q5 => aes_nil ⟨l1, l2, xs, ys, by rw [q1, q2], q3, q4, q5⟩) fun _ _ z => z) hse2) fun _ _ z => z) hse⟩) fun _ _ z => z) he fun s₂ σ₂ N₂ as vs st R₂ hv zz => ?_
  refine xl_EEEEAAA zz fun l1 l2 xs ys q1 q2 q3 q => ?_
  refine hv.go_eq q1 ?_
  refine xl_EEAAA (listAt R₂ q2) fun ws m e1 e2 r I => ?_
  refine xl_EEAAA (listAt R₂ q3) fun ws' m' e1' e2' r' I' => ?_
  refine call_zip_2 I I' fun h' hz hTI hTO hi1 hi2 hsz hk => wpAny_pyIter_zip hz ?_
  have nn : ∀ k, s₂.heap.get? (s₂.heap.objs.size + k) = none := fun k => Heap.get?_none_of_le (Nat.le_add_right _ _)
  have N0 : ∀ k, N₂ (s₂.heap.objs.size + k) = none := fun k => R₂.N_of_none (nn k)
  have hN0 : ∀ k, N (s₂.heap.objs.size + k) = none := fun k => R.N_of_none (st.fresh (nn k))
  have hne : ∀ j k, j ≠ k → s₂.heap.objs.size + j ≠ s₂.heap.objs.size + k := fun j k hjk q => hjk (Nat.add_left_cancel q)
  have lt1 := Heap.lt_size e2
  have lt2 := Heap.lt_size e2'
  have ln : ∀ (l : Addr) k, l < s₂.heap.objs.size → l ≠ s₂.heap.objs.size + k := fun l k hl q => by
    have : s₂.heap.objs.size ≤ s₂.heap.objs.size + k := Nat.le_add_right _ _
    rw [← q] at this; exact Nat.lt_irrefl _ (Nat.lt_of_lt_of_le hl this)
  obtain ⟨R', tk, st'⟩ := R₂.mach (s₀ := s) (N₀ := N) (t := s₂.toks) (h' := h') (U := fun _ => False) ((N₂.set (s₂.heap.objs.size + 2) (tupObj [.ref (s₂.heap.objs.size), .ref (s₂.heap.objs.size + 1)] 0)).set (s₂.heap.objs.size + 3) (tupObj [.none, .none] 0)) (fun _ u => u.elim) (fun x => by
    by_cases p : x = s₂.heap.objs.size + 3
    · subst p
      exact .inr ⟨st.fresh (nn 3), hN0 3, fun _ => nn 3, (fun o w => by rw [N0] at w; cases w), fun o w => by rw [Ledger.set_self] at w; cases w; exact ⟨⟨_, _, rfl⟩, hTO⟩⟩
    · by_cases p' : x = s₂.heap.objs.size + 2
      · subst p'
        exact .inr ⟨st.fresh (nn 2), hN0 2, fun _ => nn 2, (fun o w => by rw [N0] at w; cases w), fun o w => by rw [Ledger.set_ne _ _ (hne 2 3 (by decide)), Ledger.set_self] at w; cases w; exact ⟨⟨_, _, rfl⟩, hTI⟩⟩
      · exact .inl ((Ledger.set_ne _ _ p).trans (Ledger.set_ne _ _ p'))) fun x o _ _ e => hk x o e
  refine ⟨σ₂, _, _, _, _, st' _ st, R', supply_zip (z := s₂.heap.objs.size + 4) (TI := s₂.heap.objs.size + 2) (TO := s₂.heap.objs.size + 3) (i1 := s₂.heap.objs.size) (i2 := s₂.heap.objs.size + 1) (l1 := l1) (l2 := l2)
    ⟨hne 2 4 (by decide), hne 3 4 (by decide), hne 0 4 (by decide), hne 1 4 (by decide), hne 2 3 (by decide), hne 2 0 (by decide), hne 2 1 (by decide), hne 3 0 (by decide), hne 3 1 (by decide), hne 0 1 (by decide), ln _ 4 lt1, ln _ 3 lt1, ln _ 0 lt1, ln _ 1 lt1, ln _ 4 lt2, ln _ 3 lt2, ln _ 0 lt2, ln _ 1 lt2⟩, ?_, q⟩
  have own : ∀ k, k ≠ 2 → k ≠ 3 → OwnJ c s ((N₂.set (s₂.heap.objs.size + 2) (tupObj [.ref (s₂.heap.objs.size), .ref (s₂.heap.objs.size + 1)] 0)).set (s₂.heap.objs.size + 3) (tupObj [.none, .none] 0)) (s₂.heap.objs.size + k) := fun k k2 k3 =>
    ⟨st.fresh (nn k), R₂.base_lt (nn k), (Ledger.set_ne _ _ (hne k 3 k3)).trans ((Ledger.set_ne _ _ (hne k 2 k2)).trans (N0 k))⟩
  exact ⟨.none, .none, hz, (Ledger.set_ne _ _ (hne 2 3 (by decide))).trans (Ledger.set_self ..), Ledger.set_self .., hi1, hi2, own 4 (by decide) (by decide), own 0 (by decide) (by decide), own 1 (by decide) (by decide), st.fresh (nn 3), hN0 3⟩

/-- the items of a list with their places -/
noncomputable def enumOf (as : List AV) : List AV := as.mapIdx fun i a => .tup [.int i, a]
noncomputable def enumJ (c : Cx) (s₀ : Shared) (e it l : Addr) (n : Nat) (s : Shared) (N : Ledger) : Prop :=
  ∃ old, IsEnum s.heap e it n old ∧ s.heap.IsListIter it l n ∧ OwnJ c s₀ N e ∧ OwnJ c s₀ N it
theorem supply_enum {elts : List Expr} {x1 : Nat} {pos : Pos} {s₀ : Shared} {N₀ : Ledger} {e it l : Addr} {as : List AV} (hne : e ≠ it) :
    Supply c s₀ N₀ (fun H => H l = some (.list as)) (.ref e) (.Tuple elts x1 pos) (enumJ c s₀ e it l) (enumOf as) := by
  refine ⟨fun L n s N s' N' J R st => xl_EAAA J fun old h1 h4 h6 h7 => xl_EAA h4 fun o4 h4 h4' h4'' => ?_, fun g n s N σ E hh zf6 R hl => xl_EAAA zf6 fun old h1 h4 h6 h7 => ?_, fun g n s N E Q zf7 q => xl_EA zf7 fun old h1 _ => wpAny_pyIter_enum h1 q⟩
  · have e := Step.own R st h1 rfl h6.2.2
    have f := Step.own R st h4 h4'' h7.2.2
    exact ⟨old, e.1, ⟨o4, f.1, h4', h4''⟩, ⟨h6.1, h6.2.1, e.2⟩, ⟨h7.1, h7.2.1, f.2⟩⟩
  · refine xl_EEAAA (listAt R hl) fun ws m e1 e2 r I => ?_
    have hU : ∀ x, (x = e ∨ x = it) → Own c s₀ N s.heap x := fun x hx => by
      rcases hx with rfl | rfl
      · exact ⟨h6.1, h6.2.1, h6.2.2, _, _, h1, rfl⟩
      · refine xl_EAA h4 fun o i1 i2 i3 => ?_; try clear h4; exact ⟨h7.1, h7.2.1, h7.2.2, o, _, i1, i3⟩
    unfold enumOf
    rw [List.getElem?_mapIdx]
    cases hx : as[n]? with
    | none =>
      refine wpAny_pyNext_enum_end hh h1 h4 I (by have := r.length; simp at hx ⊢; exact lin [_, _, _] (.v 0) (.v 2) [((.v 0), (.v 1)), ((.v 1), (.v 2))] (Nat.le_of_eq this) hx rfl) fun h' hk => ⟨rfl, N, ?_⟩
      obtain ⟨R', st'⟩ := R.iter (N₀ := N₀) (t := s.toks) (h' := h') hU fun x o u w => hk x o (fun q => u (.inr q)) w
      exact ⟨st', R'⟩
    | some x =>
      refine xl_EA (r.get hx) fun v ev hv => ?_
      refine wpAny_pyNext_enum_item h1 h4 I (by simpa using ev) hne fun h' hz hi hT hsz hk => ⟨_, rfl, fun E' => wpAny_letOwnedTupleGo_enum hz fun h'' hz' hs => ⟨N, ?_⟩⟩
      have zT : s.heap.objs.size ≠ e := Nat.ne_of_gt (Heap.lt_size h1)
      have kk : ∀ x o, ¬ (x = e ∨ x = it) → s.heap.get? x = some o → h''.get? x = some o := fun x o u w => (hs.2 x fun q => u (.inl q)).trans (hk x o (fun q => u (.inl q)) (fun q => u (.inr q)) w)
      obtain ⟨R', st'⟩ := R.iter (N₀ := N₀) (t := s.toks + 1) (h' := h'') hU kk
      have tk : TupKeep (N.see s.heap) (N.see h'') := fun x vs n w => by
        obtain ⟨q, w⟩ := Ledger.see_of w
        refine Ledger.see_is q (kk x _ (fun u => ?_) w)
        refine xl_EEA ((hU x u).2.2.2) fun o vs' w' hd => ?_
        rw [w] at w'; cases w'; cases hd
      have e3 : ((n : Int) + 1) = ((n + 1 : Nat) : Int) := by exact Int.le_antisymm (linI [] [_] (.a (.c (.v 0)) (.n 1)) (.c (.a (.v 0) (.n 1))) []  rfl) (linI [] [_] (.c (.a (.v 0) (.n 1))) (.a (.c (.v 0)) (.n 1)) []  rfl)
      rw [e3] at hz'
      exact ⟨st', R', .tup (n := 0) (Ledger.see_is (R.N_of_none (none_at _)) ((hs.2 _ zT).trans hT)) (.cons (.int _ _) (.cons (hv.mono tk) .nil)), _, hz', hi.extBut hs.extBut hne.symm, h6, h7⟩
/-- for .. in enumerate(l) -/
theorem asrc_enum {fn e1 : Expr} {p pos : Pos} {elts : List Expr} {x1 : Nat} {Q : List AV → (AHeap → Prop) → St → Prop}
    (h : AE c sc b fn σ (fun fv σ₁ => fv = .ty "enumerate" ∧ AE c sc b e1 σ₁ (fun a σ₂ => ∃ l as, a = .ref l ∧ σ₂.H l = some (.list as) ∧ Q (enumOf as) (fun H => H l = some (.list as)) σ₂) X) X)
    (hst : NoStar p [e1] := by exact NoStar.cons fun _ => ⟨rfl, rfl⟩) (hse : ∀ env, starEach [e1] env = (false, eval e1 env) :: starEach [] env := by intro _; rfl)
    (he : ∀ env, eval (.Call fn [e1] [] p) env = (do callWith p (← eval fn env) [] (backTo p (starEach [e1] env)) (backToKw p (keywordEach [] env))) := by intro _; rfl) :
    ASrc c sc b (.Call fn [e1] [] p) (.Tuple elts x1 pos) σ Q X := fun f s N hf R => by
  refine call_ty (T := "enumerate") (Q := fun as σ₃ => ∃ l xs, as = [.ref l] ∧ σ₃.H l = some (.list xs) ∧ Q (enumOf xs) (fun H => H l = some (.list xs)) σ₃) hf R hst
    (h.mono (fun fv σ₁ z => ⟨z.1, aes_cons (z.2.mono (fun a σ₂ z => xl_EEAA z fun l xs q1 q3 q5 => aes_nil ⟨l, xs, by rw [q1], q3, q5⟩) fun _ _ z => z) hse⟩) fun _ _ z => z) he fun s₂ σ₂ N₂ as vs st R₂ hv zz => ?_
  refine xl_EEAA zz fun l xs q1 q2 q => ?_
  refine hv.go_eq q1 ?_
  refine xl_EEAAA (listAt R₂ q2) fun ws m e1 e2 r I => ?_
  refine call_enumerate_list I fun h' hz hi hsz hk => ?_
  have nn : ∀ k, s₂.heap.get? (s₂.heap.objs.size + k) = none := fun k => Heap.get?_none_of_le (Nat.le_add_right _ _)
  have own : ∀ k, OwnJ c s N₂ (s₂.heap.objs.size + k) := fun k => ⟨st.fresh (nn k), R₂.base_lt (nn k), R₂.N_of_none (nn k)⟩
  refine wpAny_pyIter_enum hz ⟨σ₂, N₂, _, _, _, st.trans (.of_keeps (t := s₂.toks) hk), R₂.keeps (t := s₂.toks) hk, supply_enum (e := s₂.heap.objs.size + 1) (it := s₂.heap.objs.size) (l := l) (fun q => Nat.succ_ne_self _ q), ⟨.none, hz, hi, own 1, own 0⟩, q⟩
end
end Mine
end

section
open PySem PySem.W PySem.Calls PyProof.Rows
namespace Mine

/-- the tests of a comprehension: none or one -/
noncomputable def ATests (c : Cx) (sc : Scope) (b : Nat) (X : Int → St → Prop) (Q : Bool → St → Prop) : List Expr → St → Prop
  | [], σ => Q true σ
  | [t], σ => AB c sc b t σ Q X
  | _, _ => False
/-- the turns of a comprehension: what is left, what is there -/
noncomputable def ACTurns (c : Cx) (sc : Scope) (b : Nat) (tgt : Expr) (ifs : List Expr) (elt : Expr) (P : AHeap → Prop) (Q : List AV → St → Prop) : List AV → List AV → St → Prop
  | [], acc, σ => Q acc σ
  | a :: rest, acc, σ => AT c sc b tgt a σ (fun σ₁ => ATests c sc b (fun _ _ => False) (fun z σ₂ => if z then AE c sc b elt σ₂ (fun v σ₃ => P σ₃.H ∧ ACTurns c sc b tgt ifs elt P Q rest (acc ++ [v]) σ₃) (fun _ _ => False)
      else P σ₂.H ∧ ACTurns c sc b tgt ifs elt P Q rest acc σ₂) ifs σ₁) (fun _ _ => False)

section
variable {c : Cx} {sc : Scope} {b : Nat} {σ : St} {X : Int → St → Prop} {f : Frm} {s : Shared} {N : Ledger}

theorem no_x {f : Frm} {s : Shared} {N : Ledger} {e : Value} {s' : Shared} (h : PX c f s N (fun _ _ => False) e s') : False := by
  refine xl_EEEEAAAA h fun _ _ _ _ _ _ _ _ h => ?_; exact h

theorem compLoop_any {prog : Program} {w : World} {A : Around} {R : Result → Shared → Prop} {s : Shared} {elt target iter : Expr} {ifs : List Expr} {scope : Scope} {pos : Pos} {it acc : Value} {env : Env} (I : Nat → Shared → Prop)
    (turn : ∀ n s, I n s → wpAny (model prog w) A (pyNext it) (fun r s₁ => match r with
      | none => R (.ok .next) s₁
      | some v => wpAny (model prog w) A (letOwnedTupleGo target it v) (fun _ s₁ => wpAny (model prog w) A (assign target env v) (fun _ s₂ =>
          wpAny (model prog w) A (forIn ifs true fun c r => if r = true then do let ok ← isTrue c env (eval c env); pure (ForInStep.yield ok) else pure (ForInStep.yield r)) (fun ok s₃ =>
            if ok = true then wpAny (model prog w) A (eval elt env) (fun x s₄ =>
              wpAny (model prog w) A (call (.builtin "list.append") [acc, x]) (fun _ s₅ => ∃ m, m < n ∧ I m s₅) (notedBy (model prog w) A env fun e s' => R (.error e) s') s₄) (notedBy (model prog w) A env fun e s' => R (.error e) s') s₃
            else ∃ m, m < n ∧ I m s₃) (notedBy (model prog w) A env fun e s' => R (.error e) s') s₂) (notedBy (model prog w) A env fun e s' => R (.error e) s') s₁) (notedBy (model prog w) A env fun e s' => R (.error e) s') s₁) (notedBy (model prog w) A env fun e s' => R (.error e) s') s)
    (n : Nat) (h : I n s) : codeAny (model prog w) A (.compLoop (.ListComp elt [⟨target, iter, ifs, 0⟩] scope pos) 0 it acc env) R s := by
  refine codeAny_loop rfl I (fun n s hI => ?_) n h
  show wpAny _ A ((compTurn (.ListComp elt [⟨target, iter, ifs, 0⟩] scope pos) 0 it acc env).onRaise (fun x => do noteFrame x env; theTreesLotGoes x)) _ _ s
  refine wpAny_noted ?_
  rw [compTurn_list]
  refine wpAny_bind (wpAny_standAt (wpAny_bind (wpAny_mono (turn n s hI) (fun r s₁ h₁ => ?_) fun _ _ h' => h')))
  induction r with
  | none => exact wpAny_pure h₁
  | some v =>
    refine wpAny_bind (wpAny_mono h₁ (fun _ s₁ h₁ => ?_) fun _ _ h' => h')
    refine wpAny_bind (wpAny_mono h₁ (fun _ s₂ h₂ => wpAny_bind (wpAny_mono h₂ (fun ok s₃ h₃ => ?_) fun _ _ h' => h')) fun _ _ h' => h')
    induction ok with
    | false => exact wpAny_pure ⟨rfl, h₃⟩
    | true => exact wpAny_bind (wpAny_bind (wpAny_mono h₃ (fun x s₄ h₄ => wpAny_bind (wpAny_mono h₄ (fun _ s₅ h₅ => wpAny_pure (wpAny_pure ⟨rfl, h₅⟩)) fun _ _ h' => h')) fun _ _ h' => h'))

/-- the frame of a comprehension -/
noncomputable def Frm.inner (f : Frm) (scope : Scope) (C : Addr) : Frm := { f with env := compEnv scope C f.env }

theorem Rp.into (R : Rp c f s σ N) {scope : Scope} {h₀ : Heap} {t : Nat} {C : Addr} (h0 : s.heap.get? C = none) (hC : s.heap.objs.size ≤ C) (ns : h₀.Ns C fun _ => none) (keep : ∀ b o, s.heap.get? b = some o → h₀.get? b = some o) (ht : s.toks ≤ t) :
    Rp c (f.inner scope C) { s with heap := h₀, toks := t } ⟨[], σ.H⟩ N := by
  have R' := R.keeps (t := t) keep ht
  obtain ⟨⟨mc, F, _⟩, led, inj, dicts, rel, ff, fd, tok⟩ := R'
  obtain ⟨⟨mc₀, F₀, _⟩, led₀, _⟩ := R
  refine ⟨⟨_, ⟨ns, F.keep, Nat.le_trans F₀.above (Nat.le_trans (Nat.le_of_lt F₀.ns.lt) hC)⟩, fun x a e => by injection e⟩, fun a o e => ?_, inj, dicts, rel, ff, fd, tok⟩
  refine xl_AAAA (led a o e) fun h1 h2 h3 h4 h5 => ?_
  refine ⟨h1, h2, ?_, h4, h5⟩
  intro z
  have e' := (led₀ a o e).1
  rw [z] at e'
  rw [show (f.inner scope C).env.locals = C from rfl, h0] at e'
  injection e'

/-- the outer frame after what happened in the inner one -/
theorem Rp.join (R : Rp c f s σ N) {scope : Scope} {C : Addr} {s' : Shared} {σ' : St} {N' : Ledger} (tk : TupKeep (N.see s.heap) (N'.see s'.heap)) (hL : ∀ o, s.heap.get? f.env.locals = some o → ∃ sl, s'.heap.get? f.env.locals = some { o with slots := sl }) (hN : N' f.env.locals = none)
    (R' : Rp c (f.inner scope C) s' σ' N') : Rp c f s' ⟨σ.m, σ'.H⟩ N' := by
  obtain ⟨⟨mc₀, F, hm₀⟩, _⟩ := R
  obtain ⟨⟨mc', F', _⟩, led', inj', dicts', rel', ff', fd', tok'⟩ := R'
  refine xl_EEEAAA F.ns fun oL es ep g1 g2 g3 g4 => ?_
  obtain ⟨sl, hL⟩ := hL _ g1
  refine ⟨⟨mc₀, ⟨⟨_, es, ep, hL, g2, g3, g4⟩, fun b o e => F'.keep b o e, F.above⟩, fun x a e => ?_⟩, fun a o e => ?_, inj', dicts', rel', ff', fd', tok'⟩
  · refine xl_EA (hm₀ x a e) fun v e1 e2 => ?_; exact ⟨v, e1, e2.mono tk⟩
  · refine xl_AAAA (led' a o e) fun k1 k2 k3 k4 k5 => ?_
    refine ⟨k1, k2, ?_, k4, k5⟩
    intro z; rw [z, hN] at e; injection e
theorem Rp.locOut (R : Rp c f s σ N) : N f.env.locals = none := by
  cases q : N f.env.locals with
  | none => rfl
  | some o => exact absurd rfl (R.led _ _ q).2.2.1
theorem Step.trans_in {L C : Addr} {s s₁ s₂ : Shared} {N N₁ N₂ : Ledger} (x : Step L s N s₁ N₁) (y : Step C s₁ N₁ s₂ N₂) (h : s.heap.get? C = none) : Step L s N s₂ N₂ := by
  have ne : ∀ {b o}, s.heap.get? b = some o → b ≠ C := fun e z => by rw [z, h] at e; injection e
  refine ⟨?_, fun b vs n e => y.tup b vs n (x.tup b vs n e), fun b o e hb hN => ?_, fun b h => ?_, fun b o e => ?_, fun b o e hb hN hd => y.exact b o (x.exact b o e hb hN hd) (ne e) (x.stays_out e hN) hd, fun b vs n e => y.priv b vs n (x.priv b vs n e)⟩
  · have h2 := y.shape
    have h1 := x.shape
    rw [h1] at h2
    exact h2
  · obtain ⟨sl, h2⟩ := x.rest b o e hb hN
    obtain ⟨sl', h4⟩ := y.rest b _ h2 (ne e) (x.stays_out e hN)
    exact ⟨sl', h4⟩
  · rcases y.new b h with z | z
    · exact x.new b z
    · right
      cases q : s.heap.get? b with
      | none => rfl
      | some o => obtain ⟨o', e⟩ := x.mono b o q; rw [e] at z; injection z
  · obtain ⟨o', e'⟩ := x.mono b o e
    exact y.mono b o' e'

/-- within a comprehension: both frames, and the list that grows -/
structure CB (c : Cx) (f : Frm) (scope : Scope) (C D : Addr) (s : Shared) (N : Ledger) (m : List (Str × AV)) (acc : List AV) (s' : Shared) (σ' : St) (N' : Ledger) : Prop where
  st : Step f.env.locals s N s' N'
  out : Rp c f s' ⟨m, σ'.H⟩ N'
  inn : Rp c (f.inner scope C) s' σ' N'
  d : ∃ ws n, s'.heap.get? D = some (listOf ws.toArray n) ∧ N' D = none ∧ VsIs (N'.see s'.heap) acc ws
  c0 : s.heap.get? C = none
  d0 : s.heap.get? D = none
  cL : f.env.locals ≠ C
  dC : D ≠ C
  dB : c.B.get? D = none
theorem CB.go {scope : Scope} {C D : Addr} {m : List (Str × AV)} {acc : List AV} {s₁ s₂ : Shared} {σ₁ σ₂ : St} {N₁ N₂ : Ledger} (B : CB c f scope C D s N m acc s₁ σ₁ N₁) (st : Step C s₁ N₁ s₂ N₂) (R₂ : Rp c (f.inner scope C) s₂ σ₂ N₂) : CB c f scope C D s N m acc s₂ σ₂ N₂ := by
  obtain ⟨b1, b2, b3, ⟨ws, n, d1, d2, d3⟩, b5, b6, b7, b8, dB⟩ := B
  exact ⟨b1.trans_in st b5, b2.join st.tup (fun o e => st.rest _ o e b7 b2.locOut) (by obtain ⟨o, e⟩ := b2.locThere; exact st.stays_out e b2.locOut) R₂, R₂,
    ⟨ws, n, st.exact _ _ d1 b8 d2 (fun es n q => by injection q), st.stays_out d1 d2, d3.mono st.tup⟩, b5, b6, b7, b8, dB⟩
theorem tupKeep_of {s₁ s₂ : Shared} {N₁ N₂ : Ledger} (q : ∀ b o, s₁.heap.get? b = some o → (∀ vs, o.data ≠ .fields vs) → N₁ b = none → s₂.heap.get? b = some o ∧ N₂ b = none) : TupKeep (N₁.see s₁.heap) (N₂.see s₂.heap) := fun b vs n e => by
  obtain ⟨z, e⟩ := Ledger.see_of e
  obtain ⟨e', z'⟩ := q b _ e (fun vs w => by injection w) z
  exact Ledger.see_is z' e'
theorem CB.move {scope : Scope} {C D : Addr} {m : List (Str × AV)} {acc : List AV} {s₁ s₂ : Shared} {σ₁ : St} {N₁ N₂ : Ledger} (B : CB c f scope C D s N m acc s₁ σ₁ N₁) (mv : Moves s N s₁ N₁ s₂ N₂) (R₂ : Rp c (f.inner scope C) s₂ σ₁ N₂) : CB c f scope C D s N m acc s₂ σ₁ N₂ := by
  obtain ⟨b1, b2, b3, ⟨ws, n, d1, d2, d3⟩, b5, b6, b7, b8, dB⟩ := B
  have tk := tupKeep_of mv.quiet
  obtain ⟨o, e⟩ := b2.locThere
  have hq := mv.quiet _ o e (b2.locNF o e) b2.locOut
  obtain ⟨i1, i2⟩ := mv.quiet _ _ d1 (fun vs w => by injection w) d2
  exact ⟨mv.step _ b1, b2.join tk (fun o' e' => by rw [e] at e'; cases e'; exact ⟨o.slots, hq.1⟩) hq.2 R₂, R₂, ⟨ws, n, i1, i2, d3.mono tk⟩, b5, b6, b7, b8, dB⟩
/-- an item is added -/
theorem CB.app {scope : Scope} {C D : Addr} {m : List (Str × AV)} {acc : List AV} {s₁ : Shared} {σ₁ : St} {N₁ : Ledger} {a : AV} {v : Value} (B : CB c f scope C D s N m acc s₁ σ₁ N₁) (hv : VIs (N₁.see s₁.heap) a v) (hz : acc.length ≤ 1000000) {A : Around} {E : Value → Shared → Prop} {Q : Value → Shared → Prop}
    (q : ∀ s₂, CB c f scope C D s N m (acc ++ [a]) s₂ σ₁ N₁ → Step D s₁ N₁ s₂ N₁ → Q .none s₂) : wpAny (model c.prog c.w) A (call (.builtin "list.append") [.ref D, v]) Q E s₁ := by
  obtain ⟨b1, b2, b3, ⟨ws, n, d1, d2, d3⟩, b5, b6, b7, b8, dB⟩ := B
  refine append_at d1 (fun h' hs hd => ?_) (by rw [List.size_toArray, d3.length, sizeLine_eq]; exact lin [_] (.v 0) (.n 16777216) [((.v 0), (.n 1000000))] hz rfl)
  have dL : D ≠ f.env.locals := fun z => by
    refine xl_EA b2.loc fun mc F _ => ?_
    refine xl_EEEAA F.ns fun oL es ep h1 h2 _ => ?_
    rw [← z, d1] at h1; cases h1; cases h2
  have dF : D ∉ f.frs := fun w => by
    refine xl_EEEA (b2.fd D w) fun o es n' i1 i2 => ?_
    rw [d1] at i1; cases i1; cases i2
  have hT : ∀ vs n', (listOf ws.toArray n : Obj) ≠ tupObj vs n' := fun vs n' q => list_ne_tup q
  have k : ∀ b o, ¬ (b = D) → N₁ b = N₁ b → s₁.heap.get? b = some o → h'.get? b = some o := fun b o u _ e => (hs.2 b u).trans e
  have frI : D ∉ (f.inner scope C).frs := dF
  obtain ⟨R', tk, st'⟩ := b3.mach (s₀ := s) (N₀ := N) (t := s₁.toks) (U := fun b => b = D) (h' := h') N₁ (fun b u => by subst u; exact ⟨b6, dB, d2, b8, frI, _, d1, hT⟩) (fun b => .inl rfl) k
  obtain ⟨R'', _, _⟩ := b2.mach (s₀ := s) (N₀ := N) (t := s₁.toks) (U := fun b => b = D) (h' := h') N₁ (fun b u => by subst u; exact ⟨b6, dB, d2, dL, dF, _, d1, hT⟩) (fun b => .inl rfl) k
  refine q { s₁ with heap := h' } ⟨st' _ b1, R'', R', ⟨ws ++ [v], n + 1, by rw [hd]; simp, d2, (d3.mono tk).append (.cons (hv.mono tk) .nil)⟩, b5, b6, b7, b8, dB⟩ ⟨rfl, tk, fun b o e hb _ => ⟨o.slots, k b o hb rfl e⟩, fun b hb => .inl hb, fun b o e => ?_, fun b o e hb _ _ => k b o hb rfl e, fun _ _ _ e => e⟩
  by_cases z : b = D
  · subst z; exact ⟨_, hd⟩
  · exact ⟨o, k b o z rfl e⟩

noncomputable def CompI (c : Cx) (f : Frm) (scope : Scope) (b : Nat) (tgt elt : Expr) (ifs : List Expr) (P : AHeap → Prop) (C D : Addr) (s : Shared) (N : Ledger) (m : List (Str × AV)) (J : Nat → Shared → Ledger → Prop) (Qf : List AV → St → Prop) (items : List AV) (k : Nat) (s' : Shared) : Prop :=
  ∃ n σ' N' acc, k = items.length - n ∧ n ≤ items.length ∧ CB c f scope C D s N m acc s' σ' N' ∧ acc.length ≤ n ∧ J n s' N' ∧ P σ'.H ∧ ACTurns c scope b tgt ifs elt P Qf (items.drop n) acc σ'
noncomputable def CompE (c : Cx) (f : Frm) (scope : Scope) (C D : Addr) (s : Shared) (N : Ledger) (m : List (Str × AV)) (Qf : List AV → St → Prop) (s' : Shared) : Prop := ∃ σ' N' acc, CB c f scope C D s N m acc s' σ' N' ∧ acc.length ≤ 100000 ∧ Qf acc σ'
theorem comp_turns {elt tgt iter : Expr} {ifs : List Expr} {scope : Scope} {p : Pos} {C D : Addr} {it : Value} {P : AHeap → Prop} {J : Nat → Shared → Ledger → Prop} {items : List AV} {Qf : List AV → St → Prop} {m : List (Str × AV)} (hf' : FOk c scope b (f.inner scope C)) (S : Supply c s N P it tgt J items)
    (hz : items.length ≤ 100000) {s₁ : Shared} {σ₁ : St} {N₁ : Ledger} (B : CB c f scope C D s N m [] s₁ σ₁ N₁) (hJ : J 0 s₁ N₁) (hP : P σ₁.H) (h : ACTurns c scope b tgt ifs elt P Qf items [] σ₁) :
    codeAny (model c.prog c.w) f.A (.compLoop (.ListComp elt [⟨tgt, iter, ifs, 0⟩] scope p) 0 it (.ref D) (f.inner scope C).env) (fun r s' => r = .ok .next ∧ CompE c f scope C D s N m Qf s') s₁ := by
  refine compLoop_any (CompI c f scope b tgt elt ifs P C D s N m J Qf items) (fun k s' zf0 => xl_EEEEAAAAAA zf0 fun n σ' N' acc hk hn B ha hJ' hP' h' => ?_) items.length ⟨0, σ₁, N₁, [], rfl, Nat.zero_le _, B, Nat.zero_le _, hJ, hP, h⟩
  have fin : ∀ {e : Value} {s₂ : Shared} {s₃ : Shared} {N₃ : Ledger} {α : Prop}, PX c (f.inner scope C) s₃ N₃ (fun _ _ => False) e s₂ → α := fun z => (no_x z).elim
  refine wpAny_mono (S.next (f.inner scope C) n s' N' σ' _ hf'.handled hJ' B.inn hP') (fun r s₂ h₂ => ?_) fun _ _ z => z
  cases hi : items[n]? with
  | none =>
    rw [hi] at h₂
    refine xl_AEA h₂ fun zr19 N₂ mv R₂ => ?_; rw [zr19]
    rw [List.drop_eq_nil_of_le (by simpa using hi)] at h'
    exact ⟨rfl, σ', N₂, acc, B.move mv R₂, Nat.le_trans ha (Nat.le_trans hn hz), h'⟩
  | some a =>
    rw [hi] at h₂
    refine xl_EA h₂ fun v ev h₂ => ?_
    rw [ev]
    obtain ⟨hlt, hai⟩ := List.getElem?_eq_some_iff.mp hi
    rw [List.drop_eq_getElem_cons hlt, hai] at h'
    refine wpAny_mono (h₂ _) (fun _ s₃ zf1 => xl_EAAA zf1 fun N₃ mv R₃ hv hJ₃ => ?_) fun _ _ z => z
    have B₃ := B.move mv R₃
    refine wpAny_mono (h' (f.inner scope C) s₃ N₃ v hf' R₃ hv) (fun _ s₄ zf2 => xl_EEAA zf2 fun σ₄ N₄ st₄ R₄ h₄ => ?_) fun _ _ z => fin z
    have B₄ := B₃.go st₄ R₄
    have hJ₄ := S.stay _ _ _ _ _ _ hJ₃ R₃.locNF st₄
    have tail : ∀ (z : Bool) s₅ σ₅ N₅, Step C s₄ N₄ s₅ N₅ → Rp c (f.inner scope C) s₅ σ₅ N₅ → (if z then AE c scope b elt σ₅ (fun v σ₃ => P σ₃.H ∧ ACTurns c scope b tgt ifs elt P Qf (items.drop (n + 1)) (acc ++ [v]) σ₃) (fun _ _ => False) else P σ₅.H ∧ ACTurns c scope b tgt ifs elt P Qf (items.drop (n + 1)) acc σ₅) →
        if z = true then wpAny (model c.prog c.w) f.A (eval elt (f.inner scope C).env) (fun x s₄ =>
              wpAny (model c.prog c.w) f.A (call (.builtin "list.append") [.ref D, x]) (fun _ s₅ => ∃ m', m' < k ∧ CompI c f scope b tgt elt ifs P C D s N m J Qf items m' s₅)
                (notedBy (model c.prog c.w) f.A (f.inner scope C).env fun e s' => (Except.error e : Result) = .ok .next ∧ CompE c f scope C D s N m Qf s') s₄) (notedBy (model c.prog c.w) f.A (f.inner scope C).env fun e s' => (Except.error e : Result) = .ok .next ∧ CompE c f scope C D s N m Qf s') s₅
          else ∃ m', m' < k ∧ CompI c f scope b tgt elt ifs P C D s N m J Qf items m' s₅ := fun z s₅ σ₅ N₅ st₅ R₅ h₅ => by
      have B₅ := B₄.go st₅ R₅
      have hJ₅ := S.stay _ _ _ _ _ _ hJ₄ R₄.locNF st₅
      induction z with
      | false => exact ⟨items.length - (n + 1), (Nat.lt_of_lt_of_eq (Nat.sub_lt_sub_left hlt (Nat.lt_succ_self n)) (Eq.symm ‹k = items.length - n›)), n + 1, σ₅, N₅, acc, rfl, hlt, B₅, Nat.le_succ_of_le ha, hJ₅, h₅.1, h₅.2⟩
      | true =>
        simp only [if_true] at h₅ ⊢
        refine wpAny_mono (h₅ (f.inner scope C) s₅ N₅ hf' R₅) (fun x s₆ zf3 => xl_EEAAEA zf3 fun σ₆ N₆ st₆ R₆ v hv₆ h₆ => ?_) fun _ _ z => fin z
        have B₆ := B₅.go st₆ R₆
        have hJ₆ := S.stay _ _ _ _ _ _ hJ₅ R₅.locNF st₆
        refine B₆.app hv₆ (Nat.le_trans ha (Nat.le_trans (Nat.le_of_lt hlt) (Nat.le_trans hz (by decide)))) fun s₇ B₇ st₇ => ?_
        have hJ₇ := S.stay _ _ _ _ _ _ hJ₆ (fun o e vs q => by refine xl_EEA B₆.d fun ws n' d1 _ => ?_; rw [d1] at e; cases e; cases q) st₇
        exact ⟨items.length - (n + 1), (Nat.lt_of_lt_of_eq (Nat.sub_lt_sub_left hlt (Nat.lt_succ_self n)) (Eq.symm ‹k = items.length - n›)), n + 1, σ₆, N₆, acc ++ [v], rfl, hlt, B₇, by rw [List.length_append]; exact Nat.succ_le_succ ha, hJ₇, h₆.1, h₆.2⟩
    rcases ifs with _ | ⟨t, _ | ⟨_, _⟩⟩
    · exact wpAny_tests_nil (tail true s₄ σ₄ N₄ (.refl ..) R₄ h₄)
    · exact wpAny_tests_one (wpAny_mono (h₄ (f.inner scope C) s₄ N₄ hf' R₄) (fun z s₅ zf4 => xl_EEAA zf4 fun σ₅ N₅ st₅ R₅ h₅ => tail z s₅ σ₅ N₅ st₅ R₅ h₅) fun _ _ z => fin z)
    · exact h₄.elim

/-- a list that nothing lies in yet is handed out -/
theorem Rp.adopt (R : Rp c f s σ N) {D : Addr} {ws : List Value} {n : Nat} {acc : List AV} {s₀ : Shared} {N₀ : Ledger} (hD : s.heap.get? D = some (listOf ws.toArray n)) (hN : N D = none) (hB : c.B.get? D = none) (hL : D ≠ f.env.locals) (hF : D ∉ f.frs) (hv : VsIs (N.see s.heap) acc ws) (st : Step f.env.locals s₀ N₀ s N) (h0 : s₀.heap.get? D = none) :
    Rp c f s ⟨σ.m, σ.H.set D (.list acc)⟩ (N.set D (listOf ws.toArray n)) ∧ Step f.env.locals s₀ N₀ s (N.set D (listOf ws.toArray n)) := by
  have tk : TupKeep (N.see s.heap) ((N.set D (listOf ws.toArray n)).see s.heap) := fun b vs m e => by
    obtain ⟨z, e⟩ := Ledger.see_of e
    exact Ledger.see_is ((Ledger.set_ne _ _ fun q => by rw [q, hD] at e; exact list_ne_tup (Option.some.inj e)).trans z) e
  obtain ⟨⟨mc, F, hm⟩, led, inj, dicts, rel, ff, fd, tok⟩ := R
  have instN : ∀ x C dx, N.set D (listOf ws.toArray n) x = some (instObj C dx) → N x = some (instObj C dx) := fun x C dx e => by
    by_cases z : x = D
    · subst z; rw [Ledger.set_self] at e; cases e
    · rwa [Ledger.set_ne _ _ z] at e
  refine ⟨⟨⟨mc, F, fun x a e => let ⟨v, h1, h2⟩ := hm x a e; ⟨v, h1, h2.mono tk⟩⟩, fun a o e => ?_, fun x y C C' dx e1 e2 => inj x y C C' dx (instN _ _ _ e1) (instN _ _ _ e2), fun x C dx e => ?_, fun a ao e => ?_, ff, fd, tok⟩,
    ⟨st.shape, fun b vs m e => tk b vs m (st.tup b vs m e), st.rest, fun b hb => ?_, st.mono, st.exact, fun b vs m e => ?_⟩⟩
  · by_cases z : a = D
    · subst z; rw [Ledger.set_self] at e; cases e; exact ⟨hD, hB, hL, .inl ⟨_, _, rfl⟩, hF⟩
    · rw [Ledger.set_ne _ _ z] at e; exact led a o e
  · refine xl_EE (dicts x C dx (instN _ _ _ e)) fun es m e' => ?_
    exact ⟨es, m, (Ledger.set_ne _ _ fun q => by rw [q, hN] at e'; injection e').trans e'⟩
  · have e : (σ.H.set D (.list acc)) a = some ao := e
    by_cases z : a = D
    · subst z; rw [AHeap.set_self] at e; cases e; exact ⟨ws, n, Ledger.set_self .., hv.mono tk⟩
    · rw [AHeap.set_ne _ _ z] at e
      refine (rel a ao e).set_of tk z (fun C dx q w => ?_) fun C _ q => by cases q
      subst w
      refine xl_EE (dicts _ _ _ q) fun es m e' => ?_
      rw [hN] at e'; injection e'
  · by_cases z : b = D
    · right; rw [z]; exact h0
    · rw [Ledger.set_ne _ _ z] at hb; exact st.new b hb
  · have e' := st.priv b vs m e
    exact (Ledger.set_ne _ _ fun q => by rw [q, hN] at e'; injection e').trans e'

/-- a list comprehension with one clause and at most one test -/
theorem ae_listcomp {elt tgt iter : Expr} {ifs : List Expr} {scope : Scope} {p : Pos} {Q : AV → St → Prop}
    (h : ASrc c sc b iter tgt σ (fun items P σ₁ => P σ₁.H ∧ items.length ≤ 100000 ∧ ACTurns c scope b tgt ifs elt P (fun acc σ₂ => ∀ a, σ₂.H a = none → Q (.ref a) ⟨σ₁.m, σ₂.H.set a (.list acc)⟩) items [] ⟨[], σ₁.H⟩) X)
    (hs : ∀ env x, foldedSetIterable iter env x = pure x := by intro _ _; rfl)
    (hfree : ∀ x ∈ scope.names, x.2 ≠ .free := by decide) (hcell : ∀ x ∈ scope.names, x.2 ≠ .cell := by decide) (hkind : scope.kind = .function := by rfl) (hnames : ∀ x ∈ scope.names, x.2 = .local → scope.names.lookup x.1 = some .local := by decide) :
    AE c sc b (.ListComp elt [⟨tgt, iter, ifs, 0⟩] scope p) σ Q X := fun f s N hf R => by
  refine wpAny_ListComp hfree hkind hnames (wpAny_mono (h f s N hf R) (fun x s₁ h₁ => wpAny_mono h₁ (fun it s₂ zf5 => xl_EEEEEAAAAAA zf5 fun σ₂ N₂ items P J st R₂ S hJ hP hz ht => ?_) fun _ _ z => z) fun _ _ z => z) (hs _)
  refine wpAny_newObj_type (wpAny_newFunctionEnv hcell (by intro y hy; simp at hy) (fun h₁ hns₁ hsb₁ => ?_) hkind) (by size_fits)
  dsimp only at hns₁ hsb₁ ⊢
  generalize hH : s₂.heap.push { cls := .type "list", dict := none, data := .seq ([] : List Value).toArray } = H2 at hns₁ hsb₁ ⊢
  have hC : H2.objs.size = s₂.heap.objs.size + 1 := by rw [← hH, Heap.size_push]
  generalize hD : s₂.heap.objs.size = D at hC ⊢
  have d0 : s₂.heap.get? D = none := by rw [← hD]; exact none_at _
  have c0 : s₂.heap.get? H2.objs.size = none := Heap.get?_none_of_le (by rw [hC, ← hD]; exact Nat.le_succ _)
  have keep : ∀ b o, s₂.heap.get? b = some o → h₁.get? b = some o := fun b o e => hsb₁.extBut b o (fun z => by rw [z, c0] at e; injection e) (Heap.get?_push_of_some _ (hH ▸ Heap.get?_push_of_some _ e))
  have hDC : D ≠ H2.objs.size := by rw [hC]; exact Nat.ne_of_lt (Nat.lt_succ_self _)
  have dAt : h₁.get? D = some (listOf ([] : List Value).toArray 0) := hsb₁.extBut _ _ hDC (Heap.get?_push_of_some _ (by rw [← hH, ← hD]; exact Heap.get?_push_size _ rfl))
  have R₃ : Rp c (f.inner scope H2.objs.size) { s₂ with heap := h₁, toks := s₂.toks + ([] : List (Str × Value)).length } ⟨[], σ₂.H⟩ N₂ := R₂.into c0 (by rw [hC, hD]; exact Nat.le_succ _) hns₁ keep (Nat.le_add_right _ _)
  have R₃' : Rp c f { s₂ with heap := h₁, toks := s₂.toks + ([] : List (Str × Value)).length } ⟨σ₂.m, σ₂.H⟩ N₂ := R₂.keeps keep (Nat.le_add_right _ _)
  have hf' : FOk c scope b (f.inner scope H2.objs.size) := ⟨hf.ok, rfl, hkind, hf.glob, hf.bins, hf.frame, hf.fframe, hf.frames, hf.room, hf.units, hf.handled⟩
  have st₃ : Step f.env.locals s₂ N₂ { s₂ with heap := h₁, toks := s₂.toks + ([] : List (Str × Value)).length } N₂ := .of_keeps keep
  have hJ₃ := S.stay _ _ _ _ _ _ hJ R₂.locNF st₃
  have hcL : f.env.locals ≠ H2.objs.size := fun z => by obtain ⟨o, e⟩ := R₂.locThere; rw [z, c0] at e; injection e
  have B₃ : CB c f scope H2.objs.size D s N σ₂.m [] _ ⟨[], σ₂.H⟩ N₂ := ⟨st.trans st₃, R₃', R₃, ⟨[], 0, dAt, R₂.N_of_none d0, .nil⟩, st.fresh c0, st.fresh d0, hcL, hDC, R₂.base_lt d0⟩
  have loop := comp_turns (iter := iter) (p := p) hf' S hz B₃ hJ₃ hP ht
  have loop' : codeAny (model c.prog c.w) f.A (.compStart (.ListComp elt [⟨tgt, iter, ifs, 0⟩] scope p) 0 it (.ref D) (f.inner scope H2.objs.size).env) _ _ := codeAny_compStart_list loop (S.self f _ _ _ _ _ hJ₃ loop)
  refine codeAny_mono loop' fun r s' zf6 => xl_AEEEAA zf6 fun hr σ' N' acc B hacc q => ?_
  subst hr
  obtain ⟨b1, b2, b3, ⟨ws, n, d1, d2, d3⟩, b5, b6, b7, b8, dB⟩ := B
  refine xl_EA (id b3.loc) fun mi Fi _ => ?_
  refine ⟨mi, Fi.ns, fun h' hsb => ?_⟩
  -- the inner names go, the list is handed out
  have nC : N' H2.objs.size = none := b3.locOut
  have cB : c.B.get? H2.objs.size = none := R₂.base_lt c0
  have cF : H2.objs.size ∉ f.frs := fun w => by refine xl_EEEA (R₂.fd _ w) fun o es n' i1 _ => ?_; rw [c0] at i1; injection i1
  refine xl_EEEAA Fi.ns fun oC esC epC i1 i2 _ => ?_
  have k : ∀ b o, ¬ (b = H2.objs.size) → N' b = N' b → s'.heap.get? b = some o → h'.get? b = some o := fun b o u _ e => (hsb.2 b u).trans e
  obtain ⟨R', tk, st'⟩ := b2.mach (s₀ := s) (N₀ := N) (t := s'.toks) (U := fun b => b = H2.objs.size) (h' := h') N' (fun b u => by subst u; exact ⟨b5, cB, nC, Ne.symm b7, cF, oC, i1, fun vs n' q => by rw [q] at i2; injection i2⟩) (fun b => .inl rfl) k
  have dAt' : h'.get? D = some (listOf ws.toArray n) := (hsb.2 D b8).trans d1
  have dL : D ≠ f.env.locals := fun z => by
    refine xl_EA b2.loc fun mc F _ => ?_
    refine xl_EEEAA F.ns fun oL es ep h1 h2 _ => ?_
    rw [← z, d1] at h1; cases h1; cases h2
  have dF : D ∉ f.frs := fun w => by
    refine xl_EEEA (b2.fd D w) fun o es n' j1 j2 => ?_
    rw [d1] at j1; cases j1; cases j2
  obtain ⟨R'', st''⟩ := R'.adopt dAt' d2 dB dL dF (d3.mono tk) (st' _ b1) b6
  have hH : σ'.H D = none := by
    cases z : σ'.H D with
    | none => rfl
    | some o =>
      have y := b2.rel D o z
      induction o with
      | list vs => refine xl_EEA y fun _ _ e _ => ?_; try clear y; rw [d2] at e; injection e
      | inst C fs => refine xl_EEEA y fun _ _ _ e _ => ?_; try clear y; rw [d2] at e; injection e
      | dict w kvs => refine xl_EEA y fun _ _ e _ => ?_; try clear y; rw [d2] at e; injection e
  exact ⟨_, _, st'', R'', _, .ref _, q D hH⟩
end
end Mine
end

section
open PySem PySem.W PySem.Calls PyProof.Rows Builtin.ObjectAttr
namespace Mine

noncomputable abbrev SB : Addr := 31
/-- the base class Exception and its line of classes -/
noncomputable abbrev xmro : List Value := [.ref SF, .ref SB, .type "Exception", .type "BaseException", .type "object"]
/-- what must be known of the classes that are raised -/
structure XK (K : Frag) : Prop where
  mro : ∀ S, peek K S (mroOf (.ref SF)) = some xmro
  made : ∀ S, peek K S (Bind.madeBy (.ref SF)) = some (some "Exception.__new__")
  newChk : ∀ S rest, peek K S (checkBuiltinCall "Exception.__new__" ⟨.ref SF :: rest, []⟩) = some ()
  here : ∀ S, peek K S (Bind.madeHere "BaseException.__new__" (.ref SF)) = some ()
  isT : ∀ S, peek K S (isType (.ref SF)) = some true
  subE : ∀ S, peek K S (isSubtype (.ref SF) (.type "Exception")) = some true
  subA : ∀ S, peek K S (isSubtype (.ref SF) (.type "AttributeError")) = some false
  subN : ∀ S, peek K S (isSubtype (.ref SF) (.type "NameError")) = some false
  subB : ∀ S, peek K S (isSubtype (.ref SF) (.type "BaseException")) = some true
  subT : ∀ S, peek K S (isSubtype (.ref SF) (.type "type")) = some false
  subO : ∀ S, peek K S (isSubtype (.ref SF) (.type "object")) = some true
  subS : ∀ S, peek K S (isSubtype (.ref SF) (.ref SF)) = some true
  call : ∀ S, peek K S (specialOf (.ref SF) "__call__") = some (some (.builtin "type.__call__"))
  typ : ∀ S, peek K S (isInstance (.ref SF) (.type "type")) = some true
  ofT : ∀ S, peek K S (typeOf (.ref SF)) = some (.type "type")
  init : ∀ S, peek K S (typeLookup (.ref SF) "__init__") = some (some (.ref 48))
  bind : ∀ S self, peek K S (bindSpecial (.ref 48) self) = some (.ref 48, [self])
  obj : ∃ oc od cd sl, K.lookup SF = some ⟨oc, od, .cls cd, sl⟩ ∧ cd.hasDict = true ∧ cd.hasDel = false
  set : findIn K (.ref SF) "__setattr__" = some (some (.builtin "object.__setattr__"))
  getI : findCls K (.ref SB) (.type "type") "__init__" = some (.val (.ref 28))
  getE : findCls K (.type "Exception") (.type "type") "__init__" = some (.val (.builtin "Exception.__init__"))
  readB : readsIn K SB (.type "type") = true
  gaB : specialIn K (.ref SB) "__getattribute__" = some (some (.builtin "type.__getattribute__"))
  gaE : ∀ S, peek K S (specialOf (.type "Exception") "__getattribute__") = some (some (.builtin "type.__getattribute__"))
  opE : ∀ S, peek K S (opaqueClassAbove (.type "Exception")) = some none
  ga : findIn K (.type "type") "__getattribute__" = some (some (.builtin "type.__getattribute__"))
  gsub : subIn K (.type "type") (.type "type") = some true

section
variable {prog : Program} {w : World} {A : Around} {K : Frag} {R : Result → Shared → Prop} {h : Heap} {g : Array GenState} {d : Drawn} {t : Nat} {os : OsState}
noncomputable abbrev excObj (dx : Option Addr) (a0 : Value) : Obj := { cls := .ref SF, dict := dx, data := .fields #[a0, .none, .none, .none, .bool false, .none] }

theorem new_x (Y : XK K) (X : K.In h) {rest : List Value} (hz : rest.length ≤ 10)
    (hq : R (.ok (.ret (.ref (h.objs.size + 1)))) ⟨(h.push (tupObj rest 0)).push (excObj none (.ref h.objs.size)), g, d, t, os⟩) :
    codeAny (model prog w) A (.call (.builtin "Exception.__new__") ⟨.ref SF :: rest, []⟩) R ⟨h, g, d, t, os⟩ := by
  have F := PySem.F.excBase_Exception
  have L1 : Looks (model prog w) h (checkBuiltinCall "Exception.__new__" ⟨.ref SF :: rest, []⟩) () := Looks.of_peek X (Y.newChk _ _)
  refine codeAny_call_builtin_code (Code.quiet_builtin _ F.quiet) (L1.at ?_)
  refine codeAny_builtinAt F.entry ?_
  have hends := F.ends
  have X1 : K.In (h.push (tupObj rest 0)) := X.keeps fun b o e => Heap.get?_push_of_some _ e
  have L2 : Looks (model prog w) h (isType (.ref SF)) true := Looks.of_peek X (Y.isT _)
  have L3 : Looks (model prog w) h (isSubtype (.ref SF) (.type "Exception")) true := Looks.of_peek X (Y.subE _)
  have L4 : Looks (model prog w) h (Bind.madeHere "BaseException.__new__" (.ref SF)) () := Looks.of_peek X (Y.here _)
  have L5 : Looks (model prog w) h (isSubtype (.ref SF) (.type "AttributeError")) false := Looks.of_peek X (Y.subA _)
  have L6 : Looks (model prog w) h (isSubtype (.ref SF) (.type "NameError")) false := Looks.of_peek X (Y.subN _)
  unfold Builtin.«BaseException.__new__»
  refine PySem.wpAt_bind ?_
  show PySem.wpAt _ _ _ (stack >>= _) _ _ _
  refine PySem.wpAt_bind (PySem.wpAt_stack fun p below => PySem.wpAt_of_wpAny ?_)
  wp_walk
  refine PySem.wpAt_of_wpAny ?_
  rw [F.owner]
  dsimp only
  repeat lk
  rw [if_neg (show ¬ (rest.toArray.size > sizeLine) by rw [List.size_toArray, sizeLine_eq]; exact Nat.not_lt.mpr (Nat.le_trans hz (by decide)))]
  refine xl_EEEEAA Y.obj fun oc od cd sl hC hd1 hd2 => ?_
  have hC1 := X1 _ _ hC
  have hC2 := Heap.get?_push_of_some (excObj none (.ref h.objs.size)) hC1
  unfold newObjAsIs
  repeat lk
  rw [hd2]
  refine wpAny_pure (wpAny_pure ?_)
  show R _ _
  rw [Heap.size_push]
  exact hq

/-- the class is called: the object is made, then its own __init__ runs -/
theorem make_x (Y : XK K) (X : K.In h) {rest : List Value} (hz : rest.length ≤ 10)
    (hq : codeAny (model prog w) (A.under (.builtin "type.__call__" ⟨.ref SF :: rest, []⟩)) (.call (.ref 48) ⟨.ref (h.objs.size + 1) :: rest, []⟩) (InitBack (h.objs.size + 1) R) ⟨(h.push (tupObj rest 0)).push (excObj none (.ref h.objs.size)), g, d, t, os⟩) :
    codeAny (model prog w) A (.call (.ref SF) ⟨rest, []⟩) R ⟨h, g, d, t, os⟩ := by
  refine xl_EEEEAA Y.obj fun oc od cd sl hK hd1 hd2 => ?_
  have hC := X _ _ hK
  have call : Looks (model prog w) h (specialOf (.ref SF) "__call__") (some (.builtin "type.__call__")) := Looks.of_peek X (Y.call _)
  have typ : Looks (model prog w) h (isInstance (.ref SF) (.type "type")) true := Looks.of_peek X (Y.typ _)
  have hm : Looks (model prog w) h (mroOf (.ref SF)) xmro := Looks.of_peek X (Y.mro _)
  have made : Looks (model prog w) h (Bind.madeBy (.ref SF)) (some "Exception.__new__") := Looks.of_peek X (Y.made _)
  refine codeAny_of_tree ?_
  show wpAny _ _ (callAny (.ref SF) _) _ _ _
  refine nd_load hC ?_
  show wpAny _ _ (callAny.viaDunder (.ref SF) _) _ _ _
  unfold callAny.viaDunder
  refine wpAny_bind (call.at ?_)
  dsimp only
  rw [tc_bind]
  refine wpAny_bind (wpAny_pure (wpAny_bind (wpAny_pure ?_)))
  refine wpAny_pure (a := Fin.again (.call (.builtin "type.__call__") ⟨.ref SF :: rest, []⟩)) (And.intro rfl ?_)
  refine codeAny_call_builtin_at (Code.quiet_builtin _ (by decide +kernel)) entry_typeCall (check_slot tc_kind tc_split typ (tc_args _ _ _) ?_)
  unfold Builtin.«type.__call__»
  repeat (first | with_reducible refine wpAny_call ?_ | lk)
  refine new_x Y X hz ?_
  have k : ∀ b o, h.get? b = some o → ((h.push (tupObj rest 0)).push (excObj none (.ref h.objs.size))).get? b = some o := fun b o e => Heap.get?_push_of_some _ (Heap.get?_push_of_some _ e)
  have X2 := X.keeps k
  have hx : ((h.push (tupObj rest 0)).push (excObj none (.ref h.objs.size))).get? (h.objs.size + 1) = some (excObj none (.ref h.objs.size)) := by
    rw [← Heap.size_push h (tupObj rest 0)]; exact Heap.get?_push_size _ rfl
  have t1 : Looks (model prog w) ((h.push (tupObj rest 0)).push (excObj none (.ref h.objs.size))) (typeOf (.ref (h.objs.size + 1))) (.ref SF) := (Looks.ld hx).andThen .now
  have s1 : Looks (model prog w) ((h.push (tupObj rest 0)).push (excObj none (.ref h.objs.size))) (isSubtype (.ref SF) (.ref SF)) true := Looks.of_peek X2 (Y.subS _)
  have i1 : Looks (model prog w) ((h.push (tupObj rest 0)).push (excObj none (.ref h.objs.size))) (typeLookup (.ref SF) "__init__") (some (.ref 48)) := Looks.of_peek X2 (Y.init _)
  have b1 : Looks (model prog w) ((h.push (tupObj rest 0)).push (excObj none (.ref h.objs.size))) (bindSpecial (.ref 48) (.ref (h.objs.size + 1))) (.ref 48, [.ref (h.objs.size + 1)]) := Looks.of_peek X2 (Y.bind _ _)
  unfold isInstance callSpecial? specialOf
  repeat (first | with_reducible refine wpAny_call ?_ | lk)
  refine codeAny_mono hq fun r s' z => ?_
  rcases r with e | (v | _ | _ | _) <;> first | exact z | exact z.elim | skip
  obtain ⟨rfl, z⟩ := z
  exact wpAny_pure (wpAny_pure z)
end

-- stores and reads on the object
section
variable {prog : Program} {w : World} {A : Around} {K : Frag} {E : Value → Shared → Prop} {s : Shared}

/-- a name goes into a dict of names -/
theorem store_dict {dx : Addr} {es : List DictEntry} {n : Nat} {name : Str} {tk : Tok} {v : Value} {Q : Fin → Shared → Prop} (D : s.heap.get? dx = some (dictOf es n)) (hl : (getL name es).isSome = true) (hz : (putL name (PyData.keyHash w.params name) (.str name s.toks) v es).length ≤ 1000)
    (q : ∀ h' n', Heap.SameBut dx s.heap h' → h'.get? dx = some (dictOf (putL name (PyData.keyHash w.params name) (.str name s.toks) v es) n') → Q (.done (.ret .none)) { s with heap := h', toks := s.toks + 1 }) :
    wpAny (model prog w) A (storeInDict dx (.str name tk) name v) Q E s := by
  unfold storeInDict
  refine wpAny_bind (wpAny_pure (wpAny_bind ?_))
  unfold nsSet
  refine wpAny_bind (wpAny_bind (wpAny_askSetting (wpAny_pure (wpAny_bind (wpAny_mkText (wpAny_bind (wpAny_loadPart D ?_)))))))
  have c : (!es.toArray.any (·.key.isStr name) && es.toArray.any (·.refKey)) = false := by
    rw [← Array.any_toList, ← Array.any_toList]
    unfold getL at hl
    split at hl
    · rename_i en he
      rw [List.any_eq_true.mpr ⟨en, List.mem_of_find?_eq_some he, List.find?_some he⟩]; rfl
    · split at hl
      · injection hl
      · rename_i z; rw [Bool.not_eq_true] at z; rw [z, Bool.and_false]
  dsimp only
  rw [aRefKeyMayBeTheName_at, c]
  refine wpAny_updatePart D ?_
  have e := putName_dict name (PyData.keyHash w.params name) (.str name s.toks) v es n
  have D' : (s.heap.update dx (Obj.putName name (PyData.keyHash w.params name) (.str name s.toks) v)).get? dx = some (dictOf (putL name (PyData.keyHash w.params name) (.str name s.toks) v es) (putN name es n)) := by
    rw [Heap.get?_update_self _ D (by rw [e]; rfl), e]
  refine wpAny_bind (wpAny_lookBehind D' (pastItsLine_dict (by rw [List.size_toArray, sizeLine_eq]; exact lin [_] (.v 0) (.n 16777217) [((.v 0), (.n 1000))] hz rfl)) ?_)
  exact wpAny_pure (q _ _ (Heap.SameBut.update ..) D')

theorem xset_open {e : Addr} {od : Option Addr} {name : Str} {v : Value} {Q : Unit → Shared → Prop} (Y : XK K) (X : K.In s.heap) {vs : Array Value} {sl : Array (Option Value)} (he : s.heap.get? e = some ⟨.ref SF, od, .fields vs, sl⟩) (ht : takerIn K SF name = some none)
    (h : ∀ b, wpAny (model prog w) A.in1 (storeInOwnDict (.ref e) (.ref SF) (.str name s.toks) name v b) (fun fin s' => fin = .done (.ret .none) ∧ Q () s') (fun _ _ => False) { s with toks := s.toks + 1 }) :
    wpAny (model prog w) A (setAttr (.ref e) name v) Q E s := by
  have T : Looks (model prog w) s.heap (typeOf (.ref e)) (.ref SF) := (Looks.ld he).andThen .now
  refine wpAny_bind (wpAny_mkText (wpAny_bind (wpAny_bind (wpAny_bind (T _ _ _ _ (fun _ _ e => e) (looks_findIn X Y.set _ _ _ _ (fun _ _ e => e) (wpAny_holding ?_)))))))
  rw [PySem.F.store_object.slot.bind]
  refine wpAny_bind (wpAny_pure (wpAny_bind (wpAny_call ?_)))
  have SFx := PySem.F.store_object
  have sub : Looks (model prog w) s.heap (isInstance (.ref e) (.type "object")) true := T.andThen (Looks.of_peek X (Y.subO _))
  refine codeAny_call_builtin SFx.slot.plain SFx.entry (@check_slot (model prog w) _ _ { s with toks := s.toks + 1 } "object.__setattr__" "object" "__setattr__" (.ref e) [.str name s.toks, v] [] _ SFx.kind SFx.split sub (SFx.args (.ref e) (.str name s.toks) v) ?_)
  refine xl_EA (Option.bind_eq_some_iff.mp ht) fun attr ha hr => ?_
  have L3 : Looks (model prog w) s.heap (storeTaker? attr) none := by
    induction attr with
    | none => exact .now
    | some a =>
      refine xl_EA (Option.map_eq_some_iff.mp hr) fun b hb hb' => ?_
      refine (looks_takesIn X hb).andThen ?_
      induction b with
      | false => exact .now
      | true => injection hb'
  have hm : Looks (model prog w) s.heap (mroOf (.ref SF)) xmro := Looks.of_peek X (Y.mro _)
  show wpAny _ _ (Builtin.«object.__setattr__» ⟨[.ref e, .str name s.toks, v], []⟩) _ _ _
  rw [osa_eq, refuse_eq]
  refine wpAny_bind (wpAny_bind (T _ _ _ _ (fun _ _ e => e) (wpAny_bind (hm _ _ _ _ (fun _ _ e => e) ?_))))
  have hl : refuseLoop (.ref e) "__setattr__" xmro = pure () := by
    rw [refuseLoop_ref, refuseLoop_ref]
    kernel_rfl
  rw [hl]
  refine wpAny_pure (wpAny_bind (T _ _ _ _ (fun _ _ e => e) (wpAny_bind (looks_findIn X ha _ _ _ _ (fun _ _ e => e) (wpAny_bind (L3 _ _ _ _ (fun _ _ e => e) ?_))))))
  refine wpAny_mono (h _) (fun fin s' ⟨e1, q⟩ => ?_) fun _ _ z => z.elim
  subst e1
  exact wpAny_pure (wpAny_pure q)

/-- the first name on an object -/
theorem xset_first {e : Addr} {name : Str} {v : Value} {Q : Unit → Shared → Prop} (Y : XK K) (X : K.In s.heap) {vs : Array Value} {sl : Array (Option Value)} (he : s.heap.get? e = some ⟨.ref SF, none, .fields vs, sl⟩) (ht : takerIn K SF name = some none)
    (q : ∀ h' n hs t tk, (∀ b o, b ≠ e → s.heap.get? b = some o → h'.get? b = some o) → h'.get? e = some ⟨.ref SF, some s.heap.objs.size, .fields vs, sl⟩ → h'.get? s.heap.objs.size = some (dictOf [⟨hs, .str name t, v⟩] n) → Q () { s with heap := h', toks := tk }) :
    wpAny (model prog w) A (setAttr (.ref e) name v) Q E s := by
  refine xl_EEEEAA Y.obj fun oc od cd sl' hK hd1 hd2 => ?_
  refine xset_open Y X he ht fun b => ?_
  have hC := X _ _ hK
  unfold storeInOwnDict
  refine wpAny_bind (wpAny_pure ?_)
  rw [if_neg (by decide)]
  refine wpAny_bind ?_
  show wpAny _ _ (instanceDict e true) _ _ _
  unfold instanceDict
  refine wpAny_bind (wpAny_loadPart he ?_)
  dsimp only
  unfold classData
  refine wpAny_bind (wpAny_bind (wpAny_load hC (wpAny_pure ?_)))
  rw [hd1]
  simp only [Bool.not_true, Bool.false_eq_true, if_false]
  rw [if_neg (show ¬ ((false || !typeHasDict (.ref SF)) = true) from by decide)]
  refine wpAny_bind (wpAny_alloc (wpAny_bind (wpAny_update (Heap.get?_push_of_some _ he) (wpAny_pure ?_))))
  have hlt := Heap.lt_size he
  have hne : s.heap.objs.size ≠ e := Nat.ne_of_gt hlt
  generalize hh2 : (s.heap.push { cls := .type "dict", data := .dict #[] }).update e (fun o => { cls := o.cls, dict := some s.heap.objs.size, data := o.data, slots := o.slots }) = h2
  have he2 : h2.get? e = some ⟨.ref SF, some s.heap.objs.size, .fields vs, sl⟩ := by
    rw [← hh2, Heap.get?_update_self _ (Heap.get?_push_of_some _ he) rfl]
  have hd2' : h2.get? s.heap.objs.size = some (dictOf [] 0) := by
    rw [← hh2, Heap.get?_update_other _ _ (Ne.symm hne)]
    exact Heap.get?_push_size _ rfl
  have ho2 : ∀ b o, b ≠ e → s.heap.get? b = some o → h2.get? b = some o := fun b o hb hbo => by
    rw [← hh2, Heap.get?_update_other _ _ (Ne.symm hb)]
    exact Heap.get?_push_of_some _ hbo
  refine store_dict (s := { s with heap := h2, toks := s.toks + 1 }) hd2' rfl (by show 1 ≤ 1000; decide) fun h' n' hs hd' => ?_
  refine ⟨rfl, q h' n' _ _ _ (fun b o hb hbo => (hs.2 b fun z => by rw [z, none_at] at hbo; injection hbo).trans (ho2 b o hb hbo)) ((hs.2 _ (Ne.symm hne)).trans he2) hd'⟩
/-- a further name on an object -/
theorem xset_more {e dx : Addr} {name : Str} {v : Value} {Q : Unit → Shared → Prop} (Y : XK K) (X : K.In s.heap) {vs : Array Value} {sl : Array (Option Value)} {es : List DictEntry} {n : Nat} (he : s.heap.get? e = some ⟨.ref SF, some dx, .fields vs, sl⟩) (hdx : s.heap.get? dx = some (dictOf es n)) (ht : takerIn K SF name = some none)
    (hl : (getL name es).isSome = true) (hz : ∀ hs t, (putL name hs (.str name t) v es).length ≤ 1000)
    (q : ∀ h' n hs t tk, Heap.SameBut dx s.heap h' → h'.get? dx = some (dictOf (putL name hs (.str name t) v es) n) → Q () { s with heap := h', toks := tk }) :
    wpAny (model prog w) A (setAttr (.ref e) name v) Q E s := by
  refine xl_EEEEAA Y.obj fun oc od cd sl' hK hd1 hd2 => ?_
  refine xset_open Y X he ht fun b => ?_
  have hC := X _ _ hK
  unfold storeInOwnDict
  refine wpAny_bind (wpAny_pure ?_)
  rw [if_neg (by decide)]
  refine wpAny_bind ?_
  show wpAny _ _ (instanceDict e true) _ _ _
  unfold instanceDict
  refine wpAny_bind (wpAny_loadPart he ?_)
  dsimp only
  unfold classData
  refine wpAny_bind (wpAny_bind (wpAny_load hC (wpAny_pure ?_)))
  rw [hd1]
  simp only [Bool.not_true, Bool.false_eq_true, if_false]
  refine wpAny_pure ?_
  refine store_dict (s := { s with toks := s.toks + 1 }) hdx hl (hz _ _) fun h' n' hs hd' => ⟨rfl, q h' n' _ _ _ hs hd'⟩

/-- the built-in __init__ -/
theorem xinit {e : Addr} {od : Option Addr} {word : Value} {Q : Value → Shared → Prop} (Y : XK K) (X : K.In s.heap) {vs : Array Value} {sl : Array (Option Value)} {v0 : Value} (he : s.heap.get? e = some ⟨.ref SF, od, .fields vs, sl⟩) (h0 : vs[0]? = some v0)
    (q : ∀ h' x, (∀ b o, b ≠ e → s.heap.get? b = some o → h'.get? b = some o) → h'.get? e = some ⟨.ref SF, od, .fields (vs.setIfInBounds 0 x), sl⟩ → Q .none { s with heap := h' }) :
    wpAny (model prog w) A (call (.builtin "Exception.__init__") [.ref e, word]) Q E s := by
  have F := PySem.F.excBase_Exception
  obtain ⟨hh, g, d, tk, os⟩ := s
  have sub : Looks (model prog w) hh (isInstance (.ref e) (.type "Exception")) true := ((Looks.ld he).andThen .now).andThen (Looks.of_peek X (Y.subE _))
  refine xl_EEEEAA Y.obj fun oc odc cd slc hK _ _ => ?_
  have hC : hh.get? SF = some ⟨oc, odc, .cls cd, slc⟩ := X _ _ hK
  have hchk : ∀ {Q : Unit → Shared → Prop} {E : Value → Shared → Prop} {A : Around}, Q () ⟨hh, g, d, tk, os⟩ → wpAny (model prog w) A (checkBuiltinCall "Exception.__init__" ⟨[.ref e, word], []⟩) Q E ⟨hh, g, d, tk, os⟩ := fun {Q E A} q => by
    simp only [checkBuiltinCall, F.initKind, F.initSplit, F.initRow]
    have hshort := F.noStar
    repeat (first | assumption | lk)
  refine wpAny_call (codeAny_call_builtin F.init.plain F.initEntry (hchk ?_))
  unfold Builtin.«BaseException.__init__»
  show wpAny _ _ (newTuple [word] >>= _) _ _ _
  refine wpAny_bind (wpAny_newTuple ?_)
  have hne : hh.objs.size ≠ e := Nat.ne_of_gt (Heap.lt_size he)
  have he1 : (hh.push { cls := .type "tuple", data := .seq #[word] }).get? e = some ⟨.ref SF, od, .fields vs, sl⟩ := Heap.get?_push_of_some _ he
  unfold Builtin.BaseException.bexcPut
  refine wpAny_bind (wpAny_bind (wpAny_field he1 rfl h0 (wpAny_bind (wpAny_setField he1 rfl (by
    have := (Array.getElem?_eq_some_iff.mp h0).1; exact this) ?_))))
  have fin : ∀ (E' : Value → Shared → Prop), wpAny (model prog w) A.in1 (ret Value.none) (fun fin s' =>
      match fin with
      | Fin.done f =>
        match (Except.ok f : Result) with
        | Except.ok (Flow.ret v) => Q v s'
        | Except.ok a => False
        | Except.error e => E e s'
      | Fin.again c' =>
        c'.quiet = true ∧
          codeAny (model prog w) A c'
            (fun r s' =>
              match r with
              | Except.ok (Flow.ret v) => Q v s'
              | Except.ok a => False
              | Except.error e => E e s')
            s') E' ⟨(hh.push { cls := .type "tuple", data := .seq #[word] }).update e (Obj.mapFields (·.setIfInBounds 0 (.ref hh.objs.size))), g, d, tk, os⟩ := fun E' =>
    wpAny_pure (q _ (.ref hh.objs.size) (fun b o hb hbo => (Heap.get?_update_other _ _ (Ne.symm hb)).trans (Heap.get?_push_of_some _ hbo)) (by rw [Heap.get?_update_self _ he1 rfl]; rfl))
  cases v0 <;> first | exact wpAny_pure (fin _) | exact wpAny_letGo (fin _)
end
end Mine
end

section
open PySem PySem.W PySem.Calls PyProof.Rows Builtin.ObjectAttr
namespace Mine

/-- a def of the text: what is asked of its record -/
structure DefOk (K : Frag) (fa : Addr) (fd : FuncData) : Prop where
  look : ∃ oc od osl, K.lookup fa = some ⟨oc, od, .func fd, osl⟩
  code : codeIn K fd.code fd.qualname = true
  glob : fd.globals = mainGlobals
  clos : fd.closure = []
  bins : fd.builtins = builtinsNs
  cell : ∀ x ∈ fd.scope.names, x.2 ≠ .cell
  co : fd.scope.isCoroutine = false
  gen : fd.scope.isGenerator = false
  kind : fd.scope.kind = .function
/-- a call of a method is one row -/
noncomputable def OneRow (o : Expr) (name : Str) (ap : Pos) (args : List Expr) (p : Pos) : Prop := ∃ pl : Env → Sem Bool, ∀ env, eval (.Call (.Attribute o name ap) args [] p) env = (do
      let ov ← eval o env
      standAt ap.atName
      let (f, first) ← holding [ov] (getMethod ov name (pl env))
      callWith p f first (backTo p (starEach args env)) [])
/-- the two __init__ of the classes that are raised -/
structure Init28 (K : Frag) (fd : FuncData) : Prop extends DefOk K 28 fd where
  body : ∃ p1 p2 p3 p4 p5 p6 p7 p8 p9 p10, fd.body = .stmts [.Expr (.Call (.Attribute (.Name "Exception" p1) "__init__" p2) [.Name "self" p3, .Name "word" p4] [] p5) p6, .Assign [.Attribute (.Name "self" p7) "word" p8] (.Name "word" p9) p10] ∧ OneRow (.Name "Exception" p1) "__init__" p2 [.Name "self" p3, .Name "word" p4] p5
  bind : ∀ a b, bindArgs fd ⟨[a, b], []⟩ = pure [(("self" : Str), a), (("word" : Str), b)]
  n1 : fd.scope.names.lookup ("self" : Str) = some .local
  n2 : fd.scope.names.lookup ("word" : Str) = some .local
  n3 : fd.scope.names.lookup ("Exception" : Str) = some .globalImplicit
structure Init48 (K : Frag) (fd : FuncData) : Prop extends DefOk K 48 fd where
  body : ∃ p1 p2 p3 p4 p5 p6 p7 p8 p9 p10, fd.body = .stmts [.Expr (.Call (.Attribute (.Name "SwiftFault" p1) "__init__" p2) [.Name "self" p3, .Name "word" p4] [] p5) p6, .Assign [.Attribute (.Name "self" p7) "line" p8] (.Name "line" p9) p10] ∧ OneRow (.Name "SwiftFault" p1) "__init__" p2 [.Name "self" p3, .Name "word" p4] p5
  bind : ∀ a b c, bindArgs fd ⟨[a, b, c], []⟩ = pure [(("self" : Str), a), (("word" : Str), b), (("line" : Str), c)]
  n1 : fd.scope.names.lookup ("self" : Str) = some .local
  n2 : fd.scope.names.lookup ("word" : Str) = some .local
  n3 : fd.scope.names.lookup ("SwiftFault" : Str) = some .globalImplicit
  n4 : fd.scope.names.lookup ("line" : Str) = some .local
/-- all that is asked of the text for a fault to be raised -/
structure RK (K : Frag) : Prop extends XK K where
  i28 : ∃ fd, Init28 K fd
  i48 : ∃ fd, Init48 K fd
  tw : takerIn K SF "word" = some none
  tl : takerIn K SF "line" = some none
  gS : nsIn K mainGlobals "SwiftFault" = some (some (.ref SB))
  gE : nsIn K mainGlobals "Exception" = some none
  gF : nsIn K mainGlobals "SourceFault" = some (some (.ref SF))
  keepS : keepIn K (.ref SF) = true
  keep28 : keepIn K (.ref 28) = true

section
variable {c : Cx} {A : Around} {E : Value → Shared → Prop} {R : Result → Shared → Prop} {s : Shared}

theorem getM_B {Q : Value × List Value → Shared → Prop} {pl : Sem Bool} (Y : RK c.K) (X : c.K.In s.heap) (q : ∀ t, Q (.ref 28, []) { s with toks := t }) : wpAny (model c.prog c.w) A (getMethod (.ref SB) "__init__" pl) Q E s :=
  method_cls X Y.gaB (cls_value X Y.readB Y.getI rfl (q _))
theorem getM_E {Q : Value × List Value → Shared → Prop} {pl : Sem Bool} (Y : RK c.K) (X : c.K.In s.heap) (q : ∀ t, Q (.builtin "Exception.__init__", []) { s with toks := t }) : wpAny (model c.prog c.w) A (getMethod (.type "Exception") "__init__" pl) Q E s := by
  unfold getMethod
  have L : Looks (model c.prog c.w) s.heap (specialOf (.type "Exception") "__getattribute__") (some (.builtin "type.__getattribute__")) := Looks.of_peek X (Y.gaE _)
  refine wpAny_bind (L.here ?_)
  dsimp only
  rw [if_pos canon_tga]
  refine wpAny_bind ?_
  have tyE : typeOf (.type "Exception") = pure (.type "type") := by kernel_rfl
  refine cls_open (mc := .type "type") (hook := none) X (Looks.of_peek X (Y.opE _)) (Looks.of_pure tyE) Y.ga ?_ Y.gsub Y.getE (wpAny_pure ?_)
  · unfold hookBefore; exact .now
  · show wpAny _ _ (handedOut (.builtin "Exception.__init__")) _ _ _
    rw [handedOut_of (by kernel_rfl)]
    exact wpAny_pure (wpAny_pure (q _))

/-- the inner __init__: word -/
theorem run28 (Y : RK c.K) (ok : c.Ok) (hB : ∀ b o, c.B.get? b = some o → s.heap.get? b = some o) (room : A.depth < recursionLimit) {e : Addr} {word : Value} {vs : Array Value} {sl : Array (Option Value)} (he : s.heap.get? e = some ⟨.ref SF, none, .fields vs, sl⟩) (heB : c.B.get? e = none) (h6 : vs.size = 6)
    (q : ∀ h' dx hs t n x tk, (∀ b o, b ≠ e → s.heap.get? b = some o → h'.get? b = some o) → s.heap.get? dx = none → h'.get? e = some ⟨.ref SF, some dx, .fields (vs.setIfInBounds 0 x), sl⟩ → h'.get? dx = some (dictOf [⟨hs, .str "word" t, word⟩] n) → R (.ok (.ret .none)) { s with heap := h', toks := tk }) :
    codeAny (model c.prog c.w) A (.call (.ref 28) ⟨[.ref e, word], []⟩) R s := by
  obtain ⟨fd, F⟩ := Y.i28
  refine xl_EEE F.look fun oc od osl hK => ?_
  refine xl_EEEEEEEEEEAE F.body fun p1 p2 p3 p4 p5 p6 p7 p8 p9 p10 hbody pl hcall => ?_
  have X : c.K.In s.heap := ok.kin.keeps hB
  have hlim : s.heap.NoLimit := ok.top.nolimit.keeps hB
  refine codeAny_call_def room (X _ _ hK) rfl hlim (codeRec_of X F.code) hbody (.of_eq (F.bind _ _)) F.cell (fun x hx => ?_) (fun h₀ hn hkp => ?_) F.co F.gen F.kind
  · rcases List.mem_cons.mp hx with rfl | hx
    · exact F.n1
    · rw [List.mem_singleton.mp hx]; exact F.n2
  have hB0 : ∀ b o, c.B.get? b = some o → h₀.get? b = some o := fun b o z => hkp b o (hB b o z)
  have he0 := hkp e _ he
  have hLe : s.heap.objs.size ≠ e := Nat.ne_of_gt (Heap.lt_size he)
  have env1 : (callEnv fd s.heap.objs.size 28).scope.kind = .function := F.kind
  have eg : (callEnv fd s.heap.objs.size 28).globals = mainGlobals := F.glob
  have eb : (callEnv fd s.heap.objs.size 28).builtins = builtinsNs := F.bins
  refine wpAny_execs_cons (wpAny_Expr_any ?_ (by unfold interactive; rw [env1]; rfl) rfl)
  refine MethodCall_ (Name_function_global env1 F.n3 (loadGlobal_builtin (mg := c.mg) (mb := c.mb) (by rw [eg]; exact ok.top.g.keeps hB0) (mg_none_of ok.kin ok.top.g Y.gE) (by rw [eb]; exact ok.top.b.keeps hB0) (v := .type "Exception") ((ok.top.builtins "Exception" (by decide)).trans rfl) ?_)) (hcall _)
  refine getM_E Y (ok.kin.keeps hB0) fun t => ?_
  refine callWith_of (P := fun h => ∀ b o, c.B.get? b = some o → h.get? b = some o) rfl (fun h _ => ⟨.machine, .inr (.inl rfl), Looks.of_pure rfl⟩) (evalArgs_plain ?_)
  refine args_cons (wpAny_Name (wpAny_loadName_local env1 F.n1 hn (v := .ref e) rfl ?_) (by decide)) rfl
  refine args_cons (wpAny_Name (wpAny_loadName_local env1 F.n2 hn (v := word) rfl ?_) (by decide)) rfl
  refine args_nil ⟨hB0, ?_⟩
  refine xinit Y.toXK (ok.kin.keeps hB0) he0 (Array.getElem?_eq_getElem (by exact lin [_] (.a (.n 0) (.n 1)) (.v 0) [((.n 6), (.v 0))] (Nat.le_of_eq (Eq.symm h6)) rfl)) fun h₁ x hk₁ he₁ => ?_
  have hne : ∀ b o, c.B.get? b = some o → b ≠ e := fun b o z w => by rw [w, heB] at z; injection z
  have hB1 : ∀ b o, c.B.get? b = some o → h₁.get? b = some o := fun b o z => hk₁ b o (hne b o z) (hB0 b o z)
  have hn1 : h₁.Ns s.heap.objs.size (fun y => ([(("self" : Str), Value.ref e), (("word" : Str), word)] : List (Str × Value)).reverse.lookup y) := by
    refine xl_EEEA hn fun o es ep g1 g2 => ?_; try clear hn; exact ⟨o, es, ep, hk₁ _ _ hLe g1, g2⟩
  refine wpAny_execs_cons (wpAny_Assign_stores (wpAny_Name (wpAny_loadName_local env1 F.n2 hn1 (v := word) rfl ?_) (by decide)) rfl rfl)
  show wpAny _ _ (assignAll word [assign _ _]) _ _ _
  refine wpAny_bind ?_
  refine wpAny_holding (wpAny_Name (wpAny_loadName_local env1 F.n1 hn1 (v := .ref e) rfl ?_) (by decide))
  refine wpAny_bind (wpAny_standAt (wpAny_bind (wpAny_holding ?_)))
  refine xset_first Y.toXK (ok.kin.keeps hB1) he₁ Y.tw fun h₂ n hs t' tk hk₂ he₂ hd₂ => ?_
  refine wpAny_release (wpAny_execs_nil (q h₂ _ hs t' n x tk (fun b o hb hbo => hk₂ b o hb (hk₁ b o hb (hkp b o hbo))) ?_ he₂ hd₂))
  cases z : s.heap.get? h₁.objs.size with
  | none => rfl
  | some o =>
    by_cases w : h₁.objs.size = e
    · rw [w] at z; exact absurd (Heap.lt_size he₁) (by rw [w]; exact Nat.lt_irrefl _)
    · have := hk₁ _ o w (hkp _ o z)
      rw [none_at] at this; injection this

/-- the outer __init__: word, line -/
theorem run48 (Y : RK c.K) (ok : c.Ok) (hB : ∀ b o, c.B.get? b = some o → s.heap.get? b = some o) (room : A.depth + 1 < recursionLimit) {e : Addr} {word line : Value} {vs : Array Value} {sl : Array (Option Value)} (he : s.heap.get? e = some ⟨.ref SF, none, .fields vs, sl⟩) (heB : c.B.get? e = none) (h6 : vs.size = 6)
    (q : ∀ h' dx es n x tk, (∀ b o, b ≠ e → s.heap.get? b = some o → h'.get? b = some o) → s.heap.get? dx = none → h'.get? e = some ⟨.ref SF, some dx, .fields (vs.setIfInBounds 0 x), sl⟩ → h'.get? dx = some (dictOf es n) → getL "line" es = some (some line) → R (.ok (.ret .none)) { s with heap := h', toks := tk }) :
    codeAny (model c.prog c.w) A (.call (.ref 48) ⟨[.ref e, word, line], []⟩) R s := by
  obtain ⟨fd, F⟩ := Y.i48
  refine xl_EEE F.look fun oc od osl hK => ?_
  refine xl_EEEEEEEEEEAE F.body fun p1 p2 p3 p4 p5 p6 p7 p8 p9 p10 hbody pl hcall => ?_
  have X : c.K.In s.heap := ok.kin.keeps hB
  have hlim : s.heap.NoLimit := ok.top.nolimit.keeps hB
  refine codeAny_call_def (by exact lin [_] (.a (.v 0) (.n 1)) (.n 1000) [((.a (.a (.v 0) (.n 1)) (.n 1)), (.n 1000))] room rfl) (X _ _ hK) rfl hlim (codeRec_of X F.code) hbody (.of_eq (F.bind _ _ _)) F.cell (fun x hx => ?_) (fun h₀ hn hkp => ?_) F.co F.gen F.kind
  · rcases List.mem_cons.mp hx with rfl | hx
    · exact F.n1
    · rcases List.mem_cons.mp hx with rfl | hx
      · exact F.n2
      · rw [List.mem_singleton.mp hx]; exact F.n4
  have hB0 : ∀ b o, c.B.get? b = some o → h₀.get? b = some o := fun b o z => hkp b o (hB b o z)
  have he0 := hkp e _ he
  have hLe : s.heap.objs.size ≠ e := Nat.ne_of_gt (Heap.lt_size he)
  have env1 : (callEnv fd s.heap.objs.size 48).scope.kind = .function := F.kind
  have eg : (callEnv fd s.heap.objs.size 48).globals = mainGlobals := F.glob
  refine wpAny_execs_cons (wpAny_Expr_any ?_ (by unfold interactive; rw [env1]; rfl) rfl)
  refine MethodCall_ (Name_function_global env1 F.n3 (loadGlobal_global (mg := c.mg) (by rw [eg]; exact ok.top.g.keeps hB0) (mg_of ok.kin ok.top.g Y.gS) ?_)) (hcall _)
  refine getM_B Y (ok.kin.keeps hB0) fun t => ?_
  refine callWith_of (P := fun h => ∀ b o, c.B.get? b = some o → h.get? b = some o) rfl (fun h hh => keep_looks (fv := .ref 28) Y.keep28 (VIs.ref (h := fun _ => none) 28) (ok.kin.keeps hh)) (evalArgs_plain ?_)
  refine args_cons (wpAny_Name (wpAny_loadName_local env1 F.n1 hn (v := .ref e) rfl ?_) (by decide)) rfl
  refine args_cons (wpAny_Name (wpAny_loadName_local env1 F.n2 hn (v := word) rfl ?_) (by decide)) rfl
  refine args_nil ⟨hB0, wpAny_call ?_⟩
  refine run28 Y ok hB0 (by show A.depth + 1 < _; exact room) he0 heB h6 fun h₁ dx hs t n x tk hk₁ hdx he₁ hd₁ => ?_
  have hne : ∀ b o, c.B.get? b = some o → b ≠ e := fun b o z w => by rw [w, heB] at z; injection z
  have hB1 : ∀ b o, c.B.get? b = some o → h₁.get? b = some o := fun b o z => hk₁ b o (hne b o z) (hB0 b o z)
  have hn1 : h₁.Ns s.heap.objs.size (fun y => ([(("self" : Str), Value.ref e), (("word" : Str), word), (("line" : Str), line)] : List (Str × Value)).reverse.lookup y) := by
    refine xl_EEEA hn fun o es ep g1 g2 => ?_; try clear hn; exact ⟨o, es, ep, hk₁ _ _ hLe g1, g2⟩
  refine wpAny_execs_cons (wpAny_Assign_stores (wpAny_Name (wpAny_loadName_local env1 F.n4 hn1 (v := line) rfl ?_) (by decide)) rfl rfl)
  show wpAny _ _ (assignAll line [assign _ _]) _ _ _
  refine wpAny_bind ?_
  refine wpAny_holding (wpAny_Name (wpAny_loadName_local env1 F.n1 hn1 (v := .ref e) rfl ?_) (by decide))
  refine wpAny_bind (wpAny_standAt (wpAny_bind (wpAny_holding ?_)))
  refine xset_more Y.toXK (ok.kin.keeps hB1) he₁ hd₁ Y.tl rfl (fun hs t => ?_) fun h₂ n2 hs2 t2 tk2 hs₂ hd₂ => ?_
  · show (putL "line" hs (.str "line" t) line [_]).length ≤ 1000
    unfold putL
    rw [if_neg (show ¬ (Value.str "word" _).isStr "line" = true by rw [isStr_str]; decide)]
    unfold putL
    show 2 ≤ 1000
    decide
  have hdx0 : s.heap.get? dx = none := by
    cases z : s.heap.get? dx with
    | none => rfl
    | some o => have := hkp _ o z; rw [hdx] at this; injection this
  have hed : e ≠ dx := fun z => by rw [← z, he] at hdx0; injection hdx0
  refine wpAny_release (wpAny_execs_nil (q h₂ dx _ n2 x tk2 (fun b o hb hbo => (hs₂.2 b fun z => by rw [z, hdx0] at hbo; injection hbo).trans (hk₁ b o hb (hkp b o hbo))) hdx0 ((hs₂.2 e hed).trans he₁) hd₂ ?_))
  unfold putL
  rw [if_neg (show ¬ (Value.str "word" _).isStr "line" = true by rw [isStr_str]; decide)]
  unfold putL getL
  rw [List.find?_cons, show Value.isStr (.str "word" t) "line" = false from by rw [isStr_str]; decide]
  rw [List.find?_cons, show Value.isStr (.str "line" t2) "line" = true from by rw [isStr_str]; decide]
end

section
variable {c : Cx} {sc : Scope} {b : Nat} {σ : St} {X : Int → St → Prop} {f : Frm} {s : Shared} {N : Ledger}

/-- a fault is made -/
theorem make_fault (Y : RK c.K) (hf : FOk c sc b f) (R : Rp c f s σ N) {word line : Value} {Q : Value → Shared → Prop} {E : Value → Shared → Prop}
    (q : ∀ h' e dx es n a0 tk, (∀ b o, s.heap.get? b = some o → h'.get? b = some o) → s.heap.get? e = none → s.heap.get? dx = none → h'.get? e = some (excObj (some dx) a0) → h'.get? dx = some (dictOf es n) → getL "line" es = some (some line) → Q (.ref e) { s with heap := h', toks := tk }) :
    wpAny (model c.prog c.w) f.A (call (.ref SF) [word, line]) Q E s := by
  have rm := hf.room
  obtain ⟨hh, g, d, t, os⟩ := s
  have hn0 : hh.get? hh.objs.size = none := none_at _
  have hn1 : hh.get? (hh.objs.size + 1) = none := Heap.get?_none_of_le (Nat.le_succ _)
  refine wpAny_call (make_x Y.toXK (R.kin hf.ok) (by simp) ?_)
  have k : ∀ b o, hh.get? b = some o → ((hh.push (tupObj [word, line] 0)).push (excObj none (.ref hh.objs.size))).get? b = some o := fun b o e => Heap.get?_push_of_some _ (Heap.get?_push_of_some _ e)
  have hx : ((hh.push (tupObj [word, line] 0)).push (excObj none (.ref hh.objs.size))).get? (hh.objs.size + 1) = some (excObj none (.ref hh.objs.size)) := by
    rw [← Heap.size_push hh (tupObj [word, line] 0)]; exact Heap.get?_push_size _ rfl
  refine run48 (R := InitBack (hh.objs.size + 1) _) Y hf.ok (fun b o z => k b o (R.stays b o z)) (by show f.A.depth + 1 + 1 < _; exact lin [_, _] (.a (.a (.a (.v 0) (.n 1)) (.n 1)) (.n 1)) (.n 1000) [((.a (.a (.a (.v 0) (.m 4 (.v 1))) (.n 8)) (.n 1)), (.n 1000))] rm rfl) hx (R.base_lt hn1) rfl fun h' dx es n x tk hk hdx he hd hl => ?_
  have hdx0 : hh.get? dx = none := by
    cases z : hh.get? dx with
    | none => rfl
    | some o => have := k _ o z; rw [hdx] at this; injection this
  exact ⟨rfl, q h' (hh.objs.size + 1) dx es n x tk (fun b o hb => hk b o (fun z => by rw [z, hn1] at hb; injection hb) (k b o hb)) hn1 hdx0 he hd hl⟩

/-- arguments, then a call that is looked into -/
theorem call_any {fn : Expr} {args : List Expr} {p : Pos} {fv : AV} {Q : List AV → St → Prop} {Q' : Value → Shared → Prop} (k : keepV c.K fv = true) (hf : FOk c sc b f) (R : Rp c f s σ N) (hst : NoStar p args) (h : AE c sc b fn σ (fun a σ₁ => a = fv ∧ AEs c sc b p args σ₁ Q X) X)
    (he : ∀ env, eval (.Call fn args [] p) env = (do callWith p (← eval fn env) [] (backTo p (starEach args env)) (backToKw p (keywordEach [] env))))
    (fin : ∀ s₂ σ₂ N₂ v as vs, Step f.env.locals s N s₂ N₂ → Rp c f s₂ σ₂ N₂ → VIs (N₂.see s₂.heap) fv v → VsIs (N₂.see s₂.heap) as vs → Q as σ₂ → wpAny (model c.prog c.w) f.A (call v vs) Q' (PX c f s N X) s₂) :
    wpAny (model c.prog c.w) f.A (eval (.Call fn args [] p) f.env) Q' (PX c f s N X) s :=
  Call_ (h.then_ hf R fun v a s₁ σ₁ N₁ st R₁ hv zz => by
    have hv : VIs (N₁.see s₁.heap) fv v := zz.1 ▸ hv
    have h' := zz.2
    have tail : wpAny (model c.prog c.w) f.A (spliced (backTo p (starEach args f.env))) (fun ws s₂ => c.K.In s₂.heap ∧ wpAny (model c.prog c.w) f.A (call v ws) Q' (PX c f s N X) s₂) (PX c f s N X) s₁ :=
      wpAny_mono (h' f s₁ N₁ hf R₁) (fun ws s₂ zz => xl_EEAAEA zz fun σ₂ N₂ st₂ R₂ as g1 g2 => ⟨R₂.kin hf.ok, fin s₂ σ₂ N₂ v as ws (st.trans st₂) R₂ (hv.mono st₂.tup) g1 g2⟩) fun _ _ z => z.trans st
    refine xl_EEA hst fun e r zr1 he' => ?_; try clear hst; subst zr1
    rw [(he' f.env).1] at tail ⊢
    exact callWith_of (P := fun h => c.K.In h) (by show ((false || (backTo p (starEach r f.env)).any (·.1)) || false) = false; rw [(he' f.env).2]; rfl) (fun h X => keep_looks k hv X) (evalArgs_plain tail)) (he _)

/-- raise SourceFault(word, line) -/
theorem a1_raise (Y : RK c.K) {ew el : Expr} {p1 p2 p : Pos} {Q : AFl → St → Prop} (h : AEs c sc b p2 [ew, el] σ (fun as σ₁ => ∃ w l, as = [.str w, .int l] ∧ X l σ₁) X)
    (hl : sc.names.lookup ("SourceFault" : Str) = some .globalImplicit := by rfl) (hst : NoStar p2 [ew, el] := by exact NoStar.cons fun _ => ⟨rfl, rfl⟩)
    (he : ∀ env, eval (.Call (.Name "SourceFault" p1) [ew, el] [] p2) env = (do callWith p2 (← eval (.Name "SourceFault" p1) env) [] (backTo p2 (starEach [ew, el] env)) (backToKw p2 (keywordEach [] env))) := by intro _; rfl) :
    A1 c sc b (.Raise (some (.Call (.Name "SourceFault" p1) [ew, el] [] p2)) none p) σ Q X := fun f s N hf own R => by
  rw [arm_exec_Raise]
  dsimp only [Option.map]
  refine wpAny_bind (wpAny_standAt ?_)
  unfold raiseStmt
  refine wpAny_bind (wpAny_bind ?_)
  have hfn : AE c sc b (.Name "SourceFault" p1) σ (fun a σ₁ => a = .ref SF ∧ AEs c sc b p2 [ew, el] σ₁ (fun as σ₁ => ∃ w l, as = [.str w, .int l] ∧ X l σ₁) X) X :=
    ae_global Y.gF (.ref SF) ⟨rfl, h⟩ hl
  refine call_any (fv := .ref SF) Y.keepS hf R hst hfn he fun s₂ σ₂ N₂ v as vs st R₂ hv hvs zf2 => xl_EEA zf2 fun w l e1 hX => ?_
  refine hv.at ?_
  refine hvs.go_eq e1 fun tw tl => ?_
  refine wpAny_tk (make_fault Y hf R₂ fun h' e dx es n a0 tk hk he0 hdx he hd hline ht => ?_)
  obtain ⟨hh, g, d, t, os⟩ := s₂
  have R₃ := R₂.keeps (t := tk) hk ht
  have st₃ : Step f.env.locals _ _ _ _ := st.trans (.of_keeps (t := tk) hk)
  have XX : c.K.In h' := R₃.kin hf.ok
  have T : Looks (model c.prog c.w) h' (typeOf (.ref e)) (.ref SF) := (Looks.ld he).andThen .now
  have L1 : Looks (model c.prog c.w) h' (isSubtype (.ref SF) (.type "type")) false := Looks.of_peek XX (Y.subT _)
  have L2 : Looks (model c.prog c.w) h' (isSubtype (.ref SF) (.type "BaseException")) true := Looks.of_peek XX (Y.subB _)
  have L3 : Looks (model c.prog c.w) h' (typeOf (.ref SF)) (.type "type") := Looks.of_peek XX (Y.ofT _)
  have L4 : Looks (model c.prog c.w) h' (isType (.ref e)) false := (Looks.ld he).andThen .now
  have L5 : Looks (model c.prog c.w) h' (isInstance (.ref e) (.type "BaseException")) true := by
    unfold isInstance
    exact T.andThen L2
  refine wpAny_bind (wpAny_standAt (wpAny_pure ?_))
  refine wpAny_bind (wpAny_pure (wpAny_bind (wpAny_holding ?_)))
  unfold excFromValue isExcClass
  repeat lk
  refine wpAny_handled ?_
  rw [hf.handled]
  refine wpAny_throw ?_
  exact ⟨e, σ₂, N₂, l, rfl, st₃, R₃, ⟨st.fresh he0, R₂.N_of_none he0, dx, #[], _, es, n, tl, he, hd, hline, R₂.N_of_none hdx, st.fresh hdx, rfl, .inl ⟨rfl, rfl⟩⟩, hX⟩
end
end Mine
end

section
open PySem PySem.W PySem.Calls PyProof.Rows Builtin.ObjectAttr
namespace Mine

/-- all that is asked of the text for a fault to be caught -/
structure TK (K : Frag) : Prop extends RK K where
  gaX : findIn K (.ref SF) "__getattribute__" = some (some (.builtin "BaseException.__getattribute__"))
  gtX : findIn K (.ref SF) "__getattr__" = some none
  line : findIn K (.ref SF) "line" = some none
  hasD : hasDictIn K SF = true
  notTup : ∀ S, peek K S (isInstance (.ref SF) (.type "tuple")) = some false

theorem bexc_bind : ∀ S (self : Value), peek [] S (bindSpecial (.builtin "BaseException.__getattribute__") self) = some (.builtin "BaseException.__getattribute__", [self]) := fun S self => by kernel_rfl
theorem bexc_plain : plainId "BaseException.__getattribute__" = true := by decide +kernel

section
variable {prog : Program} {w : World} {A : Around} {K : Frag} {E : Value → Shared → Prop} {s : Shared}
/-- a name is read off the object -/
theorem xget {e dx : Addr} {name : Str} {v : Value} {expr : Bool} {Q : Value → Shared → Prop} (Y : TK K) (X : K.In s.heap) {vs : Array Value} {sl : Array (Option Value)} {es : List DictEntry} {n : Nat} (he : s.heap.get? e = some ⟨.ref SF, some dx, .fields vs, sl⟩) (hdx : s.heap.get? dx = some (dictOf es n))
    (hn : findIn K (.ref SF) name = some none) (hl : getL name es = some (some v)) (hh : handedIn v = true) (q : Q v { s with toks := s.toks + 1 }) : wpAny (model prog w) A (getAttr (.ref e) name expr) Q E s := by
  have I : InstAt s.heap e ⟨.ref SF, some dx, .fields vs, sl⟩ SF (some (dictOf es n)) := ⟨he, rfl, rfl, hdx⟩
  have hf : findObj K SF (some (dictOf es n)) name = some (.value v) := findObj_own Y.hasD hn rfl hl
  obtain ⟨hp, g, d, t, os⟩ := s
  have L0 := I.type (M := model prog w)
  have L1 := looks_findIn (M := model prog w) X Y.gaX
  have L2 := looks_find (M := model prog w) X I hf
  have L3 := looks_findIn (M := model prog w) X Y.gtX
  have L4 : Looks (model prog w) hp (isInstance (.ref e) (.type "BaseException")) true := L0.andThen (Looks.of_peek X (Y.subB _))
  have L5 : Looks (model prog w) hp (bindSpecial (.builtin "BaseException.__getattribute__") (.ref e)) (.builtin "BaseException.__getattribute__", [.ref e]) := (Looks.of_peek (K := []) (h := hp) (fun a o z => by injection z) (bexc_bind _ _))
  have L6 : Looks (model prog w) hp (hookBefore (.ref SF)) none := by unfold hookBefore; rw [if_pos (by decide)]; exact L3
  unfold getAttr getAttrBy
  refine wpAny_bind (wpAny_mkText (wpAny_holding (wpAny_bind (L0.at (wpAny_bind (L1.at ?_))))))
  dsimp only
  rw [show (onTheHeap (.ref SF) && Value.builtin "BaseException.__getattribute__" == Value.builtin "object.__getattribute__") = false from by
    rw [show (Value.builtin "BaseException.__getattribute__" == Value.builtin "object.__getattribute__") = false from by decide +kernel, Bool.and_false], if_neg (by decide)]
  unfold getAttrByItsOwn
  refine wpAny_bind (L6.at (wpAny_bind (wpAny_attempt (wpAny_holding ?_))))
  unfold callGetattribute
  rw [show (expr && onTheHeap (Value.builtin "BaseException.__getattribute__")) = false from Bool.and_false _, if_neg (by decide)]
  unfold boundAndCalled
  refine wpAny_bind (L5.at ?_)
  show wpAny _ _ (call (.builtin "BaseException.__getattribute__") [.ref e, .str name t]) _ _ _
  refine wpAny_call ?_
  refine codeAny_call_builtin bexc_plain F.entry_bexc_ga ?_
  refine @check_slot (model prog w) _ _ ⟨hp, g, d, t + 1, os⟩ "BaseException.__getattribute__" "BaseException" "__getattribute__" (.ref e) [.str name t] [] _ (by decide +kernel) (by decide +kernel) L4 (F.args_bexc_ga (.ref e) (.str name t)) ?_
  unfold Builtin.«object.__getattribute__»
  refine wpAny_bind (wpAny_pure (wpAny_bind (wpAny_pure (wpAny_bind (L0.at (wpAny_bind (L2.at ?_)))))))
  refine wpAny_pure ?_
  show wpAny _ _ (handedOut v) _ _ _
  rw [handedOut_of hh]
  exact wpAny_pure q
end

section
variable {c : Cx} {sc : Scope} {b : Nat} {σ : St} {X : Int → St → Prop} {f : Frm} {s : Shared} {N : Ledger}

/-- the frame's names change in an unknown way: none is known any more -/
theorem Rp.wipe (R : Rp c f s σ N) {h' : Heap} {t : Nat} {m' : Str → Option Value} (hn : h'.Ns f.env.locals m') (hs : Heap.SameBut f.env.locals s.heap h')
    (ht : s.toks ≤ t := by first | exact Nat.le_refl _ | exact Nat.le_succ _ | assumption | omega) :
    Rp c f { s with heap := h', toks := t } ⟨[], σ.H⟩ N ∧ Step f.env.locals s N { s with heap := h', toks := t } N := by
  obtain ⟨⟨mc, F, hm⟩, led, inj, dicts, rel, ff, fd, tok⟩ := R
  refine xl_EEEAA F.ns fun oL esL epL hoL hdL _ => ?_
  refine xl_EEEAA (id hn) fun oN esN epN hoN hdN _ => ?_
  have tk : TupKeep (N.see s.heap) (N.see h') := fun b vs n e => by
    obtain ⟨q, e⟩ := Ledger.see_of e
    by_cases z : b = f.env.locals
    · subst z; rw [hoL] at e; cases e; cases hdL
    · exact Ledger.see_is q ((hs.2 b z).trans e)
  refine ⟨⟨⟨m', ⟨hn, fun b o e => (hs.2 b (Nat.ne_of_lt (Nat.lt_of_lt_of_le (Heap.lt_size e) F.above))).trans (F.keep b o e), F.above⟩, fun y b e => by injection e⟩, fun a o e => ?_, inj, dicts, fun a o e => (rel a o e).mono tk, funFrames_of (fun b o e hnf => ?_) ff, fun b hb => ?_, Nat.lt_of_lt_of_le tok ht⟩, ⟨rfl, tk, fun b o e hb _ => ⟨o.slots, (hs.2 b hb).trans e⟩, fun _ h => .inl h, fun b o e => ?_, fun b o e hb _ _ => (hs.2 b hb).trans e, fun _ _ _ e => e⟩⟩
  · have z := led a o e
    exact ⟨(hs.2 a z.2.2.1).trans z.1, z.2⟩
  · by_cases z : b = f.env.locals
    · subst z
      exact ⟨oN, hoN, fun vs q => by rw [hdN] at q; injection q⟩
    · exact ⟨o, (hs.2 b z).trans e, hnf⟩
  · by_cases z : b = f.env.locals
    · subst z; exact ⟨oN, esN, epN, hoN, hdN⟩
    · refine xl_EEEA (fd b hb) fun o es n h1 h2 => ?_; exact ⟨o, es, n, (hs.2 b z).trans h1, h2⟩
  · by_cases z : b = f.env.locals
    · subst z; exact ⟨oN, hoN⟩
    · exact ⟨o, (hs.2 b z).trans e⟩

/-- try: .. except SourceFault as caught: return caught.line -/
theorem a1_try (Y : TK c.K) {body : List Stmt} {np p1 p2 p3 p4 p5 : Pos} {Q : AFl → St → Prop}
    (h : AS c sc b body σ (fun fl σ₁ => match fl with | .ret a => Q (.ret a) σ₁ | _ => False) (fun l σ₁ => Q (.ret (.int l)) ⟨[], σ₁.H⟩))
    (hl : sc.names.lookup ("SourceFault" : Str) = some .globalImplicit := by rfl) (hcl : sc.names.lookup ("caught" : Str) = some .local := by rfl)
    (he : ∀ env, eval (.Attribute (.Name "caught" p1) "line" p2) env = (do
      let o ← eval (.Name "caught" p1) env
      standAt p2.atName
      let r ← holding [o] (getAttr o "line" true)
      letTemporaryGo (.Name "caught" p1) o r
      pure r) := by intro _; with_unfolding_all rfl) :
    A1 c sc b (.Try body [.ExceptHandler (some (.Name "SourceFault" np)) (some "caught") [.Return (some (.Attribute (.Name "caught" p1) "line" p2)) p3] p4] [] [] p5) σ Q X := fun f s N hf own R => by
  refine wpAny_Try_except (wpAny_mono (h f s N hf own R) (fun fl s₁ zf0 => xl_EEAAEA zf0 fun σ₁ N₁ st R₁ a g1 g2 => ?_) fun ev s₁ z => ?_)
  · induction g1 with
    | next => exact g2.elim
    | brk => exact g2.elim
    | cont => exact g2.elim
    | ret w => exact ⟨σ₁, N₁, st, R₁, _, .ret w, g2⟩
  rw [own]
  refine note_x hf.frames hf.fframe R z fun s₂ z₂ => ?_
  refine flight_x none R.stays z₂ fun s₃ z₃ => ?_
  rw [← own]
  have z3 := z₃
  refine xl_EEEEAAAA z₃ fun e σ' N' line zr2 h1 h2 fl hX => ?_; try clear z₃; subst zr2
  have kind : f.env.scope.kind = .function := hf.kind'
  have kX : f.env.kindOf "SourceFault" = some .globalImplicit := (hf.kindOf _).trans hl
  have kC : f.env.kindOf "caught" = some .local := (hf.kindOf _).trans hcl
  refine wpAny_handleBy_cons (codeAny_handlers_test ?_) (by intro q; injection q)
  refine Name_function_global kind kX (loadGlobal_global (mg := c.mg) (by rw [hf.glob]; exact hf.ok.top.g.keeps h2.stays) (mg_of hf.ok.kin hf.ok.top.g Y.gF) ?_)
  have e0 := fl.e0
  have eN := fl.eN
  refine xl_EEEEEEAAAAAA fl.there fun dx sl vs es n t g1 g2 g3 g4 g5 g6 g7 => ?_
  obtain ⟨hh, g, d, tk, os⟩ := s₃
  have X3 : c.K.In hh := h2.kin hf.ok
  have T : Looks (model c.prog c.w) hh (typeOf (.ref e)) (.ref SF) := (Looks.ld g1).andThen .now
  have L1 : Looks (model c.prog c.w) hh (isInstance (.ref SF) (.type "tuple")) false := Looks.of_peek X3 (Y.notTup _)
  have L2 : Looks (model c.prog c.w) hh (isSubtype (.ref SF) (.type "BaseException")) true := Looks.of_peek X3 (Y.subB _)
  have L3 : Looks (model c.prog c.w) hh (isSubtype (.ref SF) (.ref SF)) true := Looks.of_peek X3 (Y.subS _)
  have L4 : Looks (model c.prog c.w) hh (isType (.ref SF)) true := Looks.of_peek X3 (Y.isT _)
  unfold excMatches isExcClass
  repeat lk
  refine codeAny_handlers_suite_as (flight_x none R.stays z3 fun s₄ z₄ => ?_)
  clear g1 g2 g3 g4 g5 g6 g7 T z3 z₂ z X3 L1 L2 L3 L4 h1 h2 hX e0 eN
  refine xl_EEEEAAAA z₄ fun e' σ' N' line he' h1 h2 fl hX => ?_; clear z₄
  cases he'
  have e0 := fl.e0
  have eN := fl.eN
  refine xl_EEEEEEAAAAAA fl.there fun dx sl vs es n t g1 g2 g3 g4 g5 g6 g7 => ?_
  obtain ⟨oL0, hL0⟩ := R.locThere
  have eL : e ≠ f.env.locals := fun w => by rw [w, hL0] at e0; cases e0
  have dL : dx ≠ f.env.locals := fun w => by rw [w, hL0] at g5; cases g5
  refine xl_EA (id h2.loc) fun mc F hm => ?_
  have hp : (f.env.scope.kind == .class || (f.env.scope.kind == .module && f.env.locals != f.env.globals)) = false := by rw [kind]; rfl
  refine wpAny_storeName_local kC F.ns (fun h' hn hs => ?_) hp
  obtain ⟨R₅, st₅⟩ := h2.wipe (t := s₄.toks + 1) hn hs
  have g1' : h'.get? e = some ⟨.ref SF, some dx, .fields vs, sl⟩ := (hs.2 _ eL).trans g1
  have g2' : h'.get? dx = some (dictOf es n) := (hs.2 _ dL).trans g2
  refine wpAny_execs_cons (wpAny_Return_some (Attribute_any_ (wpAny_Name (wpAny_loadName_local kind kC hn (v := .ref e) (by rw [if_pos rfl]) ?_) (by decide)) (he _)))
  refine xget Y (R₅.kin hf.ok) g1' g2' Y.line g3 rfl ?_
  refine wpAny_nameGoes kC hn hp fun h'' m'' hn'' hs'' => ?_
  obtain ⟨R₆, st₆⟩ := (R₅.toks (t := s₄.toks + 1 + 1)).wipe (t := s₄.toks + 1 + 1 + 1) hn'' hs''
  exact ⟨_, N', ((h1.trans st₅).trans (.of_keeps (h' := h') (t := s₄.toks + 1 + 1) fun _ _ e => e)).trans st₆, R₆, _, .ret (.int line t), hX⟩
end
end Mine
end

section
open PySem PySem.W PySem.Calls PyProof.Rows Builtin.ObjectAttr
namespace Mine

noncomputable def fdOf (K : Frag) (a : Addr) : Option FuncData := match K.lookup a with | some ⟨_, _, .func fd, _⟩ => some fd | _ => none
noncomputable def scOf (K : Frag) (a : Addr) : Scope := ((fdOf K a).map (·.scope)).getD { kind := .function, names := [], isGenerator := false, isCoroutine := false }
noncomputable def bdOf (K : Frag) (a : Addr) : List Stmt := match fdOf K a with | some fd => (match fd.body with | .stmts b => b | _ => []) | _ => []
noncomputable def okDef (K : Frag) (fa : Addr) : Bool := match fdOf K fa with
  | some fd => codeIn K fd.code fd.qualname && (match fd.body with | .stmts _ => true | _ => false) && fd.globals == mainGlobals && fd.closure.isEmpty && fd.builtins == builtinsNs && fd.scope.names.all (fun x => x.2 != .cell) && !fd.scope.isCoroutine && !fd.scope.isGenerator && fd.scope.kind == .function
  | none => false

section
variable {c : Cx} {b : Nat} {H : AHeap} {Q : AV → AHeap → Prop} {X : Int → AHeap → Prop}
theorem ac_fn {fa : Addr} {ns : List Str} {args as' : List AV} (hok : okDef c.K fa = true)
    (hbind : ∀ (fd : FuncData) (s : Shared) (V : View) vs, fdOf c.K fa = some fd → c.K.In s.heap → VsIs V args vs → ∃ ws, BindsTo s fd ⟨vs, []⟩ (ns.zip ws) ∧ VsIs V as' ws)
    (hns : (ns.all fun n => (scOf c.K fa).names.lookup n == some .local) = true)
    (h : AS c (scOf c.K fa) b (bdOf c.K fa) ⟨(ns.zip as').reverse, H⟩ (fun fl σ' => match fl with | .ret a => Q a σ'.H | _ => Q .none σ'.H) (fun l σ' => X l σ'.H)) : AC c (b + 1) (.ref fa) args H Q X := by
  unfold okDef at hok
  split at hok
  · rename_i fd hfd
    simp only [Bool.and_eq_true, beq_iff_eq, Bool.not_eq_true', List.isEmpty_iff] at hok
    obtain ⟨⟨⟨⟨⟨⟨⟨⟨h1, h2⟩, h3⟩, h4⟩, h5⟩, h6⟩, h7⟩, h8⟩, h9⟩ := hok
    split at h2
    · rename_i body hb
      have hsc : scOf c.K fa = fd.scope := by unfold scOf; rw [hfd]; rfl
      have hbd : bdOf c.K fa = body := by unfold bdOf; rw [hfd]; dsimp only; rw [hb]
      rw [hsc, hbd] at h
      rw [hsc] at hns
      have hK : ∃ oc od osl, c.K.lookup fa = some ⟨oc, od, .func fd, osl⟩ := by
        unfold fdOf at hfd
        split at hfd
        · rename_i oc od fd' osl q; cases hfd; exact ⟨oc, od, osl, q⟩
        · injection hfd
      refine xl_EEE hK fun oc od osl hK => ?_
      exact ac_def hK h1 (fun s V vs hX hv => hbind fd s V vs hfd hX hv) (fun n hn => by have := List.all_eq_true.mp hns n hn; simpa using this) h hb h3 h4 h5 (fun x hx => by have := List.all_eq_true.mp h6 x hx; simpa using this) h7 h8 h9
    · injection h2
  · injection hok
/-- as many arguments as names -/
theorem ac_fn' {fa : Addr} {ns : List Str} {args : List AV} (hok : okDef c.K fa = true)
    (hbind : ∀ (fd : FuncData), fdOf c.K fa = some fd → ∀ vs : List Value, vs.length = args.length → bindArgs fd ⟨vs, []⟩ = pure (ns.zip vs))
    (hns : (ns.all fun n => (scOf c.K fa).names.lookup n == some .local) = true)
    (h : AS c (scOf c.K fa) b (bdOf c.K fa) ⟨(ns.zip args).reverse, H⟩ (fun fl σ' => match fl with | .ret a => Q a σ'.H | _ => Q .none σ'.H) (fun l σ' => X l σ'.H)) : AC c (b + 1) (.ref fa) args H Q X :=
  ac_fn hok (fun fd s V vs hfd hX hv => ⟨vs, .of_eq (hbind fd hfd vs hv.length), hv⟩) hns h
noncomputable def AllV : Nat → (List Value → Prop) → Prop
  | 0, P => P []
  | n + 1, P => ∀ v, AllV n fun vs => P (v :: vs)
theorem AllV.all : ∀ {n : Nat} {P : List Value → Prop}, AllV n P → ∀ vs : List Value, vs.length = n → P vs := fun {n} => by
  induction n with
  | zero => intro P h vs e; rw [List.eq_nil_of_length_eq_zero e]; exact h
  | succ n ih => intro P h vs e; induction vs with | nil => cases e | cons v vs => exact ih (h v) vs (Nat.succ.inj e)
theorem ac_fnL {fa : Addr} {ns : List Str} {args : List AV} (hok : okDef c.K fa = true)
    (hbind : AllV args.length fun vs => (fdOf c.K fa).map (fun fd => bindArgs fd ⟨vs, []⟩) = some (pure (ns.zip vs)))
    (hns : (ns.all fun n => (scOf c.K fa).names.lookup n == some .local) = true)
    (h : AS c (scOf c.K fa) b (bdOf c.K fa) ⟨(ns.zip args).reverse, H⟩ (fun fl σ' => match fl with | .ret a => Q a σ'.H | _ => Q .none σ'.H) (fun l σ' => X l σ'.H)) : AC c (b + 1) (.ref fa) args H Q X :=
  ac_fn' hok (fun fd hfd vs hv => by
    have := hbind.all vs hv
    rw [hfd] at this
    exact Option.some.inj this) hns h
theorem FOk.down {c : Cx} {sc : Scope} {b b' : Nat} {f : Frm} (h : FOk c sc b' f) (hb : b ≤ b') : FOk c sc b f :=
  ⟨h.ok, h.scope, h.kind, h.glob, h.bins, h.frame, h.fframe, h.frames, Nat.lt_of_le_of_lt (Nat.add_le_add_right (Nat.add_le_add_left (Nat.mul_le_mul_left 4 hb) _) 8) h.room, Nat.lt_of_le_of_lt (Nat.add_le_add_right (Nat.add_le_add_left (Nat.mul_le_mul_left 16 hb) _) 32) h.units, h.handled⟩
theorem AC.up {b' : Nat} {fv : AV} {args : List AV} (h : AC c b fv args H Q X) (hb : b ≤ b') : AC c b' fv args H Q X := fun sc f s N σ v vs hf R e hv hvs => h sc f s N σ v vs (hf.down hb) R e hv hvs
theorem AC.to {fv : AV} {args : List AV} {b' : Nat} (hb : b ≤ b') (h : AC c b fv args H Q X) : ACw c b' fv args H Q X := (h.up hb).w
end

/-- the context of the walk -/
noncomputable def C0 (prog : Program) (w : World) (p : Program) (loose : List Str) (mg mb : Str → Option Value) (B : Heap) : Cx := ⟨prog, w, hd.heap_1 w.params, p, loose, mg, mb, B⟩

theorem AHeap.set_set (H : AHeap) (a : Addr) (o o' : AO) : (H.set a o).set a o' = H.set a o' := by
  funext b; unfold AHeap.set; split <;> rfl
theorem AHeap.set_same {H : AHeap} {a : Addr} {o : AO} (h : H a = some o) : H.set a o = H := by
  funext b; unfold AHeap.set; split
  · rename_i z; rw [z, h]
  · rfl
theorem AHeap.set_comm (H : AHeap) {a b : Addr} (o o' : AO) (h : a ≠ b) : (H.set a o).set b o' = (H.set b o').set a o := by
  funext x; unfold AHeap.set; split <;> rename_i z <;> split <;> rename_i y <;> first | rfl | (subst z; exact absurd y.symm h)

-- short texts
noncomputable def S (l : List Nat) : Str := ⟨l.toArray⟩
theorem S_len (l : List Nat) : (S l).length = l.length := by show l.toArray.size = _; simp
theorem S_list (l : List Nat) : (S l).cps.toList = l := rfl
theorem S_eq (l m : List Nat) : (S l == S m) = (l == m) := by
  rw [Bool.eq_iff_iff, beq_iff_eq, beq_iff_eq]
  exact ⟨fun h => by have := congrArg (fun x : Str => x.cps.toList) h; exact this, fun h => by rw [h]⟩
theorem S_inj {l m : List Nat} (h : S l = S m) : l = m := congrArg (fun x : Str => x.cps.toList) h
theorem S_of (x : Str) : S x.cps.toList = x := rfl
theorem S_append (l m : List Nat) : S l ++ S m = S (l ++ m) := by
  show (⟨_⟩ : Str) = ⟨_⟩
  congr 1
  apply Array.toList_inj.mp
  simp [S]
noncomputable def letter (c : Nat) : Bool := (decide (97 ≤ c) && decide (c ≤ 122)) || (decide (65 ≤ c) && decide (c ≤ 90)) || c == 95
noncomputable def letter1 (l : List Nat) : Bool := match l with | c :: _ => letter c | [] => false


theorem min_abs {a b : Nat} : min (a : Int) (b : Int) = ((min a b : Nat) : Int) := by
  rcases Nat.le_total a b with h | h
  · rw [Nat.min_eq_left h, Int.min_eq_left (Int.ofNat_le.mpr h)]
  · rw [Nat.min_eq_right h, Int.min_eq_right (Int.ofNat_le.mpr h)]
theorem slice_min (x : Str) (i j : Int) (h0 : 0 ≤ i) (h1 : 0 ≤ j) : Txt.slice x (some i) (some j) = Txt.slice x (some (min i x.length)) (some (min j x.length)) := by
  unfold Txt.slice
  have e : Builtin.Str.strSliceIndices (some i) (some j) 1 x.length = Builtin.Str.strSliceIndices (some (min i x.length)) (some (min j x.length)) 1 x.length := by
    have a3 : ¬ min i (x.length : Int) < 0 := Int.not_lt.mpr (Int.le_min.mpr ⟨h0, Int.natCast_nonneg _⟩)
    have a4 : ¬ min j (x.length : Int) < 0 := Int.not_lt.mpr (Int.le_min.mpr ⟨h1, Int.natCast_nonneg _⟩)
    simp only [Builtin.Str.strSliceIndices, Int.not_lt.mpr h0, Int.not_lt.mpr h1, a3, a4, if_false, if_pos (show (1 : Int) > 0 by decide), Int.min_assoc, Int.min_self]
  rw [e]
theorem take_min {l : List Nat} {a b : Nat} : (l.drop (min a l.length)).take (min b l.length - min a l.length) = (l.drop a).take (b - a) := by
  rcases Nat.le_total a l.length with h | h
  · rw [Nat.min_eq_left h]
    rcases Nat.le_total b l.length with h2 | h2
    · rw [Nat.min_eq_left h2]
    · rw [Nat.min_eq_right h2, List.take_of_length_le (Nat.le_of_eq List.length_drop), List.take_of_length_le (List.length_drop ▸ Nat.sub_le_sub_right h2 a)]
  · rw [Nat.min_eq_right h, List.drop_eq_nil_of_le (Nat.le_refl _), List.drop_eq_nil_of_le h, List.take_nil, List.take_nil]
theorem slice_nat (x : Str) {a b : Nat} (hab : a ≤ b) (hbl : b ≤ x.length) : Txt.slice x (some (a : Int)) (some (b : Int)) = S ((x.cps.toList.drop a).take (b - a)) := by
  unfold Txt.slice
  split
  · rename_i hc
    simp only [beq_self_eq_true, Bool.true_and, beq_iff_eq] at hc
    rw [StrLaws.strSliceIndices_plain hab hbl] at hc
    have hc : b - a = x.length := by simpa only [List.length_map, List.length_range] using hc
    have e : a = 0 := Nat.eq_zero_of_le_zero (lin [a, b, x.length, b - a] (.v 0) (.n 0) [(.a (.v 3) (.v 0), .v 1), (.v 1, .v 2), (.v 2, .v 3)] (Nat.le_of_eq (Nat.sub_add_cancel hab)) hbl (Nat.le_of_eq hc.symm) rfl)
    subst e
    rw [List.drop_zero, List.take_of_length_le (Nat.le_of_eq hc.symm), S_of]
  · rw [StrLaws.sliced_plain x hab hbl]; rfl
theorem slice_int {x : Str} {i j : Int} (h0 : 0 ≤ i) (hij : i ≤ j) : Txt.slice x (some i) (some j) = S ((x.cps.toList.drop i.toNat).take (j - i).toNat) := by
  obtain ⟨a, rfl⟩ := Int.eq_ofNat_of_zero_le h0
  obtain ⟨b, rfl⟩ := Int.eq_ofNat_of_zero_le (Int.le_trans h0 hij)
  rw [Int.toNat_natCast, Int.toNat_sub, slice_min x _ _ h0 (Int.le_trans h0 hij), min_abs, min_abs, slice_nat x (Nat.le_min.mpr ⟨Nat.le_trans (Nat.min_le_left _ _) (Int.ofNat_le.mp hij), Nat.min_le_right _ _⟩) (Nat.min_le_right _ _)]
  exact congrArg S take_min
theorem slice_to {x : Str} {j : Int} (hj : 0 ≤ j) : Txt.slice x none (some j) = S (x.cps.toList.take j.toNat) := by
  have : Txt.slice x none (some j) = Txt.slice x (some 0) (some j) := by
    unfold Txt.slice
    rw [StrLaws.sliceIdx_none_lo]
  rw [this, slice_int (Int.le_refl 0) hj]
  simp
theorem item_int {x : Str} {i : Int} {c : Nat} (h0 : 0 ≤ i) (h : x.cps.toList[i.toNat]? = some c) : Txt.item x i = S [c] := by
  have hlt := (List.getElem?_eq_some_iff.mp h).1
  have hlen : x.length = x.cps.toList.length := by simp [Str.length]
  unfold Txt.item
  have e : Txt.charAt x i = some c := by
    unfold Txt.charAt seqIndex?
    rw [if_neg (show ¬ i < 0 by exact Int.not_lt.mpr (linI [_] [] (.n 0) (.v 0) [((.n 0), (.v 0))] h0 rfl))]
    refine (congrArg (fun z => Option.bind z _) (if_pos (Bool.and_eq_true_iff.mpr ⟨decide_eq_true h0, decide_eq_true ((Int.toNat_lt h0).mp hlt)⟩))).trans ?_
    show x.cps[i.toNat]? = some c
    rw [← Array.getElem?_toList]; exact h
  rw [e]; rfl
theorem occ_one (l : List Nat) (c : Nat) : occ (S l) (S [c]) = decide (c ∈ l) := StrLaws.found_one (S l) c
theorem occ_nil (l : List Nat) : occ (S l) (S []) = true := by
  unfold occ
  rw [StrLaws.found_iff]
  refine ⟨0, by rw [S_len, S_len]; simp, ?_⟩
  unfold Builtin.Str.subAt
  simp [S, Str.length]
end Mine
end

section
open PySem PySem.W PySem.Calls PyProof.Rows Builtin.ObjectAttr
namespace Mine
/-- the walk's data -/
structure Dt where
  prog : Program
  w : World
  p : Program
  loose : List Str
  mg : Str → Option Value
  mb : Str → Option Value
  B : Heap
noncomputable def CC (d : Dt) : Cx := ⟨d.prog, d.w, hd.heap_1 d.w.params, d.p, d.loose, d.mg, d.mb, d.B⟩

noncomputable def okFld (K : Frag) (C : Addr) (ns : List Str) : Bool := ns.all fun n => clsField K C n && clsStore K C n
noncomputable abbrev scanNs : List Str := ["text", "at", "line", "tokens", "last_line", "depth"]
noncomputable abbrev tokNs : List Str := ["kind", "text", "line", "is_first", "has_left", "has_right", "value", "parts"]
theorem okScan (d : Dt) : okFld (CC d).K 107 scanNs = true := by kernel_rfl
theorem okTok (d : Dt) : okFld (CC d).K 71 tokNs = true := by kernel_rfl
theorem okFld_field {K : Frag} {C : Addr} {ns : List Str} (h : okFld K C ns = true) {n : Str} (hn : n ∈ ns) : clsField K C n = true := (Bool.and_eq_true_iff.mp (List.all_eq_true.mp h n hn)).1
theorem okFld_store {K : Frag} {C : Addr} {ns : List Str} (h : okFld K C ns = true) {n : Str} (hn : n ∈ ns) : clsStore K C n = true := (Bool.and_eq_true_iff.mp (List.all_eq_true.mp h n hn)).2

/-- a scan's fields -/
noncomputable def scanFs (t cs : List Nat) (ln : Int) (L : Addr) (last depth : Int) : List (Str × AV) :=
  [("text", .str (S t)), ("at", .int ((t.length : Int) - cs.length)), ("line", .int ln), ("tokens", .ref L), ("last_line", .int last), ("depth", .int depth)]
noncomputable def tokFs (kind text : List Nat) (line : Int) (first left right : Bool) (value : Int) (P : Addr) : List (Str × AV) :=
  [("kind", .str (S kind)), ("text", .str (S text)), ("line", .int line), ("is_first", .bool first), ("has_left", .bool left), ("has_right", .bool right), ("value", .int value), ("parts", .ref P)]

section
variable {d : Dt} {sc : Scope} {b : Nat} {σ : St} {X : Int → St → Prop}
/-- a field of a named object -/
theorem ae_fld {v name : Str} {p p' : Pos} {x C : Addr} {fs : List (Str × AV)} {a : AV} {ns : List Str} {Q : AV → St → Prop} (hv : σ.m.lookup v = some (.ref x)) (hx : σ.H x = some (.inst C fs)) (hok : okFld (CC d).K C ns = true) (hl : fs.lookup name = some a) (h : Q a σ)
    (hn : name ∈ ns := by decide) (hb : notBi a = true := by rfl) (hloc : sc.names.lookup v = some .local := by rfl) (hd : (v == ("__debug__" : Str)) = false := by decide) : AE (CC d) sc b (.Attribute (.Name v p) name p') σ Q X :=
  ae_attr (ae_local hv ⟨x, C, fs, a, rfl, hx, hl, okFld_field hok hn, hb, h⟩ hloc hd)
theorem at_fld {v name : Str} {p p' : Pos} {x C : Addr} {fs : List (Str × AV)} {a : AV} {ns : List Str} {Q : St → Prop} (hv : σ.m.lookup v = some (.ref x)) (hx : σ.H x = some (.inst C fs)) (hok : okFld (CC d).K C ns = true) (h : Q ⟨σ.m, σ.H.set x (.inst C (fput fs name a))⟩)
    (hn : name ∈ ns := by decide) (hz : Nat.ble (fput fs name a).length 1000 = true := by rfl) (hloc : sc.names.lookup v = some .local := by rfl) (hd : (v == ("__debug__" : Str)) = false := by decide) : AT (CC d) sc b (.Attribute (.Name v p) name p') a σ Q X :=
  at_attr (ae_local hv ⟨x, C, fs, rfl, hx, okFld_store hok hn, Nat.le_of_ble_eq_true hz, h⟩ hloc hd)
/-- v.name += e -/
theorem a1_augfld {v name : Str} {p p' p2 : Pos} {value : Expr} {x C : Addr} {fs : List (Str × AV)} {i : Int} {ns : List Str} {Q : AFl → St → Prop} (hv : σ.m.lookup v = some (.ref x)) (hx : σ.H x = some (.inst C fs)) (hok : okFld (CC d).K C ns = true) (hl : fs.lookup name = some (.int i))
    (h : AE (CC d) sc b value σ (fun a σ' => σ' = σ ∧ ∃ j, a = .int j ∧ Q .next ⟨σ.m, σ.H.set x (.inst C (fput fs name (.int (i + j))))⟩) X)
    (hn : name ∈ ns := by decide) (hz : ∀ k, Nat.ble (fput fs name (.int k)).length 1000 = true := by intro _; rfl) (hloc : sc.names.lookup v = some .local := by rfl) (hd : (v == ("__debug__" : Str)) = false := by decide) : A1 (CC d) sc b (.AugAssign (.Attribute (.Name v p) name p') .Add value p2) σ Q X :=
  a1_augattr (ae_local hv ⟨x, C, fs, i, rfl, hx, hl, okFld_field hok hn, rfl, h.mono (fun a σ' zf0 => xl_AEA zf0 fun e j ea q => ⟨j, fs, ea, by rw [e]; exact hx, okFld_store hok hn, Nat.le_of_ble_eq_true (hz _), by rw [e]; exact q⟩) fun _ _ z => z⟩ hloc hd)
end

section
variable {d : Dt} {X : Int → AHeap → Prop}
theorem at_sub_int {t cs : List Nat} (h : cs.length ≤ t.length) (k : Int) (hk : 0 ≤ k) (hd : t.drop (t.length - cs.length) = cs) : (t.drop (((t.length : Int) - cs.length) + k).toNat) = cs.drop k.toNat := by
  have : ((t.length : Int) - cs.length + k).toNat = (t.length - cs.length) + k.toNat := by rw [← Int.ofNat_sub h, toNat_plus hk]
  rw [this, ← List.drop_drop, hd]
theorem suf_drop {t cs : List Nat} (h : cs <:+ t) : t.drop (t.length - cs.length) = cs := by
  obtain ⟨r, rfl⟩ := h
  simp
/-- the slice of the rest -/
theorem slice_rest {t cs : List Nat} (h : cs <:+ t) (i j : Int) (hi : 0 ≤ i) (hij : i ≤ j) :
    Txt.slice (S t) (some (((t.length : Int) - cs.length) + i)) (some (((t.length : Int) - cs.length) + j)) = S ((cs.drop i.toNat).take (j - i).toNat) := by
  have hl := h.length_le
  rw [slice_int (by exact linI [_] [_, _] (.n 0) (.a (.s (.c (.v 1)) (.c (.v 0))) (.v 0)) [((.n 0), (.v 0)), ((.c (.v 0)), (.c (.v 1)))] hi (Int.ofNat_le.mpr hl) rfl) (by exact linI [_, _] [_, _] (.a (.s (.c (.v 0)) (.c (.v 1))) (.v 0)) (.a (.s (.c (.v 0)) (.c (.v 1))) (.v 1)) [((.v 0), (.v 1))] hij rfl), S_list, at_sub_int hl i hi (suf_drop h)]
  rw [Int.add_sub_add_left]
end

/-- an expression that changes nothing, and its value -/
noncomputable abbrev PE (c : Cx) (sc : Scope) (b : Nat) (e : Expr) (σ : St) (a : AV) (X : Int → St → Prop) : Prop := AE c sc b e σ (fun a' σ' => a' = a ∧ σ' = σ) X
noncomputable abbrev PB (c : Cx) (sc : Scope) (b : Nat) (e : Expr) (σ : St) (z : Bool) (X : Int → St → Prop) : Prop := AB c sc b e σ (fun z' σ' => z' = z ∧ σ' = σ) X
section
variable {c : Cx} {sc : Scope} {b : Nat} {σ : St} {X : Int → St → Prop}
theorem ae_of {e : Expr} {a : AV} {Q : AV → St → Prop} (h : PE c sc b e σ a X) (q : Q a σ) : AE c sc b e σ Q X := h.mono (fun _ _ ⟨e1, e2⟩ => by rw [e1, e2]; exact q) fun _ _ z => z
theorem ab_of {e : Expr} {z : Bool} {Q : Bool → St → Prop} (h : PB c sc b e σ z X) (q : Q z σ) : AB c sc b e σ Q X := h.mono (fun _ _ ⟨e1, e2⟩ => by rw [e1, e2]; exact q) fun _ _ z => z
theorem pe_str {x : Str} {k : Nat} {p : Pos} : PE c sc b (.Constant (.str x) k p) σ (.str x) X := ae_str ⟨rfl, rfl⟩
theorem pe_int {x : Int} {k : Nat} {p : Pos} : PE c sc b (.Constant (.int x) k p) σ (.int x) X := ae_int ⟨rfl, rfl⟩
theorem pe_local {x : Str} {p : Pos} {a : AV} (hv : σ.m.lookup x = some a) (hl : sc.names.lookup x = some .local := by rfl) (hd : (x == ("__debug__" : Str)) = false := by decide) : PE c sc b (.Name x p) σ a X := ae_local hv ⟨rfl, rfl⟩ hl hd
theorem pe_global {x : Str} {p : Pos} {a : AV} {v : Value} (e : nsIn c.K mainGlobals x = some (some v)) (hv : VIs c.B.get? a v) (hl : sc.names.lookup x = some .globalImplicit := by rfl) (hd : (x == ("__debug__" : Str)) = false := by decide) : PE c sc b (.Name x p) σ a X := ae_global e hv ⟨rfl, rfl⟩ hl hd
theorem pe_cmp {op : CmpOp} {l r : Expr} {p : Pos} {a a' : AV} {z : Bool} (h1 : PE c sc b l σ a X) (h2 : PE c sc b r σ a' X) (h : CmpR σ.H op a a' z) (hm : behindInMarks op r = false := by with_unfolding_all rfl) : PE c sc b (.Compare l [op] [r] p) σ (.bool z) X :=
  ae_cmp2 (ae_of h1 (ae_of h2 ⟨z, h, rfl, rfl⟩)) hm
theorem pb_cmp {op : CmpOp} {l r : Expr} {p : Pos} {a a' : AV} {z : Bool} (h1 : PE c sc b l σ a X) (h2 : PE c sc b r σ a' X) (h : CmpR σ.H op a a' z) (hm : behindInMarks op r = false := by with_unfolding_all rfl) : PB c sc b (.Compare l [op] [r] p) σ z X :=
  ab_cmp2 (ae_of h1 (ae_of h2 ⟨z, h, rfl, rfl⟩)) hm
theorem pe_chain {o1 o2 : CmpOp} {l m r : Expr} {p : Pos} {a a' a'' : AV} {z z' : Bool} (h1 : PE c sc b l σ a X) (h2 : PE c sc b m σ a' X) (h3 : PE c sc b r σ a'' X) (e1 : CmpR σ.H o1 a a' z) (e2 : CmpR σ.H o2 a' a'' z')
    (hm : lastMarks [o1, o2] [m, r] = false := by with_unfolding_all rfl) : PE c sc b (.Compare l [o1, o2] [m, r] p) σ (.bool (z && z')) X :=
  ae_chain (ae_of h1 (ae_of h2 ⟨z, e1, by cases z; exact ⟨rfl, rfl⟩; exact ae_of h3 ⟨z', e2, rfl, rfl⟩⟩)) hm
theorem pb_chain {o1 o2 : CmpOp} {l m r : Expr} {p : Pos} {a a' a'' : AV} {z z' : Bool} (h1 : PE c sc b l σ a X) (h2 : PE c sc b m σ a' X) (h3 : PE c sc b r σ a'' X) (e1 : CmpR σ.H o1 a a' z) (e2 : CmpR σ.H o2 a' a'' z')
    (hm : lastMarks [o1, o2] [m, r] = false := by with_unfolding_all rfl) : PB c sc b (.Compare l [o1, o2] [m, r] p) σ (z && z') X :=
  ab_chain (ae_of h1 (ae_of h2 ⟨z, e1, by cases z; exact ⟨rfl, rfl⟩; exact ae_of h3 ⟨z', e2, rfl, rfl⟩⟩)) hm
theorem pe_or {x y : Expr} {rest : List Expr} {p : Pos} {z z' : Bool} (h1 : PE c sc b x σ (.bool z) X) (h2 : z = false → PE c sc b (.BoolOp .Or (y :: rest) p) σ (.bool z') X) : PE c sc b (.BoolOp .Or (x :: y :: rest) p) σ (.bool (z || z')) X :=
  ae_boolop (ae_of h1 ⟨z, rfl, by cases z; exact h2 rfl; exact ⟨rfl, rfl⟩⟩)
theorem pe_and {x y : Expr} {rest : List Expr} {p : Pos} {z z' : Bool} (h1 : PE c sc b x σ (.bool z) X) (h2 : z = true → PE c sc b (.BoolOp .And (y :: rest) p) σ (.bool z') X) : PE c sc b (.BoolOp .And (x :: y :: rest) p) σ (.bool (z && z')) X :=
  ae_boolop (ae_of h1 ⟨z, rfl, by cases z; exact ⟨rfl, rfl⟩; exact h2 rfl⟩)
theorem pb_and {x : Expr} {rest : List Expr} {p : Pos} {z z' : Bool} (h1 : PB c sc b x σ z X) (h2 : z = true → PB c sc b (.BoolOp .And rest p) σ z' X) : PB c sc b (.BoolOp .And (x :: rest) p) σ (z && z') X :=
  ab_and (ab_of h1 (by cases z; exact ⟨rfl, rfl⟩; exact h2 rfl))
theorem pb_or {x : Expr} {rest : List Expr} {p : Pos} {z z' : Bool} (h1 : PB c sc b x σ z X) (h2 : z = false → PB c sc b (.BoolOp .Or rest p) σ z' X) : PB c sc b (.BoolOp .Or (x :: rest) p) σ (z || z') X :=
  ab_or (ab_of h1 (by cases z; exact h2 rfl; exact ⟨rfl, rfl⟩))
theorem pb_and_nil {p : Pos} : PB c sc b (.BoolOp .And [] p) σ true X := ab_and_nil ⟨rfl, rfl⟩
theorem pb_or_nil {p : Pos} : PB c sc b (.BoolOp .Or [] p) σ false X := ab_or_nil ⟨rfl, rfl⟩
theorem pb_not {x : Expr} {p : Pos} {z : Bool} (h : PB c sc b x σ z X) : PB c sc b (.UnaryOp .Not x p) σ (!z) X := ab_not (ab_of h ⟨rfl, rfl⟩)
theorem pe_bin {op : Operator} {l r : Expr} {p : Pos} {a a' r' : AV} (h1 : PE c sc b l σ a X) (h2 : PE c sc b r σ a' X) (h : BinR op a a' σ (fun v σ' => v = r' ∧ σ' = σ)) : PE c sc b (.BinOp l op r p) σ r' X := ae_bin (ae_of h1 (ae_of h2 h))
theorem PB.as {e : Expr} {z z' : Bool} (h : PB c sc b e σ z X) (q : z = z') : PB c sc b e σ z' X := q ▸ h
theorem PE.as {e : Expr} {a a' : AV} (h : PE c sc b e σ a X) (q : a = a') : PE c sc b e σ a' X := q ▸ h
end
end Mine
end

section
open PySem PySem.W PySem.Calls PyProof.Rows Builtin.ObjectAttr
namespace Mine
section
variable {d : Dt} {X : Int → AHeap → Prop} {H : AHeap} {Q : AV → AHeap → Prop}
/-- Scan.sign(far) -/
theorem c_sign1 {x L : Addr} {t cs : List Nat} {ln last depth : Int} {k : Int} (hx : H x = some (.inst 107 (scanFs t cs ln L last depth))) (hs : cs <:+ t) (ht : t.length ≤ 1000000) (hk : 0 ≤ k)
    (q : Q (.str (S ((cs.drop k.toNat).take 1))) H) : AC (CC d) 1 (.ref 97) [.ref x, .int k] H Q X := by
  refine ac_fn (ns := ["self", "far"]) (as' := [.ref x, .int k]) (by kernel_rfl) (fun fd s V vs hfd hX hv => ?_) (by kernel_rfl) ?_
  · cases hfd
    cases hv with
    | cons h1 h2 =>
      cases h2 with
      | cons h2 h3 =>
        cases h3
        exact ⟨[_, _], BindsTo.of_defaults rfl (hX _ _ rfl) rfl rfl rfl, .cons h1 (.cons h2 .nil)⟩
  refine as_consL ?_
  intro Kq
  refine a1_return ?_
  refine ae_slice (ae_fld rfl hx (okScan d) rfl ⟨_, rfl, by rw [S_len]; exact Nat.le_trans ht (by decide), ?_⟩)
  refine ae_bin (ae_fld rfl hx (okScan d) rfl (ae_local rfl ?_))
  refine ⟨_, rfl, ?_⟩
  refine ae_bin (ae_bin (ae_fld rfl hx (okScan d) rfl (ae_local rfl (ae_int ?_))))
  refine ⟨_, rfl, ?_⟩
  have := slice_rest hs k (k + 1) hk (by exact linI [_] [] (.v 0) (.a (.v 0) (.n 1)) []  rfl)
  rw [show (k + 1 - k).toNat = 1 by rw [Int.add_comm, Int.add_sub_cancel]; rfl] at this
  show Q (.str (Txt.slice (S t) (some _) (some _))) H
  rw [Int.add_assoc, this]
  exact q
theorem bind_sign {s : Shared} {V : View} {vs : List Value} {x : Addr} {fd : FuncData} (hfd : fdOf (CC d).K 97 = some fd) (hX : (CC d).K.In s.heap) (hv : VsIs V [.ref x] vs) : ∃ ws, BindsTo s fd ⟨vs, []⟩ ((["self", "far"] : List Str).zip ws) ∧ VsIs V [.ref x, .int 0] ws := by
  cases hfd
  cases hv with
  | cons h1 h2 =>
    cases h2
    exact ⟨[_, _], BindsTo.of_defaults rfl (hX _ _ rfl) rfl rfl rfl, .cons h1 (.cons (.int 0 _) .nil)⟩
theorem c_sign {x L : Addr} {t cs : List Nat} {ln last depth : Int} (hx : H x = some (.inst 107 (scanFs t cs ln L last depth))) (hs : cs <:+ t) (ht : t.length ≤ 1000000)
    (q : Q (.str (S (cs.take 1))) H) : AC (CC d) 1 (.ref 97) [.ref x] H Q X := by
  refine ac_fn (ns := ["self", "far"]) (as' := [.ref x, .int 0]) (by kernel_rfl) (fun fd s V vs hfd hX hv => bind_sign hfd hX hv) (by kernel_rfl) ?_
  refine as_consL ?_
  intro Kq
  refine a1_return ?_
  refine ae_slice (ae_fld rfl hx (okScan d) rfl ⟨_, rfl, by rw [S_len]; exact Nat.le_trans ht (by decide), ?_⟩)
  refine ae_bin (ae_fld rfl hx (okScan d) rfl (ae_local rfl ?_))
  refine ⟨_, rfl, ?_⟩
  refine ae_bin (ae_bin (ae_fld rfl hx (okScan d) rfl (ae_local rfl (ae_int ?_))))
  refine ⟨_, rfl, ?_⟩
  have := slice_rest hs 0 1 (by exact linI [] [] (.n 0) (.n 0) []  rfl) (by exact linI [] [] (.n 0) (.n 1) []  rfl)
  show Q (.str (Txt.slice (S t) (some _) (some _))) H
  rw [Int.add_assoc]
  exact (this ▸ q : _)
theorem c_letter {l : List Nat} (hl : l.length ≤ 1) (q : Q (.bool (letter1 l)) H) : AC (CC d) 1 (.ref 118) [.str (S l)] H Q X := by
  refine ac_fnL (ns := ["sign"]) (by kernel_rfl) (fun _ => by show _ = _; kernel_rfl) (by kernel_rfl) ?_
  refine as_consL ?_
  intro Kq
  refine a1_return ?_
  have e1 : ∀ (a : Nat) (l : List Nat), (!(decide ((S l).cps.toList < (S [a]).cps.toList))) = match l with | [] => false | c :: _ => decide (a ≤ c) := fun a l => by
    show (!(decide (l < [a]))) = _
    rcases l with _ | ⟨c, l⟩
    · simp
    · rw [Bool.eq_iff_iff]; simp [List.cons_lt_cons_iff]
  have e2 : ∀ (a : Nat), l.length ≤ 1 → (!(decide ((S [a]).cps.toList < (S l).cps.toList))) = match l with | [] => true | c :: _ => decide (c ≤ a) := fun a hl => by
    show (!(decide ([a] < l))) = _
    rcases l with _ | ⟨c, _ | _⟩
    · simp
    · rw [Bool.eq_iff_iff]; simp [List.cons_lt_cons_iff]
    · simp at hl
  refine ae_of (pe_or (pe_chain pe_str (pe_local rfl) pe_str rfl rfl) fun _ => pe_or (pe_chain pe_str (pe_local rfl) pe_str rfl rfl) fun _ => ae_boolop1 (pe_cmp (pe_local rfl) pe_str rfl)) ?_
  refine cast (congrArg (fun z => Q (.bool z) H) ?_) q
  have k1 := e1 97 l; have k2 := e2 122 hl; have k3 := e1 65 l; have k4 := e2 90 hl; have k5 := S_eq l [95]
  refine Eq.symm ((congr (congrArg or (congr (congrArg and k1) k2)) (congr (congrArg or (congr (congrArg and k3) k4)) k5)).trans ?_)
  rcases l with _ | ⟨c, _ | _⟩
  · rfl
  · simp [letter1, letter, Bool.or_assoc]
  · simp at hl
end
end Mine
end

section
open PySem PySem.W PySem.Calls PyProof.Rows Builtin.ObjectAttr
namespace Mine
section
variable {d : Dt} {X : Int → AHeap → Prop} {H : AHeap} {Q : AV → AHeap → Prop}
theorem at_fld' {sc : Scope} {b : Nat} {σ : St} {X : Int → St → Prop} {v name : Str} {p p' : Pos} {x C : Addr} {fs : List (Str × AV)} {a : AV} {ns : List Str} {Q : St → Prop} {H : AHeap} (hv : σ.m.lookup v = some (.ref x)) (hH : σ.H = H.set x (.inst C fs)) (hok : okFld (CC d).K C ns = true) (h : Q ⟨σ.m, H.set x (.inst C (fput fs name a))⟩)
    (hn : name ∈ ns := by decide) (hz : Nat.ble (fput fs name a).length 1000 = true := by rfl) (hloc : sc.names.lookup v = some .local := by rfl) (hd : (v == ("__debug__" : Str)) = false := by decide) : AT (CC d) sc b (.Attribute (.Name v p) name p') a σ Q X :=
  at_fld hv (by rw [hH]; exact AHeap.set_self ..) hok (by rw [hH, AHeap.set_set]; exact h) hn hz hloc hd
/-- Token(..) -/
theorem c_token {kind text : List Nat} {line : Int} {f1 f2 f3 : Bool} (q : ∀ x P, H x = none → H P = none → x ≠ P → Q (.ref x) ((H.set P (.list [])).set x (.inst 71 (tokFs kind text line f1 f2 f3 0 P)))) :
    AC (CC d) 2 (.ref 71) [.str (S kind), .str (S text), .int line, .bool f1, .bool f2, .bool f3] H Q X := by
  refine ac_class (fI := 68) (by kernel_rfl) (by kernel_rfl) (by kernel_rfl) fun x hx => ?_
  refine ac_fnL (ns := ["self", "kind", "text", "line", "is_first", "has_left", "has_right"]) (by kernel_rfl) (fun _ _ _ _ _ _ _ => by show _ = _; kernel_rfl) (by kernel_rfl) ?_
  refine as_consL ?_
  intro Kq
  refine a1_assign (ae_local rfl (at_fld' rfl rfl (okTok d) ?_))
  refine as_consL ?_
  intro Kq
  refine a1_assign (ae_local rfl (at_fld' rfl rfl (okTok d) ?_))
  refine as_consL ?_
  intro Kq
  refine a1_assign (ae_local rfl (at_fld' rfl rfl (okTok d) ?_))
  refine as_consL ?_
  intro Kq
  refine a1_assign (ae_local rfl (at_fld' rfl rfl (okTok d) ?_))
  refine as_consL ?_
  intro Kq
  refine a1_assign (ae_local rfl (at_fld' rfl rfl (okTok d) ?_))
  refine as_consL ?_
  intro Kq
  refine a1_assign (ae_local rfl (at_fld' rfl rfl (okTok d) ?_))
  refine as_consL ?_
  intro Kq
  refine a1_assign (ae_int (at_fld' rfl rfl (okTok d) ?_))
  refine as_consL ?_
  intro Kq
  refine a1_assign (ae_list (aes_nil ⟨by decide, fun P hP => ?_⟩))
  have hxP : x ≠ P := fun e => by subst e; rw [show St.H _ x = _ from AHeap.set_self ..] at hP; injection hP
  refine at_fld (x := x) (C := 71) rfl ((AHeap.set_ne _ _ hxP).trans (AHeap.set_self ..)) (okTok d) ?_
  refine as_nil ⟨rfl, ?_⟩
  have hP' : H P = none := (AHeap.set_ne _ _ (Ne.symm hxP)).symm.trans hP
  have := q x P hx hP' hxP
  refine cast (congrArg (Q (.ref x)) ?_) this
  show _ = ((AHeap.set _ _ _).set P _).set x _
  rw [AHeap.set_comm _ (a := x) (b := P) _ _ hxP, AHeap.set_set]
  rfl
/-- Scan(text) -/
theorem c_scan {t : List Nat} (q : ∀ x L, H x = none → H L = none → x ≠ L → Q (.ref x) ((H.set L (.list [])).set x (.inst 107 (scanFs t t 1 L 0 0)))) :
    AC (CC d) 2 (.ref 107) [.str (S t)] H Q X := by
  refine ac_class (fI := 89) (by kernel_rfl) (by kernel_rfl) (by kernel_rfl) fun x hx => ?_
  refine ac_fnL (ns := ["self", "text"]) (by kernel_rfl) (fun _ _ => by show _ = _; kernel_rfl) (by kernel_rfl) ?_
  refine as_consL ?_
  intro Kq
  refine a1_assign (ae_local rfl (at_fld' rfl rfl (okScan d) ?_))
  refine as_consL ?_
  intro Kq
  refine a1_assign (ae_int (at_fld' rfl rfl (okScan d) ?_))
  refine as_consL ?_
  intro Kq
  refine a1_assign (ae_int (at_fld' rfl rfl (okScan d) ?_))
  refine as_consL ?_
  intro Kq
  refine a1_assign (ae_list (aes_nil ⟨by decide, fun P hP => ?_⟩))
  have hxP : x ≠ P := fun e => by subst e; rw [show St.H _ x = _ from AHeap.set_self ..] at hP; injection hP
  refine at_fld (x := x) (C := 107) rfl ((AHeap.set_ne _ _ hxP).trans (AHeap.set_self ..)) (okScan d) ?_
  refine as_consL ?_
  intro Kq
  refine a1_assign (ae_int (at_fld' rfl rfl (okScan d) ?_))
  refine as_consL ?_
  intro Kq
  refine a1_assign (ae_int (at_fld' rfl rfl (okScan d) ?_))
  refine as_nil ⟨rfl, ?_⟩
  have hP' : H P = none := (AHeap.set_ne _ _ (Ne.symm hxP)).symm.trans hP
  have := q x P hx hP' hxP
  refine cast (congrArg (Q (.ref x)) ?_) this
  show _ = ((AHeap.set _ _ _).set P _).set x _
  rw [AHeap.set_comm _ (a := x) (b := P) _ _ hxP, AHeap.set_set]
  have : (0 : Int) = (t.length : Int) - t.length := by exact Int.le_antisymm (linI [] [_] (.n 0) (.s (.c (.v 0)) (.c (.v 0))) []  rfl) (linI [] [_] (.s (.c (.v 0)) (.c (.v 0))) (.n 0) []  rfl)
  unfold scanFs
  rw [← this]
  rfl
end
end Mine
end

section
open PySem PySem.W PySem.Calls PyProof.Rows Builtin.ObjectAttr
namespace Mine
/-- a scan stands in the heap -/
structure Sc (H : AHeap) (x : Addr) (t cs : List Nat) (ln : Int) (L : Addr) (last dp : Int) : Prop where
  hx : H x = some (.inst 107 (scanFs t cs ln L last dp))
  hs : cs <:+ t
  ht : t.length ≤ 1000000
section
variable {d : Dt} {sc : Scope} {b : Nat} {σ : St} {X : Int → St → Prop} {x L : Addr} {t cs : List Nat} {ln last dp : Int}
theorem pe_sign {v : Str} {ap p p' : Pos} {pl : Env → Sem Bool} (hv : σ.m.lookup v = some (.ref x)) (h : Sc σ.H x t cs ln L last dp) (hb : 1 ≤ b := by first | assumption | exact Nat.le_of_ble_eq_true rfl | omega)
    (he : ∀ env, eval (.Call (.Attribute (.Name v p) "sign" ap) [] [] p') env = (do
      let ov ← eval (.Name v p) env
      standAt ap.atName
      let (f, first) ← holding [ov] (getMethod ov "sign" (pl env))
      callWith p' f first (backTo p' (starEach [] env)) []) := by intro _; rfl) (hloc : sc.names.lookup v = some .local := by rfl) (hd : (v == ("__debug__" : Str)) = false := by decide) :
    PE (CC d) sc b (.Call (.Attribute (.Name v p) "sign" ap) [] [] p') σ (.str (S (cs.take 1))) X :=
  ae_meth0 (ae_local hv ⟨.ref 97, [.ref x], mr_inst h.hx rfl (by kernel_rfl), by kernel_rfl, (c_sign h.hx h.hs h.ht ⟨rfl, rfl⟩).to hb⟩ hloc hd) he
theorem pe_sign1 {v : Str} {k : Int} {kk : Nat} {ap p p' p2 : Pos} {pl : Env → Sem Bool} (hv : σ.m.lookup v = some (.ref x)) (h : Sc σ.H x t cs ln L last dp) (hk : 0 ≤ k) (hb : 1 ≤ b := by first | assumption | exact Nat.le_of_ble_eq_true rfl | omega)
    (he : ∀ env, eval (.Call (.Attribute (.Name v p) "sign" ap) [.Constant (.int k) kk p2] [] p') env = (do
      let ov ← eval (.Name v p) env
      standAt ap.atName
      let (f, first) ← holding [ov] (getMethod ov "sign" (pl env))
      callWith p' f first (backTo p' (starEach [.Constant (.int k) kk p2] env)) []) := by intro _; rfl) (hloc : sc.names.lookup v = some .local := by rfl) (hd : (v == ("__debug__" : Str)) = false := by decide) :
    PE (CC d) sc b (.Call (.Attribute (.Name v p) "sign" ap) [.Constant (.int k) kk p2] [] p') σ (.str (S ((cs.drop k.toNat).take 1))) X :=
  ae_meth (ae_local hv ⟨.ref 97, [.ref x], mr_inst h.hx rfl (by kernel_rfl), by kernel_rfl, aes_cons (ae_int (aes_nil ((c_sign1 h.hx h.hs h.ht hk ⟨rfl, rfl⟩).to hb)))⟩ hloc hd) (NoStar.cons fun _ => ⟨rfl, rfl⟩) he
theorem pe_scan {v name : Str} {p p' : Pos} {a : AV} (hv : σ.m.lookup v = some (.ref x)) (h : Sc σ.H x t cs ln L last dp) (hl : (scanFs t cs ln L last dp).lookup name = some a) (hn : name ∈ scanNs := by decide) (hb : notBi a = true := by rfl)
    (hloc : sc.names.lookup v = some .local := by rfl) (hd : (v == ("__debug__" : Str)) = false := by decide) : PE (CC d) sc b (.Attribute (.Name v p) name p') σ a X :=
  ae_fld hv h.hx (okScan d) hl ⟨rfl, rfl⟩ hn hb hloc hd
/-- scan.text[scan.at:scan.at + 2] -/
theorem pe_pair {v : Str} {p1 p2 p3 p4 p5 p6 p7 p8 p9 p10 : Pos} {k : Int} {kk : Nat} (hv : σ.m.lookup v = some (.ref x)) (h : Sc σ.H x t cs ln L last dp) (hk : 0 ≤ k) (hloc : sc.names.lookup v = some .local := by rfl) (hd : (v == ("__debug__" : Str)) = false := by decide) :
    PE (CC d) sc b (.Subscript (.Attribute (.Name v p1) "text" p2) (.Slice (some (.Attribute (.Name v p3) "at" p4)) (some (.BinOp (.Attribute (.Name v p5) "at" p6) .Add (.Constant (.int k) kk p7) p8)) none p9) p10) σ (.str (S (cs.take k.toNat))) X := by
  refine ae_slice (ae_of (pe_scan hv h rfl (by decide) rfl hloc hd) ⟨_, rfl, by rw [S_len]; exact Nat.le_trans h.ht (by decide), ?_⟩)
  refine ae_of (pe_scan hv h rfl (by decide) rfl hloc hd) ⟨_, rfl, ?_⟩
  refine ae_bin (ae_of (pe_scan hv h rfl (by decide) rfl hloc hd) (ae_int ?_))
  refine ⟨_, rfl, ?_, rfl⟩
  have := slice_rest h.hs 0 k (by exact linI [] [] (.n 0) (.n 0) []  rfl) hk
  rw [Int.add_zero, Int.sub_zero] at this
  rw [this]; rfl
/-- scan.text[begin:scan.at] -/
theorem pe_from {v w : Str} {p1 p2 p3 p4 p5 p6 p7 : Pos} {cs0 : List Nat} (hv : σ.m.lookup v = some (.ref x)) (hw : σ.m.lookup w = some (.int ((t.length : Int) - cs0.length))) (h : Sc σ.H x t cs ln L last dp) (h0 : cs0 <:+ t) (h1 : cs <:+ cs0)
    (hloc : sc.names.lookup v = some .local := by rfl) (hd : (v == ("__debug__" : Str)) = false := by decide) (hloc' : sc.names.lookup w = some .local := by rfl) (hd' : (w == ("__debug__" : Str)) = false := by decide) :
    PE (CC d) sc b (.Subscript (.Attribute (.Name v p1) "text" p2) (.Slice (some (.Name w p3)) (some (.Attribute (.Name v p4) "at" p5)) none p6) p7) σ (.str (S (cs0.take (cs0.length - cs.length)))) X := by
  refine ae_slice (ae_of (pe_scan hv h rfl (by decide) rfl hloc hd) ⟨_, rfl, by rw [S_len]; exact Nat.le_trans h.ht (by decide), ?_⟩)
  refine ae_local hw ⟨_, rfl, ?_⟩ hloc' hd'
  refine ae_of (pe_scan hv h rfl (by decide) rfl hloc hd) ⟨_, rfl, ?_, rfl⟩
  have hl := h1.length_le
  have hl0 := h0.length_le
  have := slice_rest h0 0 ((cs0.length : Int) - cs.length) (by exact linI [] [] (.n 0) (.n 0) []  rfl) (by exact linI [] [_, _] (.n 0) (.s (.c (.v 1)) (.c (.v 0))) [((.c (.v 0)), (.c (.v 1)))] (Int.ofNat_le.mpr hl) rfl)
  rw [Int.add_zero, Int.sub_zero, show (t.length : Int) - cs0.length + (cs0.length - cs.length) = t.length - cs.length by exact Int.le_antisymm (linI [] [_, _, _] (.a (.s (.c (.v 0)) (.c (.v 1))) (.s (.c (.v 1)) (.c (.v 2)))) (.s (.c (.v 0)) (.c (.v 2))) []  rfl) (linI [] [_, _, _] (.s (.c (.v 0)) (.c (.v 2))) (.a (.s (.c (.v 0)) (.c (.v 1))) (.s (.c (.v 1)) (.c (.v 2)))) []  rfl), Int.toNat_sub] at this
  rw [this]; rfl
/-- the scan goes on -/
theorem Sc.to (h : Sc σ.H x t cs ln L last dp) {H : AHeap} {cs' : List Nat} {ln' last' dp' : Int} {L' : Addr} (hc : cs' <:+ t) : Sc (H.set x (.inst 107 (scanFs t cs' ln' L' last' dp'))) x t cs' ln' L' last' dp' := ⟨AHeap.set_self .., hc, h.ht⟩
theorem Sc.set {H : AHeap} {t cs' : List Nat} {ln' last' dp' : Int} {L' : Addr} (hc : cs' <:+ t) (ht : t.length ≤ 1000000) : Sc (H.set x (.inst 107 (scanFs t cs' ln' L' last' dp'))) x t cs' ln' L' last' dp' := ⟨AHeap.set_self .., hc, ht⟩
/-- scan.at += k -/
theorem a1_go {v : Str} {p p' p2 p3 : Pos} {kk : Nat} {k : Int} {H : AHeap} {cs' : List Nat} {m : List (Str × AV)} {Q : AFl → St → Prop} (hv : m.lookup v = some (.ref x)) (hk : k = (cs.length : Int) - cs'.length)
    (h : Q .next ⟨m, H.set x (.inst 107 (scanFs t cs' ln L last dp))⟩) (hloc : sc.names.lookup v = some .local := by rfl) (hd : (v == ("__debug__" : Str)) = false := by decide) :
    A1 (CC d) sc b (.AugAssign (.Attribute (.Name v p) "at" p') .Add (.Constant (.int k) kk p2) p3) ⟨m, H.set x (.inst 107 (scanFs t cs ln L last dp))⟩ Q X := by
  refine a1_augfld hv (AHeap.set_self ..) (okScan d) rfl (ae_int ⟨rfl, k, rfl, ?_⟩) (by decide) (by intro _; rfl) hloc hd
  rw [AHeap.set_set]
  have : (t.length : Int) - cs.length + k = t.length - cs'.length := by exact Int.le_antisymm (linI [_] [_, _, _] (.a (.s (.c (.v 2)) (.c (.v 0))) (.v 0)) (.s (.c (.v 2)) (.c (.v 1))) [((.v 0), (.s (.c (.v 0)) (.c (.v 1))))] (Int.le_of_eq hk) rfl) (linI [_] [_, _, _] (.s (.c (.v 2)) (.c (.v 1))) (.a (.s (.c (.v 2)) (.c (.v 0))) (.v 0)) [((.s (.c (.v 0)) (.c (.v 1))), (.v 0))] (Int.le_of_eq (Eq.symm hk)) rfl)
  rw [this]
  exact h
theorem a1_go0 {v : Str} {p p' p2 p3 : Pos} {kk : Nat} {k : Int} {cs' : List Nat} {Q : AFl → St → Prop} (hv : σ.m.lookup v = some (.ref x)) (h0 : Sc σ.H x t cs ln L last dp) (hk : k = (cs.length : Int) - cs'.length)
    (h : Q .next ⟨σ.m, σ.H.set x (.inst 107 (scanFs t cs' ln L last dp))⟩) (hloc : sc.names.lookup v = some .local := by rfl) (hd : (v == ("__debug__" : Str)) = false := by decide) :
    A1 (CC d) sc b (.AugAssign (.Attribute (.Name v p) "at" p') .Add (.Constant (.int k) kk p2) p3) σ Q X := by
  have e := AHeap.set_same h0.hx
  obtain ⟨m, H⟩ := σ
  have := a1_go (d := d) (sc := sc) (b := b) (X := X) (p := p) (p' := p') (p2 := p2) (p3 := p3) (kk := kk) (k := k) (Q := Q) (H := H) (cs := cs) (cs' := cs') (ln := ln) (L := L) (last := last) (dp := dp) (t := t) hv hk h hloc hd
  rwa [show H.set x (.inst 107 (scanFs t cs ln L last dp)) = H from e] at this
end
end Mine
end

section
open PySem PySem.W PySem.Calls PyProof.Rows Builtin.ObjectAttr
namespace Mine
theorem aw_ind {c : Cx} {sc : Scope} {b : Nat} {X : Int → St → Prop} {α : Type} {test : Expr} {body : List Stmt} {Q : AFl → St → Prop} {σ₀ : St} (I : α → Prop) (σ : α → St) (μ : α → Nat)
    (h : ∀ a, I a → (∀ a', I a' → μ a' < μ a → AW c sc b test body (σ a') Q X) → AB c sc b test (σ a) (fun z σ₁ => if z then AS c sc b body σ₁ (fun fl σ₂ => match fl with
      | .next | .cont => AW c sc b test body σ₂ Q X
      | .brk => Q .next σ₂
      | .ret a => Q (.ret a) σ₂) X else Q .next σ₁) X) (a : α) (ha : I a) (e : σ₀ = σ a) : AW c sc b test body σ₀ Q X := by
  subst e
  have key : ∀ n a, I a → μ a = n → AW c sc b test body (σ a) Q X := by
    intro n
    induction n using Nat.strongRecOn with
    | ind n ih => exact fun a ha hn => aw_unroll (h a ha fun a' ha' hl => ih (μ a') (hn ▸ hl) a' ha' rfl)
  exact key _ a ha rfl

/-- how a text of one sign or none lies in a row of signs -/
theorem occ_take (signs cs : List Nat) : occ (S signs) (S (cs.take 1)) = match cs with | [] => true | c :: _ => decide (c ∈ signs) := by
  rcases cs with _ | ⟨c, cs⟩
  · exact occ_nil _
  · exact occ_one _ _
theorem ne_take (cs : List Nat) : ((S (cs.take 1)) != (S [])) = match cs with | [] => false | _ :: _ => true := by
  rw [bne, S_eq]
  rcases cs with _ | ⟨c, cs⟩ <;> rfl
theorem ne_of {H : AHeap} {x k : Addr} {o : AO} (hx : H x = some o) (hk : H k = none) : x ≠ k := fun e => by rw [e, hk] at hx; injection hx
noncomputable def hd1 (p : Nat → Bool) : List Nat → Bool | [] => false | c :: _ => p c
theorem hd1_false {p : Nat → Bool} {cs : List Nat} (h : hd1 p cs = false) : cs.dropWhile p = cs := by
  rcases cs with _ | ⟨c, cs⟩
  · rfl
  · rw [List.dropWhile_cons, if_neg (by rw [show p c = false from h]; simp)]
theorem hd1_true {p : Nat → Bool} {cs : List Nat} (h : hd1 p cs = true) : ∃ c cs', cs = c :: cs' ∧ p c = true := by
  rcases cs with _ | ⟨c, cs⟩
  · injection h
  · exact ⟨c, cs, rfl, h⟩
section
variable {d : Dt} {H : AHeap} {X : Int → AHeap → Prop} {Q : AV → AHeap → Prop} {x L : Addr} {t cs : List Nat} {ln last dp : Int}
/-- Scan.put(kind, text) -/
theorem c_put {kind text : List Nat} {as : List AV} (h : Sc H x t cs ln L last dp) (hL : H L = some (.list as)) (hz : as.length ≤ 1000000)
    (q : ∀ k P, H k = none → H P = none → k ≠ P → Q (.ref k) ((((H.set P (.list [])).set k (.inst 71 (tokFs kind text ln (ln != last) true true 0 P))).set x (.inst 107 (scanFs t cs ln L ln dp))).set L (.list (as ++ [.ref k])))) :
    AC (CC d) 3 (.ref 104) [.ref x, .str (S kind), .str (S text)] H Q X := by
  refine ac_fnL (ns := ["self", "kind", "text"]) (by kernel_rfl) (fun _ _ _ => by show _ = _; kernel_rfl) (by kernel_rfl) ?_
  refine as_consL ?_
  intro Kq
  refine a1_assign (ae_call (ae_global (a := .ref 71) (v := .ref 71) (by kernel_rfl) (.ref _) ⟨by kernel_rfl, ?_⟩))
  refine aes_cons (ae_local rfl (aes_cons (ae_local rfl (aes_cons (ae_of (pe_scan rfl h rfl) (aes_cons (ae_of (pe_cmp (pe_scan rfl h rfl) (pe_scan rfl h rfl) rfl) ?_)))))))
  refine aes_cons (ae_bool (aes_cons (ae_bool (aes_nil ?_))))
  refine (c_token fun k P hk hP hkP => ?_).to (by decide)
  have hkx : x ≠ k := ne_of h.hx hk
  have hPx : x ≠ P := ne_of h.hx hP
  have hkL : L ≠ k := ne_of hL hk
  have hPL : L ≠ P := ne_of hL hP
  have hLx : L ≠ x := fun e => by rw [e] at hL; rw [h.hx] at hL; cases hL
  have h2 : Sc ((H.set P (.list [])).set k (.inst 71 (tokFs kind text ln (ln != last) true true 0 P))) x t cs ln L last dp := ⟨by rw [AHeap.set_ne _ _ hkx, AHeap.set_ne _ _ hPx]; exact h.hx, h.hs, h.ht⟩
  refine at_name ?_
  refine as_consL ?_
  intro Kq
  refine a1_assign (ae_of (pe_scan rfl h2 rfl) (at_fld rfl h2.hx (okScan d) ?_))
  have h3 : Sc (((H.set P (.list [])).set k (.inst 71 (tokFs kind text ln (ln != last) true true 0 P))).set x (.inst 107 (scanFs t cs ln L ln dp))) x t cs ln L ln dp := .set h.hs h.ht
  refine as_consL ?_
  intro Kq
  refine a1_expr (ae_meth (ae_of (pe_scan rfl h3 rfl) ⟨.bi "list.append", [.ref L], mr_list (as := as) ((AHeap.set_ne _ _ hLx).trans ((AHeap.set_ne _ _ hkL).trans ((AHeap.set_ne _ _ hPL).trans hL))) PySem.F.slot_list_append PySem.F.type_list_append, rfl, ?_⟩))
  refine aes_cons (ae_local rfl (aes_nil (acw_append (as := as) ((AHeap.set_ne _ _ hLx).trans ((AHeap.set_ne _ _ hkL).trans ((AHeap.set_ne _ _ hPL).trans hL))) hz ?_)))
  exact as_cons (a1_return (ae_local rfl (q k P hk hP hkP)))
/-- run_of(scan, signs) -/
theorem c_run {signs : List Nat} (h : Sc H x t cs ln L last dp) (q : Q (.str (S (cs.takeWhile (· ∈ signs)))) (H.set x (.inst 107 (scanFs t (cs.dropWhile (· ∈ signs)) ln L last dp)))) :
    AC (CC d) 2 (.ref 125) [.ref x, .str (S signs)] H Q X := by
  refine ac_fnL (ns := ["scan", "signs"]) (by kernel_rfl) (fun _ _ => by show _ = _; kernel_rfl) (by kernel_rfl) ?_
  refine as_consL ?_
  intro Kq
  refine a1_assign (ae_of (pe_scan rfl h rfl) (at_name ?_))
  refine as_consL ?_
  intro Kq
  refine a1_while ?_
  refine aw_ind (I := fun cs' => cs' <:+ cs ∧ cs'.dropWhile (· ∈ signs) = cs.dropWhile (· ∈ signs)) (σ := fun cs' => ⟨[("signs", .str (S signs)), ("scan", .ref x), ("begin", .int ((t.length : Int) - cs.length))], H.set x (.inst 107 (scanFs t cs' ln L last dp))⟩) (μ := List.length) (fun cs' ⟨hc, hd⟩ ih => ?_) cs ⟨List.suffix_refl _, rfl⟩ (congrArg (St.mk _) (AHeap.set_same h.hx).symm)
  have h1 : Sc (H.set x (.inst 107 (scanFs t cs' ln L last dp))) x t cs' ln L last dp := .set (hc.trans h.hs) h.ht
  refine ab_of (z := hd1 (· ∈ signs) cs') (PB.as (pb_and (pb_cmp (pe_sign rfl h1) pe_str rfl) fun _ => pb_and (pb_cmp (pe_sign rfl h1) (pe_local rfl) rfl) fun _ => pb_and_nil) ?_) ?_
  · refine (congr (congrArg and (ne_take cs')) (congrArg (· && true) (occ_take signs cs'))).trans ?_
    rcases cs' with _ | ⟨c, cs'⟩ <;> simp [hd1]
  cases hh : hd1 (· ∈ signs) cs' with
  | false =>
    refine as_consL ?_
    intro Kq
    refine a1_return (ae_of (pe_from rfl rfl h1 h.hs hc) ?_)
    have e := hd1_false hh
    rw [← e, hd]
    have : cs.take (cs.length - (cs.dropWhile (· ∈ signs)).length) = cs.takeWhile (· ∈ signs) := by
      have hh := List.takeWhile_append_dropWhile (p := fun c => decide (c ∈ signs)) (l := cs)
      have hl := congrArg List.length hh
      rw [List.length_append] at hl
      conv => lhs; arg 2; rw [← hh]
      rw [List.take_left' (Nat.eq_sub_of_add_eq hl)]
    rw [this]
    exact q
  | true =>
    refine xl_EEA (hd1_true hh) fun c cs'' zr1 hc1 => ?_; subst zr1
    refine as_consL ?_
    intro Kq
    refine a1_go rfl (cs' := cs'') (by rw [List.length_cons]; exact Int.le_antisymm (linI [] [_] (.n 1) (.s (.c (.a (.v 0) (.n 1))) (.c (.v 0))) []  rfl) (linI [] [_] (.s (.c (.a (.v 0) (.n 1))) (.c (.v 0))) (.n 1) []  rfl)) (as_nil (ih cs'' ⟨(List.suffix_cons _ _).trans hc, ?_⟩ (by simp)))
    rw [← hd, List.dropWhile_cons, if_pos hc1]
end
end Mine
end

section
open PySem PySem.W PySem.Calls PyProof.Rows Builtin.ObjectAttr
namespace Mine
theorem xkOf (d : Dt) : XK (CC d).K where
  mro := fun S => by kernel_rfl
  made := fun S => by kernel_rfl
  newChk := fun S rest => by kernel_rfl
  here := fun S => by kernel_rfl
  isT := fun S => by kernel_rfl
  subE := fun S => by kernel_rfl
  subA := fun S => by kernel_rfl
  subN := fun S => by kernel_rfl
  subB := fun S => by kernel_rfl
  subT := fun S => by kernel_rfl
  subO := fun S => by kernel_rfl
  subS := fun S => by kernel_rfl
  call := fun S => by kernel_rfl
  typ := fun S => by kernel_rfl
  ofT := fun S => by kernel_rfl
  init := fun S => by kernel_rfl
  bind := fun S self => by kernel_rfl
  obj := ⟨_, _, _, _, rfl, rfl, rfl⟩
  set := by kernel_rfl
  getI := by kernel_rfl
  getE := by kernel_rfl
  readB := by kernel_rfl
  gaB := by kernel_rfl
  gaE := fun S => by kernel_rfl
  opE := fun S => by kernel_rfl
  ga := by kernel_rfl
  gsub := by kernel_rfl
theorem i28Of (d : Dt) : ∃ fd, Init28 (CC d).K fd :=
  ⟨_, { look := ⟨_, _, _, rfl⟩, code := by kernel_rfl, glob := rfl, clos := rfl, bins := rfl, cell := by decide, co := rfl, gen := rfl, kind := rfl,
        body := ⟨_, _, _, _, _, _, _, _, _, _, rfl, _, fun env => rfl⟩, bind := fun a b => rfl, n1 := rfl, n2 := rfl, n3 := rfl }⟩
theorem i48Of (d : Dt) : ∃ fd, Init48 (CC d).K fd :=
  ⟨_, { look := ⟨_, _, _, rfl⟩, code := by kernel_rfl, glob := rfl, clos := rfl, bins := rfl, cell := by decide, co := rfl, gen := rfl, kind := rfl,
        body := ⟨_, _, _, _, _, _, _, _, _, _, rfl, _, fun env => rfl⟩, bind := fun a b c => rfl, n1 := rfl, n2 := rfl, n3 := rfl, n4 := rfl }⟩
theorem rkOf (d : Dt) : RK (CC d).K where
  toXK := xkOf d
  i28 := i28Of d
  i48 := i48Of d
  tw := by kernel_rfl
  tl := by kernel_rfl
  gS := by kernel_rfl
  gE := by kernel_rfl
  gF := by kernel_rfl
  keepS := by kernel_rfl
  keep28 := by kernel_rfl
theorem tkOf (d : Dt) : TK (CC d).K where
  toRK := rkOf d
  gaX := by kernel_rfl
  gtX := by kernel_rfl
  line := by kernel_rfl
  hasD := by kernel_rfl
  notTup := fun S => by kernel_rfl
end Mine
end

section
open PySem PySem.W PySem.Calls PyProof.Rows Builtin.ObjectAttr
namespace Mine
noncomputable def nl (c : Nat) : Int := if c = 10 then 1 else 0
/-- behind a remark -/
noncomputable def rem : List Nat → Nat → Int → Option (List Nat × Int)
  | [], _, _ => none
  | [_], _, _ => none
  | c :: c' :: cs, k, ln => if c = 47 ∧ c' = 42 then rem cs (k + 1) ln else if c = 42 ∧ c' = 47 then (if k = 1 then some (cs, ln) else rem cs (k - 1) ln) else rem (c' :: cs) k (ln + nl c)
theorem rem_suffix : ∀ {cs : List Nat} {k : Nat} {ln : Int} {cs' : List Nat} {ln' : Int}, rem cs k ln = some (cs', ln') → cs' <:+ cs
  | [], _, _, _, _, e => by injection e
  | [_], _, _, _, _, e => by injection e
  | c :: c' :: cs, k, ln, cs', ln', e => by
    have two : ∀ {r : List Nat}, r <:+ cs → r <:+ c :: c' :: cs := fun h => (h.trans (List.suffix_cons _ _)).trans (List.suffix_cons _ _)
    rw [rem] at e
    split at e
    · exact two (rem_suffix e)
    · split at e
      · split at e
        · cases e; exact two (List.suffix_refl _)
        · exact two (rem_suffix e)
      · exact (rem_suffix e).trans (List.suffix_cons _ _)
noncomputable def wsl : List Nat := [32, 9, 13, 10, 12]
inductive Rs (α : Type) where
  | ok (a : α)
  | bad (line : Int)
noncomputable def blanks : Nat → List Nat → Int → Option (Rs (List Nat × Int))
  | 0, _, _ => none
  | f + 1, cs, ln => match cs with
    | [] => some (.ok ([], ln))
    | c :: r =>
      if cs.take 2 = [47, 47] then blanks f (cs.dropWhile fun c => decide (c ≠ 10)) ln
      else if cs.take 2 = [47, 42] then (match rem (cs.drop 2) 1 ln with | none => some (.bad ln) | some (cs', ln') => blanks f cs' ln')
      else if c ∈ wsl then blanks f r (ln + nl c)
      else some (.ok (cs, ln))
section
variable {c : Cx} {sc : Scope} {b : Nat} {σ : St} {X : Int → St → Prop}
theorem pe_item0 {v : Str} {p p1 p2 : Pos} {kk : Nat} {a : Nat} {r : List Nat} (hv : σ.m.lookup v = some (.str (S (a :: r)))) (hz : r.length < 1000000) (hl : sc.names.lookup v = some .local := by rfl) (hd : (v == ("__debug__" : Str)) = false := by decide)
    (hs : ∀ o i, subscripted (.Constant (.int 0) kk p1) false o i = operate [o, i] (getItem o i) := by intro _ _; rfl) : PE c sc b (.Subscript (.Name v p) (.Constant (.int 0) kk p1) p2) σ (.str (S [a])) X := by
  refine ae_sub (ae_local hv (ae_int ⟨by decide, by decide, by exact linI [] [_] (.g (.c (.v 0))) (.n 0) []  rfl, by rw [S_len]; simp, ?_⟩) hl hd) hs
  exact ⟨congrArg AV.str (item_int (Int.le_refl 0) (by rfl)), rfl⟩
theorem pe_tuple2 {x y : Str} {k k1 k2 : Nat} {p p1 p2 : Pos} : PE c sc b (.Tuple [.Constant (.str x) k1 p1, .Constant (.str y) k2 p2] k p) σ (.tup [.str x, .str y]) X :=
  ae_tuple (aes_cons (ae_str (aes_cons (ae_str (aes_nil ⟨Nat.le_of_ble_eq_true rfl, rfl, rfl⟩)))))
end
theorem a1_swap2 {c : Cx} {sc : Scope} {b : Nat} {σ : St} {X : Int → St → Prop} {t value : Expr} {p : Pos} {x y : Str} {Q : AFl → St → Prop} (hw : ∀ env : Env, env.scope = sc → swappedStores [t] value env = pure (some [x, y]))
    (h : AE c sc b value σ (fun a σ₁ => ∃ a1 a2, a = .tup [a1, a2] ∧ Q .next ⟨fput (fput σ₁.m y a2) x a1, σ₁.H⟩) X)
    (h1 : sc.names.lookup x = some .local := by rfl) (h2 : sc.names.lookup y = some .local := by rfl) (hs : ∀ env, swapsWithSole [t] value p.line env = pure false := by intro _; rfl) : A1 c sc b (.Assign [t] value p) σ Q X :=
  a1_swap hw (h.mono (fun a σ₁ zf0 => xl_EEA zf0 fun a1 a2 e q => ⟨[a1, a2], e, rfl, q⟩) fun _ _ z => z) (fun n hn => by simp at hn; rcases hn with rfl | rfl; exact h1; exact h2) hs
section
variable {d : Dt} {H : AHeap} {X : Int → AHeap → Prop} {Q : AV → AHeap → Prop} {x L : Addr} {t cs : List Nat} {ln last dp : Int}
theorem pe_nl {sc : Scope} {b : Nat} {σ : St} {X : Int → St → Prop} {v : Str} {p p1 p2 p3 p4 p5 p6 p7 : Pos} {k0 k1 k2 k3 : Nat} {a : Nat} {r : List Nat} (hv : σ.m.lookup v = some (.str (S (a :: r)))) (hz : r.length < 1000000) (hl : sc.names.lookup v = some .local := by rfl) (hd : (v == ("__debug__" : Str)) = false := by decide)
    (hs : ∀ o i, subscripted (.Constant (.int 0) k0 p1) false o i = operate [o, i] (getItem o i) := by intro _ _; rfl) (hm : behindInMarks .Eq (.Constant (.str "\n") k1 p3) = false := by with_unfolding_all rfl) :
    PE (CC d) sc b (.IfExp (.Compare (.Subscript (.Name v p) (.Constant (.int 0) k0 p1) p2) [.Eq] [.Constant (.str "\n") k1 p3] p4) (.Constant (.int 1) k2 p5) (.Constant (.int 0) k3 p6) p7) σ (.int (nl a)) X := by
  refine ae_if (ab_of (PB.as (pb_cmp (pe_item0 hv hz hl hd hs) pe_str rfl hm) (S_eq [a] [10])) ?_)
  by_cases h : a = 10
  · subst h; exact ae_int ⟨rfl, rfl⟩
  · rw [show ([a] == [10]) = false from by simpa using h]
    refine ae_int ⟨?_, rfl⟩
    unfold nl; rw [if_neg h]
/-- skip_remark(scan) -/
theorem c_remark {r : List Nat} (h : Sc H x t (47 :: 42 :: r) ln L last dp) (q : ∀ cs' ln', rem r 1 ln = some (cs', ln') → Q .none (H.set x (.inst 107 (scanFs t cs' ln' L last dp)))) (qx : rem r 1 ln = none → ∀ cs' ln', X ln (H.set x (.inst 107 (scanFs t cs' ln' L last dp)))) :
    AC (CC d) 2 (.ref 132) [.ref x] H Q X := by
  refine ac_fnL (ns := ["scan"]) (by kernel_rfl) (fun _ => by show _ = _; kernel_rfl) (by kernel_rfl) ?_
  refine as_consL ?_
  intro Kq
  refine a1_swap2 (x := "line") (y := "deep") (fun env he => by cases env; cases he; rfl) ?_
  refine ae_tuple (aes_cons (ae_of (pe_scan rfl h rfl) (aes_cons (ae_int (aes_nil ⟨Nat.le_of_ble_eq_true rfl, _, _, rfl, ?_⟩)))))
  have qx' : ∀ {cs0 : List Nat} {k : Nat} {l : Int}, rem cs0 k l = rem r 1 ln → rem cs0 k l = none → ∀ cs' ln', X ln (H.set x (.inst 107 (scanFs t cs' ln' L last dp))) := fun e1 e2 => qx (e1 ▸ e2)
  refine as_consL ?_
  intro Kq
  refine a1_while (aw_unroll ?_)
  refine ab_of (z := true) (PB.as (pb_or (pb_cmp (pe_local rfl) pe_int rfl) fun _ => pb_or (pb_cmp (pe_pair rfl h (by decide)) pe_str rfl) fun _ => pb_or_nil) ?_) ?_
  · exact congr (congrArg or (show decide ((0 : Int) < 0) = false by decide)) (congrArg (· || false) (S_eq [47, 42] [47, 42]))
  refine as_consL ?_
  intro Kq
  refine a1_assign (ae_of (pe_pair rfl h (by decide)) (at_name ?_))
  refine as_consL ?_
  intro Kq
  refine a1_if (ab_of (z := false) (PB.as (pb_cmp (pe_local rfl) pe_str rfl) (S_eq [47, 42] [])) ?_)
  refine as_nil ?_
  refine as_consL ?_
  intro Kq
  refine a1_if (ab_of (z := true) (PB.as (pb_or (pb_cmp (pe_local rfl) pe_str rfl) fun _ => pb_or (pb_cmp (pe_local rfl) pe_str rfl) fun _ => pb_or_nil) ?_) ?_)
  · exact congr (congrArg or (S_eq [47, 42] [47, 42])) (congrArg (· || false) (S_eq [47, 42] [42, 47]))
  refine as_consL ?_
  intro Kq
  refine a1_augname rfl (ae_if (ab_of (z := true) (PB.as (pb_cmp (pe_local rfl) pe_str rfl) (S_eq [47, 42] [47, 42])) (ae_int ⟨_, rfl, ?_⟩)))
  refine as_consL ?_
  intro Kq
  refine a1_go0 rfl h (cs' := r) on2 ?_
  refine as_consL ?_
  intro Kq
  refine a1_if (ab_of (z := false) (pb_cmp (pe_local rfl) pe_int rfl) (as_nil (as_nil (as_nil ?_))))
  have hr : r <:+ t := ((List.suffix_cons _ _).trans (List.suffix_cons _ _)).trans h.hs
  -- the turns
  refine aw_ind (α := Nat × List Nat × Int × List Nat) (I := fun a => 1 ≤ a.1 ∧ a.2.1 <:+ t ∧ rem a.2.1 a.1 a.2.2.1 = rem r 1 ln) (σ := fun a => ⟨[("scan", .ref x), ("deep", .int a.1), ("line", .int ln), ("pair", .str (S a.2.2.2))], H.set x (.inst 107 (scanFs t a.2.1 a.2.2.1 L last dp))⟩) (μ := fun a => a.2.1.length)
    (tup4 fun k cs' ln' pr ha ih => ?_) (1, r, ln, [47, 42]) ⟨Nat.le_refl 1, hr, rfl⟩ rfl
  refine xl_AA ha fun hk hc he => ?_; try clear ha
  dsimp only at hk hc he ih ⊢
  have h1 : Sc (H.set x (.inst 107 (scanFs t cs' ln' L last dp))) x t cs' ln' L last dp := .set hc h.ht
  refine ab_of (z := true) (PB.as (pb_or (pb_cmp (pe_local rfl) pe_int rfl) fun _ => pb_or (pb_cmp (pe_pair rfl h1 (by decide)) pe_str rfl) fun _ => pb_or_nil) ?_) ?_
  · exact (congrArg (or · _) (show decide ((0 : Int) < k) = true from decide_eq_true (by exact linI [] [_] (.a (.n 0) (.n 1)) (.c (.v 0)) [((.c (.n 1)), (.c (.v 0)))] (Int.ofNat_le.mpr hk) rfl))).trans (Bool.true_or _)
  refine as_consL ?_
  intro Kq
  refine a1_assign (ae_of (pe_pair rfl h1 (by decide)) (at_name ?_))
  refine as_consL ?_
  intro Kq
  refine a1_if (ab_of (z := cs'.take 2 == []) (PB.as (pb_cmp (pe_local rfl) pe_str rfl) (S_eq _ [])) ?_)
  rcases cs' with _ | ⟨c, cs'⟩
  · refine as_consL ?_
    intro Kq
    refine a1_raise (rkOf d) (aes_cons (ae_str (aes_cons (ae_local rfl (aes_nil ⟨_, _, rfl, ?_⟩)))))
    exact qx' he (by rfl) _ _
  refine as_nil ?_
  have hc2 := (List.suffix_cons _ _).trans hc
  refine as_consL ?_
  intro Kq
  refine a1_if (ab_of (z := (c :: cs').take 2 == [47, 42] || (c :: cs').take 2 == [42, 47]) (PB.as (pb_or (pb_cmp (pe_local rfl) pe_str rfl) fun _ => pb_or (pb_cmp (pe_local rfl) pe_str rfl) fun _ => pb_or_nil) ?_) ?_)
  · exact (congr (congrArg or (S_eq _ [47, 42])) (congrArg (· || false) (S_eq _ [42, 47]))).trans (by simp)
  have other : ((c :: cs').take 2 == [47, 42]) = false → ((c :: cs').take 2 == [42, 47]) = false → rem (c :: cs') k ln' = rem cs' k (ln' + nl c) := fun e1 e2 => by
    rcases cs' with _ | ⟨c', cs'⟩
    · rfl
    · rw [rem, if_neg (by simpa using e1), if_neg (by simpa using e2)]
  cases z1 : ((c :: cs').take 2 == [47, 42]) with
  | true =>
    obtain ⟨c', cs', rfl⟩ : ∃ c' r', cs' = c' :: r' := by rcases cs' with _ | ⟨c', r'⟩; simp at z1; exact ⟨_, _, rfl⟩
    obtain ⟨rfl, rfl⟩ : c = 47 ∧ c' = 42 := by simpa using z1
    refine as_consL ?_
    intro Kq
    refine a1_augname rfl (ae_if (ab_of (z := true) (PB.as (pb_cmp (pe_local rfl) pe_str rfl) (S_eq _ [47, 42])) (ae_int ⟨_, rfl, ?_⟩)))
    refine as_consL ?_
    intro Kq
    refine a1_go rfl (cs' := cs') on2 ?_
    refine as_consL ?_
    intro Kq
    refine a1_if (ab_of (z := false) (PB.as (pb_cmp (pe_local rfl) pe_int rfl) (beq_eq_false_iff_ne.mpr succ_ne)) (as_nil (as_nil (as_nil ?_))))
    refine ih (k + 1, cs', ln', [47, 42]) ⟨by simp, (List.suffix_cons _ _).trans hc2, ?_⟩ le2
    rw [← he, rem, if_pos ⟨rfl, rfl⟩]
  | false =>
    cases z2 : ((c :: cs').take 2 == [42, 47]) with
    | true =>
      obtain ⟨c', cs', rfl⟩ : ∃ c' r', cs' = c' :: r' := by rcases cs' with _ | ⟨c', r'⟩; simp at z2; exact ⟨_, _, rfl⟩
      obtain ⟨rfl, rfl⟩ : c = 42 ∧ c' = 47 := by simpa using z2
      refine as_consL ?_
      intro Kq
      refine a1_augname rfl (ae_if (ab_of (z := false) (PB.as (pb_cmp (pe_local rfl) pe_str rfl) (S_eq _ [47, 42])) (ae_neg (ae_int ⟨_, rfl, _, rfl, ?_⟩))))
      refine as_consL ?_
      intro Kq
      refine a1_go rfl (cs' := cs') on2 ?_
      rw [rem, if_neg (by decide), if_pos ⟨rfl, rfl⟩] at he
      by_cases hk1 : k = 1
      · subst hk1
        refine as_consL ?_
        intro Kq
        refine a1_if (ab_of (z := true) (pb_cmp (pe_local rfl) pe_int rfl) (as_consL ?_))
        intro Kq
        refine a1_return0 ?_
        exact q _ _ (by rw [← he, if_pos rfl])
      · refine as_consL ?_
        intro Kq
        refine a1_if (ab_of (z := false) (PB.as (pb_cmp (pe_local rfl) pe_int rfl) (beq_eq_false_iff_ne.mpr fun e => hk1 (Int.ofNat.inj (Int.sub_eq_zero.mp (show (k : Int) - 1 = 0 from e))))) (as_nil (as_nil (as_nil ?_))))
        rw [if_neg hk1] at he
        have := ih (k - 1, cs', ln', [42, 47]) ⟨Nat.le_sub_one_of_lt (Nat.lt_of_le_of_ne ‹1 ≤ k› (Ne.symm hk1)), (List.suffix_cons _ _).trans hc2, he⟩ le2
        rw [show ((k - 1 : Nat) : Int) = k + -1 from Int.ofNat_sub ‹1 ≤ k›] at this
        exact this
    | false =>
      refine as_consL ?_
      intro Kq
      refine a1_augfld rfl (AHeap.set_self ..) (okScan d) rfl (ae_of (pe_nl rfl (Nat.lt_of_le_of_lt (List.length_take_le _ _) (by decide))) ⟨rfl, _, rfl, ?_⟩)
      rw [AHeap.set_set]
      refine as_consL ?_
      intro Kq
      refine a1_go (ln := ln' + nl c) rfl (cs' := cs') on1 (as_nil (as_nil ?_))
      exact ih (k, cs', ln' + nl c, (c :: cs').take 2) ⟨hk, hc2, by rw [← he, other z1 z2]⟩ (by simp)
end
end Mine
end

section
open PySem PySem.W PySem.Calls PyProof.Rows Builtin.ObjectAttr
namespace Mine
theorem look_ne {m : List (Str × AV)} {x y : Str} {a : AV} {o : Option AV} (h : m.lookup y = o) (hn : y ≠ x := by decide) : (fput m x a).lookup y = o := (lookup_fput ..).trans ((if_neg hn).trans h)
theorem look_eq {m : List (Str × AV)} {x : Str} {a : AV} : (fput m x a).lookup x = some a := (lookup_fput ..).trans (if_pos rfl)
theorem contains_take {a : Nat} (cs : List Nat) : (!([S [], S [a]] : List Str).contains (S (cs.take 1))) = hd1 (fun c => decide (c ≠ a)) cs := by
  rcases cs with _ | ⟨c, cs⟩
  · simp [hd1, List.contains_cons]
  · simp only [List.contains_cons, S_eq, hd1, List.take_succ_cons, List.take_zero, List.contains_nil, Bool.or_false]
    by_cases h : c = a <;> simp [h]
section
variable {d : Dt} {H : AHeap} {X : Int → AHeap → Prop} {Q : AV → AHeap → Prop} {x L : Addr} {t cs : List Nat} {ln last dp : Int}
/-- skip_blanks(scan) -/
theorem c_blanks {f : Nat} {res : Rs (List Nat × Int)} (h : Sc H x t cs ln L last dp) (e : blanks f cs ln = some res) (q : ∀ cs' ln', res = .ok (cs', ln') → cs' <:+ cs → Q .none (H.set x (.inst 107 (scanFs t cs' ln' L last dp)))) (qx : ∀ l, res = .bad l → ∀ cs' ln', X l (H.set x (.inst 107 (scanFs t cs' ln' L last dp)))) :
    AC (CC d) 3 (.ref 139) [.ref x] H Q X := by
  refine ac_fnL (ns := ["scan"]) (by kernel_rfl) (fun _ => by show _ = _; kernel_rfl) (by kernel_rfl) ?_
  refine as_consL ?_
  intro Kq
  refine a1_while ?_
  refine aw_ind (α := Nat × List (Str × AV) × List Nat × Int) (I := fun a => a.2.1.lookup ("scan" : Str) = some (AV.ref x) ∧ a.2.2.1 <:+ cs ∧ blanks a.1 a.2.2.1 a.2.2.2 = some res) (σ := fun a => ⟨a.2.1, H.set x (.inst 107 (scanFs t a.2.2.1 a.2.2.2 L last dp))⟩) (μ := fun a => a.1)
    (tup4 fun f m cs' ln' ha ih => ?_) (f, [("scan", .ref x)], cs, ln) ⟨rfl, List.suffix_refl _, e⟩ (congrArg (St.mk _) (AHeap.set_same h.hx).symm)
  refine xl_AA ha fun hm hc he => ?_; try clear ha
  dsimp only at hm hc he ih ⊢
  have h1 : Sc (H.set x (.inst 107 (scanFs t cs' ln' L last dp))) x t cs' ln' L last dp := .set (hc.trans h.hs) h.ht
  rcases f with _ | f
  · injection he
  refine ab_of (PB.as (pb_cmp (pe_sign hm h1) pe_str rfl) (ne_take cs')) ?_
  rcases cs' with _ | ⟨c, cs'⟩
  · refine as_nil (q _ _ ?_ hc)
    cases he; rfl
  refine as_consL ?_
  intro Kq
  refine a1_assign (ae_of (pe_pair hm h1 (by decide)) (at_name ?_))
  have hm' : ∀ {v : AV}, (fput m "pair" v).lookup ("scan" : Str) = some (.ref x) := look_ne hm
  rw [blanks] at he
  refine as_consL ?_
  intro Kq
  refine a1_if (ab_of (PB.as (pb_cmp (pe_local look_eq) pe_str rfl) (S_eq ((c :: cs').take 2) [47, 47])) ?_)
  by_cases z1 : (c :: cs').take 2 = [47, 47]
  · rw [if_pos z1] at he
    rw [show ((c :: cs').take 2 == [47, 47]) = true from beq_iff_eq.mpr z1]
    refine as_consL ?_
    intro Kq
    refine a1_while ?_
    refine aw_ind (I := fun cs'' => cs'' <:+ c :: cs' ∧ cs''.dropWhile (fun c => decide (c ≠ 10)) = (c :: cs').dropWhile (fun c => decide (c ≠ 10))) (σ := fun cs'' => ⟨fput m "pair" (.str (S ((c :: cs').take 2))), H.set x (.inst 107 (scanFs t cs'' ln' L last dp))⟩) (μ := List.length)
      (fun cs'' hh ih2 => ?_) (c :: cs') ⟨List.suffix_refl _, rfl⟩ rfl
    have h2 : Sc (H.set x (.inst 107 (scanFs t cs'' ln' L last dp))) x t cs'' ln' L last dp := .set (hh.1.trans (hc.trans h.hs)) h.ht
    refine ab_of (PB.as (pb_cmp (pe_sign hm' h2) pe_tuple2 ⟨[_, _], rfl, rfl⟩) (contains_take (a := 10) cs'')) ?_
    cases hd : hd1 (fun c => decide (c ≠ 10)) cs'' with
    | false =>
      refine as_nil (as_nil (ih (f, _, cs'', ln') ⟨hm', hh.1.trans hc, ?_⟩ (Nat.lt_succ_self _)))
      rw [← he, ← hh.2, hd1_false hd]
    | true =>
      refine xl_EEA (hd1_true hd) fun c2 cs2 zr1 hc2 => ?_; subst zr1
      refine as_consL ?_
      intro Kq
      refine a1_go hm' (cs' := cs2) (by rw [List.length_cons]; exact Int.le_antisymm (linI [] [_] (.n 1) (.s (.c (.a (.v 0) (.n 1))) (.c (.v 0))) []  rfl) (linI [] [_] (.s (.c (.a (.v 0) (.n 1))) (.c (.v 0))) (.n 1) []  rfl)) (as_nil (ih2 cs2 ⟨(List.suffix_cons _ _).trans hh.1, ?_⟩ (by simp)))
      rw [← hh.2, List.dropWhile_cons (x := c2), if_pos hc2]
  rw [if_neg z1] at he
  rw [show ((c :: cs').take 2 == [47, 47]) = false from beq_eq_false_iff_ne.mpr z1]
  refine as_consL ?_
  intro Kq
  refine a1_if (ab_of (PB.as (pb_cmp (pe_local look_eq) pe_str rfl) (S_eq ((c :: cs').take 2) [47, 42])) ?_)
  by_cases z2 : (c :: cs').take 2 = [47, 42]
  · rw [if_pos z2] at he
    rw [show ((c :: cs').take 2 == [47, 42]) = true from beq_iff_eq.mpr z2]
    obtain ⟨c', r, rfl⟩ : ∃ c' r', cs' = c' :: r' := by rcases cs' with _ | ⟨c', r'⟩; simp at z2; exact ⟨_, _, rfl⟩
    obtain ⟨rfl, rfl⟩ : c = 47 ∧ c' = 42 := by simpa using z2
    refine as_consL ?_
    intro Kq
    refine a1_expr (ae_call (ae_global (a := .ref 132) (v := .ref 132) (by kernel_rfl) (.ref _) ⟨by kernel_rfl, ?_⟩))
    refine aes_cons (ae_local hm' (aes_nil ((c_remark h1 (fun cs2 ln2 e2 => ?_) fun e2 cs2 ln2 => ?_).to (by decide))))
    · rw [show List.drop 2 (47 :: 42 :: r) = r from rfl, e2] at he
      rw [AHeap.set_set]
      exact as_nil (as_nil (as_nil (ih (f, _, cs2, ln2) ⟨hm', (rem_suffix e2).trans (((List.suffix_cons _ _).trans (List.suffix_cons _ _)).trans hc), he⟩ (Nat.lt_succ_self _))))
    · rw [show List.drop 2 (47 :: 42 :: r) = r from rfl, e2] at he
      show X ln' ((AHeap.set H x _).set x _)
      rw [AHeap.set_set]
      exact qx ln' (by cases he; rfl) _ _
  rw [if_neg z2] at he
  rw [show ((c :: cs').take 2 == [47, 42]) = false from beq_eq_false_iff_ne.mpr z2]
  have hpair : ∀ {m : List (Str × AV)}, (fput m "pair" (.str (S ((c :: cs').take (Int.toNat 2))))).lookup ("pair" : Str) = some (.str (S (c :: cs'.take 1))) := look_eq
  refine as_consL ?_
  intro Kq
  refine a1_if (ab_of (PB.as (pb_cmp (pe_item0 hpair (Nat.lt_of_le_of_lt (List.length_take_le _ _) (by decide))) pe_str rfl) (occ_one wsl c)) ?_)
  by_cases z3 : c ∈ wsl
  · rw [if_pos z3] at he
    rw [decide_eq_true z3]
    refine as_consL ?_
    intro Kq
    refine a1_augfld hm' (AHeap.set_self ..) (okScan d) rfl (ae_of (pe_nl hpair (Nat.lt_of_le_of_lt (List.length_take_le _ _) (by decide))) ⟨rfl, _, rfl, ?_⟩)
    rw [AHeap.set_set]
    refine as_consL ?_
    intro Kq
    refine a1_go (ln := ln' + nl c) hm' (cs' := cs') on1 (as_nil (as_nil (as_nil (as_nil ?_))))
    exact ih (f, _, cs', ln' + nl c) ⟨hm', (List.suffix_cons _ _).trans hc, he⟩ (Nat.lt_succ_self _)
  · rw [if_neg z3] at he
    rw [decide_eq_false z3]
    refine as_consL ?_
    intro Kq
    refine a1_return0 (q _ _ ?_ hc)
    cases he; rfl
end
end Mine
end

section
open PySem PySem.W PySem.Calls PyProof.Rows Builtin.ObjectAttr
namespace Mine
noncomputable def lset1 : List Nat := [32, 9, 13, 10, 12, 40, 91, 123, 44, 59, 58]
noncomputable def lset2 : List Nat := [61, 60, 62, 43, 45, 42, 47, 37, 38, 124]
noncomputable def rset : List Nat := [32, 9, 13, 10, 12, 41, 93, 125, 44, 59, 58]
/-- rp: what stands to the left, the nearest first -/
noncomputable def bleft (rp text : List Nat) : Bool := match rp with
  | [] => true
  | c :: r => if c = 47 ∧ r.take 1 = [42] then true else if text.take 1 = [63] ∧ c = 62 then false else decide (c ∈ lset1) || decide (c ∈ lset2)
noncomputable def bright1 (cs : List Nat) : Bool := match cs with
  | [] => true
  | c :: r => decide (c ∈ rset) || (c :: r).take 2 == [47, 47] || (c :: r).take 2 == [47, 42]
noncomputable def bright (cs text : List Nat) : Bool := bright1 cs || (cs.take 1 == [46] && (text == [33] || text == [63]))
section
variable {d : Dt} {H : AHeap} {X : Int → AHeap → Prop} {Q : AV → AHeap → Prop} {x L : Addr} {t cs : List Nat} {ln last dp : Int}
theorem pe_prev {sc : Scope} {b : Nat} {σ : St} {X : Int → St → Prop} {v w : Str} {p1 p2 p3 p4 p5 p6 : Pos} {kk : Nat} {c : Nat} {r cs0 : List Nat} (hv : σ.m.lookup v = some (.ref x)) (hw : σ.m.lookup w = some (.int (r.length + 1 : Nat))) (h : Sc σ.H x t cs ln L last dp) (ht : t = (c :: r).reverse ++ cs0)
    (hl : sc.names.lookup v = some .local := by rfl) (hd : (v == ("__debug__" : Str)) = false := by decide) (hl' : sc.names.lookup w = some .local := by rfl) (hd' : (w == ("__debug__" : Str)) = false := by decide)
    (hs : ∀ o i, subscripted (.BinOp (.Name w p3) .Sub (.Constant (.int 1) kk p4) p5) false o i = operate [o, i] (getItem o i) := by intro _ _; rfl) :
    PE (CC d) sc b (.Subscript (.Attribute (.Name v p1) "text" p2) (.BinOp (.Name w p3) .Sub (.Constant (.int 1) kk p4) p5) p6) σ (.str (S [c])) X := by
  have hl0 := h.ht
  have hlen : t.length = r.length + 1 + cs0.length := by rw [ht]; simp; exact Nat.le_antisymm (lin [_, _] (.a (.v 0) (.a (.v 1) (.n 1))) (.a (.a (.v 0) (.n 1)) (.v 1)) []  rfl) (lin [_, _] (.a (.a (.v 0) (.n 1)) (.v 1)) (.a (.v 0) (.a (.v 1) (.n 1))) []  rfl)
  refine ae_sub (ae_of (pe_scan hv h rfl (by decide) rfl hl hd) (ae_bin (ae_local hw (ae_int ?_) hl' hd'))) hs
  have e : ((r.length + 1 : Nat) : Int) - 1 = r.length := by exact Int.le_antisymm (linI [] [_] (.s (.c (.a (.v 0) (.n 1))) (.n 1)) (.c (.v 0)) []  rfl) (linI [] [_] (.c (.v 0)) (.s (.c (.a (.v 0) (.n 1))) (.n 1)) []  rfl)
  rw [show BinR .Sub (.int ((r.length + 1 : Nat) : Int)) (.int 1) σ = fun Q => Q (.int (((r.length + 1 : Nat) : Int) - 1)) σ from rfl, e]
  refine ⟨by omega, by omega, by rw [S_len]; omega, by rw [S_len]; omega, ?_⟩
  refine ⟨congrArg AV.str (item_int (by exact linI [] [_] (.n 0) (.c (.v 0)) []  rfl) ?_), rfl⟩
  rw [S_list, Int.toNat_natCast, ht]
  simp
theorem c_left {text rp cs0 : List Nat} {i : Int} (h : Sc H x t cs ln L last dp) (ht : t = rp.reverse ++ cs0) (hi : i = rp.length) (hz : text.length ≤ 1000000) (q : Q (.bool (bleft rp text)) H) :
    AC (CC d) 1 (.ref 146) [.ref x, .int i, .str (S text)] H Q X := by
  refine ac_fnL (ns := ["scan", "begin", "text"]) (by kernel_rfl) (fun _ _ _ => by show _ = _; kernel_rfl) (by kernel_rfl) ?_
  subst hi
  have hl0 := h.ht
  have hlen : t.length = rp.length + cs0.length := by rw [ht]; simp
  rcases rp with _ | ⟨c, r⟩
  · refine as_consL ?_
    intro Kq
    refine a1_if (ab_or (ab_of (z := true) (pb_cmp (pe_local rfl) pe_int rfl) ?_))
    exact as_cons (a1_return (ae_bool q))
  have hsl : Txt.slice (S t) (some (max (((c :: r).length : Int) - 2) 0)) (some ((c :: r).length : Int)) = S ((r.take 1).reverse ++ [c]) := by
    rcases r with _ | ⟨c2, r⟩
    · show Txt.slice (S t) (some 0) (some 1) = _
      rw [slice_int (show (0 : Int) ≤ 0 by decide) (show (0 : Int) ≤ 1 by decide), S_list, ht]
      rfl
    · rw [show max ((((c :: c2 :: r).length : Nat) : Int) - 2) 0 = ((r.reverse.length : Nat) : Int) from by rw [List.length_reverse]; exact (congrArg (max · 0) (Int.add_sub_cancel (r.length : Int) 2)).trans (Int.max_eq_left (Int.natCast_nonneg _))]
      rw [slice_int (Int.natCast_nonneg _) (by rw [List.length_reverse]; exact Int.ofNat_le.mpr (Nat.le_add_right r.length 2)), S_list, ht]
      congr 1
      rw [Int.toNat_natCast, show (((c :: c2 :: r).length : Nat) : Int) - (r.reverse.length : Nat) = 2 from by rw [List.length_reverse]; exact (congrArg (· - (r.length : Int)) (Int.add_comm (r.length : Int) 2)).trans (Int.add_sub_cancel 2 (r.length : Int))]
      simp
  refine as_consL ?_
  intro Kq
  refine a1_if (ab_of (z := decide (c = 47 ∧ r.take 1 = [42])) (PB.as (pb_or (pb_cmp (pe_local rfl) pe_int rfl) fun _ => pb_or (pb_cmp (a := .str (S ((r.take 1).reverse ++ [c]))) (ae_slice (ae_of (pe_scan rfl h rfl) ⟨_, rfl, by rw [S_len]; exact Nat.le_trans h.ht (by decide), ?_⟩)) pe_str rfl) fun _ => pb_or_nil) ?_) ?_)
  · refine ae_call (ae_builtin (a := .bi "max") (v := .builtin "max") (by kernel_rfl) (by kernel_rfl) (fun _ => .bi _) ⟨rfl, ?_⟩)
    refine aes_cons (ae_bin (ae_local rfl (ae_int ?_)))
    refine aes_cons (ae_int (aes_nil (acw_max ?_)))
    refine ⟨_, rfl, ae_local rfl ⟨_, rfl, ?_, rfl⟩⟩
    exact congrArg AV.str hsl
  · refine (congr (congrArg or (show ((((c :: r).length : Nat) : Int) == 0) = false from beq_eq_false_iff_ne.mpr succ_ne)) (congrArg (· || false) (S_eq ((r.take 1).reverse ++ [c]) [42, 47]))).trans ?_
    rcases r with _ | ⟨c2, r⟩
    · simp
    · rw [Bool.eq_iff_iff]; simp [and_comm]
  by_cases z1 : c = 47 ∧ r.take 1 = [42]
  · rw [decide_eq_true z1]
    refine as_consL ?_
    intro Kq
    refine a1_return (ae_bool ?_)
    rw [bleft, if_pos z1] at q
    exact q
  rw [decide_eq_false z1]
  rw [bleft, if_neg z1] at q
  refine as_nil ?_
  refine as_consL ?_
  intro Kq
  refine a1_if (ab_of (z := decide (text.take 1 = [63] ∧ c = 62)) (PB.as (pb_and (pb_cmp (a := .str (S (text.take 1))) (ae_slice (ae_of (pe_local rfl) ⟨_, rfl, by rw [S_len]; exact Nat.le_trans hz (by decide), ae_int ⟨_, rfl, congrArg AV.str (slice_to (by decide)), rfl⟩⟩)) pe_str rfl) fun _ => pb_and (pb_cmp (pe_prev rfl rfl h ht) pe_str rfl) fun _ => pb_and_nil) ?_) ?_)
  · refine (congr (congrArg and (S_eq (text.take 1) [63])) (congrArg (· && true) (S_eq [c] [62]))).trans ?_
    rw [Bool.eq_iff_iff]; simp
  by_cases z2 : text.take 1 = [63] ∧ c = 62
  · rw [decide_eq_true z2]
    refine as_consL ?_
    intro Kq
    refine a1_return (ae_bool ?_)
    rw [if_pos z2] at q
    exact q
  rw [decide_eq_false z2]
  rw [if_neg z2] at q
  refine as_nil (as_consL ?_)
  intro Kq
  refine a1_return (ae_of (PE.as (pe_or (pe_cmp (pe_prev rfl rfl h ht) pe_str rfl) fun _ => ae_boolop1 (pe_cmp (pe_prev rfl rfl h ht) pe_str rfl)) ?_) q)
  exact congrArg AV.bool (congr (congrArg or (occ_one lset1 c)) (occ_one lset2 c))
theorem c_right {text : List Nat} (h : Sc H x t cs ln L last dp) (q : Q (.bool (bright cs text)) H) :
    AC (CC d) 2 (.ref 153) [.ref x, .str (S text)] H Q X := by
  refine ac_fnL (ns := ["scan", "text"]) (by kernel_rfl) (fun _ _ => by show _ = _; kernel_rfl) (by kernel_rfl) ?_
  refine as_consL ?_
  intro Kq
  refine a1_assign (ae_of (pe_sign rfl h) (at_name ?_))
  have c2 : ∀ (l a b : List Nat), (([S a, S b] : List Str).contains (S l)) = (l == a || l == b) := fun l a b => by
    simp only [List.contains_cons, S_eq, List.contains_nil, Bool.or_false]
  refine as_consL ?_
  intro Kq
  refine a1_if (ab_of (z := bright1 cs) (PB.as (pb_or (pb_cmp (pe_local rfl) pe_str rfl) fun _ => pb_or (pb_cmp (pe_local rfl) pe_str rfl) fun _ => pb_or (pb_cmp (pe_pair rfl h (by decide)) pe_tuple2 ⟨[_, _], rfl, rfl⟩) fun _ => pb_or_nil) ?_) ?_)
  · refine (congr (congrArg or (S_eq (cs.take 1) [])) (congr (congrArg or (occ_take rset cs)) (congrArg (· || false) (c2 (cs.take 2) [47, 47] [47, 42])))).trans ?_
    rcases cs with _ | ⟨c, cs⟩
    · rfl
    · simp [bright1, Bool.or_assoc]
  cases z1 : bright1 cs with
  | true =>
    refine as_consL ?_
    intro Kq
    refine a1_return (ae_bool ?_)
    rw [bright, z1] at q
    exact q
  | false =>
    rw [bright, z1, Bool.false_or] at q
    refine as_nil (as_consL ?_)
    intro Kq
    refine a1_return (ae_of (PE.as (pe_and (pe_cmp (pe_local rfl) pe_str rfl) fun _ => ae_boolop1 (pe_cmp (pe_local rfl) pe_tuple2 ⟨[_, _], rfl, rfl⟩)) ?_) q)
    exact congrArg AV.bool (congr (congrArg and (S_eq (cs.take 1) [46])) (c2 text [33] [63]))
end
end Mine
end

section
open PySem PySem.W PySem.Calls PyProof.Rows Builtin.ObjectAttr
namespace Mine
open PySem.StrLaws PySem.Builtin.Str in
theorem parts_filter (x : Str) (c : Nat) : ∀ (cuts : List Nat) (a f : Nat), ChainG x ⟨#[c]⟩ x.length a cuts f → (∀ k, f ≤ k → ¬ At x ⟨#[c]⟩ x.length k) →
    (partsFrom x 1 a cuts).flatMap (fun p => p.cps.toList) = (x.cps.toList.drop a).filter (fun k => decide (k ≠ c))
  | [], a, f, h, hn => by
    have e : f = a := h
    subst e
    have hlen : x.length = x.cps.toList.length := by simp [Str.length]
    have hf := part_free x c f x.length (Nat.le_refl _) fun k h1 _ => hn k h1
    show (strSub x f x.length).cps.toList ++ [] = _
    rw [strSub_toList] at hf ⊢
    rw [List.append_nil, List.take_of_length_le (by rw [List.length_drop]; exact Nat.sub_le_sub_right (Nat.le_of_eq hlen.symm) f)] at *
    exact (List.filter_eq_self.mpr fun k hk => by simpa using fun (e : k = c) => hf (e ▸ hk)).symm
  | c0 :: r, a, f, h, hn => by
    refine xl_AAA h fun h1 h2 h3 h4 => ?_; try clear h
    have ih := parts_filter x c r (c0 + 1) f h4 hn
    have hf := part_free x c a c0 (by have := h2.1; exact lin [_, _, _] (.v 0) (.v 2) [((.a (.v 0) (.v 1)), (.v 2))] this rfl) h3
    have e0 : (partsFrom x 1 a (c0 :: r)).flatMap (fun p => p.cps.toList) = (strSub x a c0).cps.toList ++ (partsFrom x 1 (c0 + 1) r).flatMap (fun p => p.cps.toList) := rfl
    rw [e0, ih]
    have hc : x.cps.toList[c0]? = some c := by
      have := h2.2
      rw [subAt_eq] at this
      have := eq_of_beq this
      have : ((x.cps.toList.drop c0).take 1) = [c] := this
      have := congrArg (fun l => l[0]?) this
      simpa [List.getElem?_take_of_lt] using this
    have split : x.cps.toList.drop a = (x.cps.toList.drop a).take (c0 - a) ++ (c :: x.cps.toList.drop (c0 + 1)) := by
      conv => lhs; rw [← List.take_append_drop (c0 - a) (x.cps.toList.drop a)]
      rw [List.drop_drop, Nat.add_sub_cancel' h1, List.drop_eq_getElem_cons (List.getElem?_eq_some_iff.mp hc).1, (List.getElem?_eq_some_iff.mp hc).2]
    rw [strSub_toList] at hf ⊢
    conv => rhs; rw [split]
    rw [List.filter_append, List.filter_cons, if_neg (by simp)]
    congr 1
    exact (List.filter_eq_self.mpr fun k hk => by simpa using fun (e : k = c) => hf (e ▸ hk)).symm
theorem glued_nil (ps : List Str) : Builtin.Str.glued (S []) ps = S (ps.flatMap fun p => p.cps.toList) := by
  rcases ps with _ | ⟨p, ps⟩
  · rfl
  · have key : ∀ (ps : List Str) (acc : Array Nat), (ps.foldl (fun acc p => acc ++ (S []).cps ++ p.cps) acc) = (acc.toList ++ ps.flatMap fun p => p.cps.toList).toArray := by
      intro ps
      induction ps with
      | nil => intro acc; simp
      | cons p ps ih => intro acc; rw [List.foldl_cons, ih]; apply Array.toList_inj.mp; simp [S]
    show (⟨_⟩ : Str) = ⟨_⟩
    rw [show (List.drop 1 (p :: ps)) = ps from rfl, show (p :: ps).headD Str.empty = p from rfl, key]
    rfl
theorem replace_one (l : List Nat) (c : Nat) : Txt.replace (S l) (S [c]) (S []) = S (l.filter fun k => decide (k ≠ c)) := by
  refine xl_EA (StrLaws.occ_tight (S l) (S [c]) (Nat.le_refl 1)) fun f h1 h2 => ?_
  have key := parts_filter (S l) c _ 0 f h1 h2
  unfold Txt.replace
  split
  · rename_i he
    have he : (Builtin.Str.occurrences (S l) (S [c]) 0 (S l).length ((S l).length + 1)) = [] := by simpa [S, Str.length] using he
    rw [he] at key
    have : (S l).cps.toList = l := rfl
    congr 1
    have k2 : (S l).length = l.length := S_len l
    have key : [Builtin.Str.strSub (S l) 0 (S l).length].flatMap (fun p => p.cps.toList) = ((S l).cps.toList.drop 0).filter (fun k => decide (k ≠ c)) := key
    simpa [Builtin.Str.strSub, this, k2] using key
  · rw [StrLaws.partsBetween_eq, glued_nil, show (S [c]).length = 1 from rfl, key]
    rfl
noncomputable def hexs : List Nat := [48, 49, 50, 51, 52, 53, 54, 55, 56, 57, 97, 98, 99, 100, 101, 102, 65, 66, 67, 68, 69, 70]
noncomputable def digs : List Nat := [48, 49, 50, 51, 52, 53, 54, 55, 56, 57]
theorem lower_hex {l : List Nat} (h : ∀ c ∈ l, c ∈ hexs) : Txt.lower (S l) = S (l.map lo1) := by
  rw [lower_ascii (fun c hc => by
    exact (show ∀ c ∈ hexs, c < 128 by decide) c (h c hc))]
  congr 1
  apply Array.toList_inj.mp
  simp [S]
/-- a figure's place -/
noncomputable def fig (c : Nat) : Nat := if c < 58 then c - 48 else c - 87
theorem fig_index : ∀ c ∈ hexs, Builtin.Str.occurrences (S hexs) (S [lo1 c]) 0 (S hexs).length 1 = [fig (lo1 c)] := by decide +kernel
theorem digits_int {l : List Nat} (h : ∀ c ∈ l, c ∈ digs) (h0 : l ≠ []) (h1 : l.length ≤ 640) : PySem.intText? (S l) = some ((NumText.digitsVal l : Nat) : Int) :=
  intText_digits (x := S l) (fun c hc => (show ∀ c ∈ digs, 48 ≤ c ∧ c ≤ 57 by decide) c (h c hc)) h0 (by rw [S_len]; exact lin [_] (.v 0) (.n 4300) [((.v 0), (.n 640))] h1 rfl)
end Mine
end

section
open PySem PySem.W PySem.Calls PyProof.Rows Builtin.ObjectAttr
namespace Mine
theorem gl_hex (d : Dt) : ∃ t, nsIn (CC d).K mainGlobals "HEX_DIGITS" = some (some (.str (S hexs) t)) := ⟨_, rfl⟩
theorem gl_digs (d : Dt) : ∃ t, nsIn (CC d).K mainGlobals "DIGITS" = some (some (.str (S digs) t)) := ⟨_, rfl⟩
theorem gl_figs (d : Dt) : ∃ t, nsIn (CC d).K mainGlobals "MOST_FIGURES" = some (some (.int 80 t)) := ⟨_, rfl⟩
theorem pe_gstr {d : Dt} {sc : Scope} {b : Nat} {σ : St} {X : Int → St → Prop} {n x : Str} {p : Pos} (h : ∃ t, nsIn (CC d).K mainGlobals n = some (some (.str x t))) (hl : sc.names.lookup n = some .globalImplicit := by rfl) (hd : (n == ("__debug__" : Str)) = false := by decide) : PE (CC d) sc b (.Name n p) σ (.str x) X :=
  let ⟨_, e⟩ := h; pe_global e (.str _ _) hl hd
theorem pe_gint {d : Dt} {sc : Scope} {b : Nat} {σ : St} {X : Int → St → Prop} {n : Str} {x : Int} {p : Pos} (h : ∃ t, nsIn (CC d).K mainGlobals n = some (some (.int x t))) (hl : sc.names.lookup n = some .globalImplicit := by rfl) (hd : (n == ("__debug__" : Str)) = false := by decide) : PE (CC d) sc b (.Name n p) σ (.int x) X :=
  let ⟨_, e⟩ := h; pe_global e (.int _ _) hl hd
/-- a def of the text is called by its name -/
theorem ae_fn {d : Dt} {sc : Scope} {b : Nat} {σ : St} {X : Int → St → Prop} {n : Str} {fa : Addr} {p p' : Pos} {args : List Expr} {Q : AV → St → Prop} (e : nsIn (CC d).K mainGlobals n = some (some (.ref fa))) (k : keepV (CC d).K (.ref fa) = true)
    (h : AEs (CC d) sc b p' args σ (fun as σ₂ => ACw (CC d) b (.ref fa) as σ₂.H (fun a H => Q a ⟨σ₂.m, H⟩) (fun l H => X l ⟨σ₂.m, H⟩)) X) (hst : NoStar p' args := by exact NoStar.cons fun _ => ⟨rfl, rfl⟩)
    (he : ∀ env, eval (.Call (.Name n p) args [] p') env = (do callWith p' (← eval (.Name n p) env) [] (backTo p' (starEach args env)) (backToKw p' (keywordEach [] env))) := by intro _; rfl)
    (hl : sc.names.lookup n = some .globalImplicit := by rfl) (hd : (n == ("__debug__" : Str)) = false := by decide) : AE (CC d) sc b (.Call (.Name n p) args [] p') σ Q X :=
  ae_call (ae_global (a := .ref fa) (v := .ref fa) e (.ref _) ⟨k, h⟩ hl hd) hst he
/-- a function of the machine is called by its name -/
theorem ae_bi {d : Dt} {sc : Scope} {b : Nat} {σ : St} {X : Int → St → Prop} {n : Str} {id : String} {p p' : Pos} {args : List Expr} {Q : AV → St → Prop} (e : nsIn (CC d).K mainGlobals n = some none) (hb : bootBuiltins n = some (.builtin id))
    (h : AEs (CC d) sc b p' args σ (fun as σ₂ => ACw (CC d) b (.bi id) as σ₂.H (fun a H => Q a ⟨σ₂.m, H⟩) (fun l H => X l ⟨σ₂.m, H⟩)) X) (hst : NoStar p' args := by exact NoStar.cons fun _ => ⟨rfl, rfl⟩)
    (he : ∀ env, eval (.Call (.Name n p) args [] p') env = (do callWith p' (← eval (.Name n p) env) [] (backTo p' (starEach args env)) (backToKw p' (keywordEach [] env))) := by intro _; rfl) (hn : n ≠ "__name__" := by decide)
    (hl : sc.names.lookup n = some .globalImplicit := by rfl) (hd : (n == ("__debug__" : Str)) = false := by decide) : AE (CC d) sc b (.Call (.Name n p) args [] p') σ Q X :=
  ae_call (ae_builtin (a := .bi id) (v := .builtin id) e hb (fun _ => .bi _) ⟨rfl, h⟩ hn hl hd) hst he
theorem bi_len (d : Dt) : nsIn (CC d).K mainGlobals "len" = some none := by kernel_rfl
theorem bo_len : bootBuiltins "len" = some (.builtin "len") := by kernel_rfl
/-- len(v) of a named text -/
theorem pe_len {d : Dt} {sc : Scope} {b : Nat} {σ : St} {X : Int → St → Prop} {v : Str} {p p' p2 : Pos} {l : List Nat} (hv : σ.m.lookup v = some (.str (S l))) (hz : l.length < 2 ^ 62) (hl : sc.names.lookup v = some .local := by rfl) (hd : (v == ("__debug__" : Str)) = false := by decide)
    (hg : sc.names.lookup ("len" : Str) = some .globalImplicit := by rfl) : PE (CC d) sc b (.Call (.Name "len" p) [.Name v p2] [] p') σ (.int l.length) X :=
  ae_bi (bi_len d) bo_len (aes_cons (ae_local hv (aes_nil (acw_len_str (by rw [S_len]; exact hz) ⟨by rw [S_len], rfl⟩)) hl hd)) (NoStar.cons fun _ => ⟨rfl, rfl⟩) (fun _ => rfl) (by decide) hg
theorem turns_ind {c : Cx} {sc : Scope} {b : Nat} {X : Int → St → Prop} {tgt : Expr} {body : List Stmt} {P : AHeap → Prop} {Q : AFl → St → Prop} {β γ : Type} (f : β → AV) (σ : γ → St) (I : List β → γ → Prop)
    (done : ∀ g, I [] g → Q .next (σ g))
    (step : ∀ y ys g, I (y :: ys) g → (∀ g', I ys g' → ATurns c sc b tgt body P Q X (ys.map f) (σ g')) → AT c sc b tgt (f y) (σ g) (fun σ₁ => AS c sc b body σ₁ (fun fl σ₂ => match fl with
      | .next | .cont => P σ₂.H ∧ ATurns c sc b tgt body P Q X (ys.map f) σ₂
      | .brk => Q .next σ₂
      | .ret a => Q (.ret a) σ₂) X) X) : ∀ (ys : List β) (g : γ), I ys g → ATurns c sc b tgt body P Q X (ys.map f) (σ g)
  | [], g, h => done g h
  | y :: ys, g, h => step y ys g h fun g' h' => turns_ind f σ I done step ys g' h'

noncomputable def num16 (base : Nat) : List Nat → Nat → Option Nat
  | [], acc => some acc
  | c :: cs, acc => if base ≤ fig (lo1 c) then none else num16 base cs (acc * base + fig (lo1 c))
noncomputable def bases : List (Str × AV) := [("x", .int 16), ("o", .int 8), ("b", .int 2)]
theorem bases_nd : (bases.map (·.1)).Nodup := by decide +kernel
theorem bases_z : bases.length ≤ 15 := by decide +kernel
theorem bases_ne : bases ≠ [] := by intro h; injection h
noncomputable def baseOf (m : Nat) : Nat := if m = 120 then 16 else if m = 111 then 8 else 2
noncomputable def based (m : Nat) (r : List Nat) : Option Nat :=
  let run := (r.takeWhile (· ∈ hexs ++ [95])).filter fun k => decide (k ≠ 95)
  if run = [] ∨ 80 < run.length then none else num16 (baseOf m) run 0
/-- what a step of the scan leaves as it was -/
noncomputable def Kp (H H' : AHeap) (x : Addr) : Prop := ∀ a o, H a = some o → a ≠ x → H' a = some o
theorem Kp.refl (H : AHeap) (x : Addr) : Kp H H x := fun _ _ e _ => e
theorem Kp.trans {H H' H'' : AHeap} {x : Addr} (h : Kp H H' x) (h' : Kp H' H'' x) : Kp H H'' x := fun a o e n => h' a o (h a o e n) n
theorem Kp.set {H H' : AHeap} {x : Addr} (h : Kp H H' x) (o : AO) : Kp H (H'.set x o) x := fun a o' e n => (AHeap.set_ne _ _ n).trans (h a o' e n)
theorem Kp.new {H H' : AHeap} {x k : Addr} (h : Kp H H' x) (hk : H' k = none) (o : AO) : Kp H (H'.set k o) x := fun a o' e n => by
  have := h a o' e n
  exact (AHeap.set_ne _ _ (ne_of this hk)).trans this
theorem mem_takeWhile {p : Nat → Bool} : ∀ {l : List Nat} {c : Nat}, c ∈ l.takeWhile p → p c = true
  | [], _, h => by cases h
  | a :: l, c, h => by
    rw [List.takeWhile_cons] at h
    split at h
    · rcases List.mem_cons.mp h with rfl | h
      · assumption
      · exact mem_takeWhile h
    · cases h
section
variable {d : Dt} {H : AHeap} {X : Int → AHeap → Prop} {Q : AV → AHeap → Prop} {x L : Addr} {t cs : List Nat} {ln last dp : Int}
/-- based_number(scan) -/
theorem c_based {mk : Nat} {r : List Nat} (hm : mk ∈ [120, 111, 98]) (h : Sc H x t (48 :: mk :: r) ln L last dp) (q : ∀ v H', based mk r = some v → Sc H' x t (r.dropWhile (· ∈ hexs ++ [95])) ln L last dp → Kp H H' x → Q (.int (v : Nat)) H')
    (qx : based mk r = none → ∀ H', Kp H H' x → X ln H') : AC (CC d) 3 (.ref 160) [.ref x] H Q X := by
  refine ac_fnL (ns := ["scan"]) (by kernel_rfl) (fun _ => by show _ = _; kernel_rfl) (by kernel_rfl) ?_
  refine as_consL ?_
  intro Kq
  refine a1_assign ?_
  refine ae_sub ?_
  refine ae_dict (kvs := bases) (.int (.int (.int .nil))) bases_nd bases_ne bases_z fun dd hdd => ?_
  have hxd : x ≠ dd := ne_of h.hx hdd
  have h1 : Sc (H.set dd (.dict (CC d).w bases)) x t (48 :: mk :: r) ln L last dp := ⟨(AHeap.set_ne _ _ hxd).trans h.hx, h.hs, h.ht⟩
  have k1 : Kp H (H.set dd (.dict (CC d).w bases)) x := (Kp.refl H x).new hdd _
  refine ae_of (pe_sign1 rfl h1 (by decide)) ?_
  refine ⟨bases, .int (baseOf mk), AHeap.set_self .., ?_, at_name ?_⟩
  · simp only [List.mem_cons, List.not_mem_nil, or_false] at hm
    rcases hm with rfl | rfl | rfl <;> rfl
  refine as_consL ?_
  intro Kq
  refine a1_go0 rfl h1 (cs' := r) on2 ?_
  have h2 : Sc ((H.set dd (.dict (CC d).w bases)).set x (.inst 107 (scanFs t r ln L last dp))) x t r ln L last dp := .set (((List.suffix_cons _ _).trans (List.suffix_cons _ _)).trans h.hs) h.ht
  have k2 := k1.set (.inst 107 (scanFs t r ln L last dp))
  refine as_consL ?_
  intro Kq
  refine a1_assign (ae_replace (by decide) (ae_fn (by kernel_rfl) (by kernel_rfl) (aes_cons (ae_local rfl (aes_cons (ae_of (pe_bin (r' := .str (S (hexs ++ [95]))) (pe_gstr (gl_hex d)) pe_str ⟨by decide, ?_, rfl⟩) (aes_nil ((c_run h2 ?_).to (by decide)))))))))
  · exact congrArg AV.str (S_append hexs [95])
  have hlen : (r.takeWhile (· ∈ hexs ++ [95])).length ≤ 1000000 := by
    have h1 := (List.takeWhile_prefix (p := fun c => decide (c ∈ hexs ++ [95])) (l := r)).length_le
    have h2 := h2.hs.length_le
    have := h.ht
    exact lin [_, _, _] (.v 0) (.n 1000000) [((.v 0), (.v 1)), ((.v 1), (.v 2)), ((.v 2), (.n 1000000))] h1 h2 this rfl
  refine ⟨_, rfl, by rw [S_len]; exact hlen, at_name ?_⟩
  rw [AHeap.set_set]
  have h3 : Sc ((H.set dd (.dict (CC d).w bases)).set x (.inst 107 (scanFs t (r.dropWhile (· ∈ hexs ++ [95])) ln L last dp))) x t (r.dropWhile (· ∈ hexs ++ [95])) ln L last dp := .set ((List.dropWhile_suffix _).trans h2.hs) h.ht
  have k3 := k1.set (.inst 107 (scanFs t (r.dropWhile (· ∈ hexs ++ [95])) ln L last dp))
  generalize hH3 : (H.set dd (.dict (CC d).w bases)).set x (.inst 107 (scanFs t (r.dropWhile (· ∈ hexs ++ [95])) ln L last dp)) = H3 at h3 k3 ⊢
  obtain ⟨run, hrun⟩ : ∃ run, run = (r.takeWhile (· ∈ hexs ++ [95])).filter fun k => decide (k ≠ 95) := ⟨_, rfl⟩
  have hrl : run.length ≤ 1000000 := by rw [hrun]; exact Nat.le_trans (List.length_filter_le _ _) hlen
  have hrh : ∀ c ∈ run, c ∈ hexs := fun c hc => by
    rw [hrun, List.mem_filter] at hc
    have h1 := mem_takeWhile hc.1
    have h2 := hc.2
    simp only [decide_eq_true_eq] at h1 h2
    rcases List.mem_append.mp h1 with h1 | h1
    · exact h1
    · exact absurd (List.mem_singleton.mp h1) h2
  rw [show Txt.replace (S (r.takeWhile (· ∈ hexs ++ [95]))) "_" "" = S run from (replace_one _ 95).trans (by rw [hrun])]
  have hb : based mk r = if run = [] ∨ 80 < run.length then none else num16 (baseOf mk) run 0 := by rw [hrun]; rfl
  refine as_consL ?_
  intro Kq
  refine a1_if (ab_of (z := decide (run = [] ∨ 80 < run.length)) (PB.as (pb_or (pb_cmp (pe_local rfl) pe_str rfl) fun _ => pb_or (pb_cmp (pe_len rfl (by exact lin [_] (.a (.v 0) (.n 1)) (.n 4611686018427387904) [((.v 0), (.n 1000000))] hrl rfl)) (pe_gint (gl_figs d)) rfl) fun _ => pb_or_nil) ?_) ?_)
  · refine (congrArg (or · _) (S_eq run [])).trans ?_
    have e80 : decide ((80 : Int) < (run.length : Nat)) = decide (80 < run.length) := dec_lt (a := 80)
    refine (congrArg (fun z => (run == [] || (z || false))) e80).trans ?_
    rw [Bool.eq_iff_iff]
    simp
  by_cases hz : run = [] ∨ 80 < run.length
  · rw [decide_eq_true hz]
    refine as_consL ?_
    intro Kq
    refine a1_raise (rkOf d) (aes_cons (ae_str (aes_cons (ae_of (pe_scan rfl h3 rfl) (aes_nil ⟨_, _, rfl, ?_⟩)))))
    exact qx (by rw [hb, if_pos hz]) _ k3
  rw [decide_eq_false hz]
  rw [if_neg hz] at hb
  refine as_nil (as_consL ?_)
  intro Kq
  refine a1_assign (ae_int (at_name ?_))
  refine as_consL ?_
  intro Kq
  refine a1_for (asrc_str (ae_meth0 (ae_local rfl ⟨.bi "str.lower", [.str (S run)], mr_str PySem.F.slot_str_lower PySem.F.type_str_lower, rfl, acw_lower (by rw [S_len]; exact lin [_] (.v 0) (.n 5592405) [((.v 0), (.n 1000000))] hrl rfl) ?_⟩)))
  refine ⟨_, rfl, trivial, ?_⟩
  rw [lower_hex hrh, show signsOf (S (run.map lo1)) = run.map (fun c => .str (S [lo1 c])) from by unfold signsOf; rw [S_list, List.map_map]; rfl]
  have hr80 : run.length ≤ 80 := by omega
  refine turns_ind (fun c => AV.str (S [lo1 c])) (fun g : List (Str × AV) × Nat => ⟨g.1, H3⟩) (fun ys g => g.1.lookup ("base" : Str) = some (.int (baseOf mk)) ∧ g.1.lookup ("found" : Str) = some (.int (g.2 : Nat)) ∧ g.1.lookup ("scan" : Str) = some (.ref x) ∧ (∀ c ∈ ys, c ∈ hexs) ∧ num16 (baseOf mk) ys g.2 = num16 (baseOf mk) run 0 ∧ ys.length ≤ 80 ∧ g.2 < 16 ^ (80 - ys.length))
    (fun g hg => ?_) (fun y ys g hg ih => ?_) run (_, 0) ⟨rfl, rfl, rfl, hrh, rfl, hr80, Nat.pow_pos (by decide)⟩
  · refine xl_AAAAAA hg fun i1 i2 i3 i4 i5 i6 i7 => ?_; try clear hg
    exact as_cons (a1_return (ae_local i2 (q g.2 H3 (by rw [hb, ← i5]; rfl) h3 k3)))
  · refine xl_AAAAAA hg fun i1 i2 i3 i4 i5 i6 i7 => ?_; try clear hg
    have hy := i4 y (.head _)
    have hb16 : baseOf mk ≤ 16 := by unfold baseOf; split <;> (try split) <;> decide
    refine at_name ?_
    refine as_consL ?_
    intro Kq
    refine a1_assign ?_
    refine ae_meth (ae_of (pe_gstr (gl_hex d)) ⟨.bi "str.index", [.str (S hexs)], mr_str PySem.F.slot_str_index PySem.F.type_str_index, rfl, aes_cons (ae_local look_eq (aes_nil (acw_index (fig_index y hy) ?_)))⟩)
    refine at_name ?_
    have l1 : ∀ {v w : AV}, (fput (fput g.1 "sign" v) "figure" w).lookup ("base" : Str) = some (.int (baseOf mk)) := look_ne (look_ne i1)
    have l2 : ∀ {v w : AV}, (fput (fput g.1 "sign" v) "figure" w).lookup ("found" : Str) = some (.int (g.2 : Nat)) := look_ne (look_ne i2)
    have l3 : ∀ {v w : AV}, (fput (fput g.1 "sign" v) "figure" w).lookup ("scan" : Str) = some (.ref x) := look_ne (look_ne i3)
    refine as_consL ?_
    intro Kq
    refine a1_if (ab_of (z := decide (baseOf mk ≤ fig (lo1 y))) (PB.as (pb_cmp (pe_local look_eq) (pe_local l1) rfl) ?_) ?_)
    · exact dec_le
    rw [num16] at i5
    by_cases hf : baseOf mk ≤ fig (lo1 y)
    · rw [decide_eq_true hf]
      rw [if_pos hf] at i5
      refine as_consL ?_
      intro Kq
      refine a1_raise (rkOf d) (aes_cons (ae_str (aes_cons (ae_of (pe_scan l3 h3 rfl) (aes_nil ⟨_, _, rfl, ?_⟩)))))
      exact qx (by rw [hb, ← i5]) _ k3
    · rw [decide_eq_false hf]
      rw [if_neg hf] at i5
      have hpw : 16 ^ (80 - (y :: ys).length) * 16 = 16 ^ (80 - ys.length) := by
        rw [← Nat.pow_succ]; exact congrArg _ (sub_back i6).symm
      have hle : 16 ^ (80 - (y :: ys).length) ≤ 16 ^ 80 := Nat.pow_le_pow_right (by decide) (Nat.sub_le _ _)
      refine as_nil (as_consL ?_)
      intro Kq
      refine a1_assign (ae_bin (ae_bin (ae_local l2 (ae_local l1 ⟨?_, ae_local look_eq ?_⟩))))
      · exact IntMulOk.of_right (by unfold baseOf; split <;> (try split) <;> decide)
      refine at_name (as_nil ⟨trivial, ?_⟩)
      refine ih (_, g.2 * baseOf mk + fig (lo1 y)) ⟨look_ne l1, ?_, look_ne l3, fun c hc => i4 c (.tail _ hc), i5, by rw [List.length_cons] at i6; exact lin [_] (.v 0) (.n 80) [((.a (.v 0) (.n 1)), (.n 80))] i6 rfl, ?_⟩
      · rw [look_eq]; congr 2
      · have : g.2 * baseOf mk + fig (lo1 y) < (g.2 + 1) * 16 := by
          rw [Nat.add_mul, Nat.one_mul]
          exact Nat.add_lt_add_of_le_of_lt (Nat.mul_le_mul_left _ hb16) (Nat.lt_of_lt_of_le (Nat.not_le.mp hf) hb16)
        have h2 : (g.2 + 1) * 16 ≤ 16 ^ (80 - (y :: ys).length) * 16 := Nat.mul_le_mul_right _ i7
        rw [hpw] at h2
        exact Nat.lt_of_lt_of_le this h2
end
end Mine
end

section
open PySem PySem.W PySem.Calls PyProof.Rows Builtin.ObjectAttr
namespace Mine
mutual
inductive Tk where
  | mk (kind text : List Nat) (line : Int) (first left right : Bool) (value : Int) (parts : Pts)
inductive Pts where
  | nil
  | txt (x : List Nat) (r : Pts)
  | toks (l : Tks) (r : Pts)
inductive Tks where
  | nil
  | cons (a : Tk) (r : Tks)
end
mutual
/-- a token stands in the heap, made after H0 -/
inductive TokN (H0 H : AHeap) : Tk → AV → Prop
  | mk {kind text : List Nat} {line value : Int} {first left right : Bool} {parts : Pts} {k P : Addr} {avs : List AV} : H0 k = none → H0 P = none → H k = some (.inst 71 (tokFs kind text line first left right value P)) → H P = some (.list avs) → PtsN H0 H parts avs → TokN H0 H (.mk kind text line first left right value parts) (.ref k)
inductive PtsN (H0 H : AHeap) : Pts → List AV → Prop
  | nil : PtsN H0 H .nil []
  | txt {x : List Nat} {r : Pts} {as : List AV} : PtsN H0 H r as → PtsN H0 H (.txt x r) (.str (S x) :: as)
  | toks {l : Addr} {ts : Tks} {ks : List AV} {r : Pts} {as : List AV} : H0 l = none → H l = some (.list ks) → ToksN H0 H ts ks → PtsN H0 H r as → PtsN H0 H (.toks ts r) (.ref l :: as)
inductive ToksN (H0 H : AHeap) : Tks → List AV → Prop
  | nil : ToksN H0 H .nil []
  | cons {a : Tk} {k : AV} {ts : Tks} {ks : List AV} : TokN H0 H a k → ToksN H0 H ts ks → ToksN H0 H (.cons a ts) (k :: ks)
end
theorem TokN.mono {H0 H H0' H' : AHeap} (h : ∀ a o, H0 a = none → H a = some o → H0' a = none ∧ H' a = some o) : ∀ {a : Tk} {v : AV}, TokN H0 H a v → TokN H0' H' a v := fun t =>
  TokN.rec (motive_1 := fun a v _ => TokN H0' H' a v) (motive_2 := fun a v _ => PtsN H0' H' a v) (motive_3 := fun a v _ => ToksN H0' H' a v)
    (fun h1 h2 h3 h4 _ i => .mk (h _ _ h1 h3).1 (h _ _ h2 h4).1 (h _ _ h1 h3).2 (h _ _ h2 h4).2 i)
    .nil (fun _ i => .txt i) (fun h1 h2 _ _ i j => .toks (h _ _ h1 h2).1 (h _ _ h1 h2).2 i j) .nil (fun _ _ i j => .cons i j) t
theorem ToksN.mono {H0 H H0' H' : AHeap} (h : ∀ a o, H0 a = none → H a = some o → H0' a = none ∧ H' a = some o) : ∀ {a : Tks} {v : List AV}, ToksN H0 H a v → ToksN H0' H' a v := fun t =>
  ToksN.rec (motive_1 := fun _ _ _ => True) (motive_2 := fun _ _ _ => True) (motive_3 := fun a v _ => ToksN H0' H' a v)
    (fun _ _ _ _ _ _ => trivial) trivial (fun _ _ => trivial) (fun _ _ _ _ _ _ => trivial) .nil (fun a _ _ j => .cons (a.mono h) j) t
theorem PtsN.mono {H0 H H0' H' : AHeap} (h : ∀ a o, H0 a = none → H a = some o → H0' a = none ∧ H' a = some o) : ∀ {a : Pts} {v : List AV}, PtsN H0 H a v → PtsN H0' H' a v := fun t =>
  PtsN.rec (motive_1 := fun _ _ _ => True) (motive_2 := fun a v _ => PtsN H0' H' a v) (motive_3 := fun _ _ _ => True)
    (fun _ _ _ _ _ _ => trivial) .nil (fun _ i => .txt i) (fun h1 h2 l _ _ j => .toks (h _ _ h1 h2).1 (h _ _ h1 h2).2 (l.mono h) j) trivial (fun _ _ _ _ => trivial) t
noncomputable def Tks.app : Tks → Tks → Tks
  | .nil, b => b
  | .cons a r, b => .cons a (r.app b)
theorem ToksN.app {H0 H : AHeap} : ∀ {a b : Tks} {v w : List AV}, ToksN H0 H a v → ToksN H0 H b w → ToksN H0 H (a.app b) (v ++ w) := fun {a b v w} t u =>
  ToksN.rec (motive_1 := fun _ _ _ => True) (motive_2 := fun _ _ _ => True) (motive_3 := fun a v _ => ToksN H0 H (a.app b) (v ++ w))
    (fun _ _ _ _ _ _ => trivial) trivial (fun _ _ => trivial) (fun _ _ _ _ _ _ => trivial) u (fun a _ _ j => .cons a j) t
noncomputable def Pts.app : Pts → Pts → Pts
  | .nil, b => b
  | .txt x r, b => .txt x (r.app b)
  | .toks l r, b => .toks l (r.app b)
theorem PtsN.app {H0 H : AHeap} : ∀ {a b : Pts} {v w : List AV}, PtsN H0 H a v → PtsN H0 H b w → PtsN H0 H (a.app b) (v ++ w) := fun {a b v w} t u =>
  PtsN.rec (motive_1 := fun _ _ _ => True) (motive_2 := fun a v _ => PtsN H0 H (a.app b) (v ++ w)) (motive_3 := fun _ _ _ => True)
    (fun _ _ _ _ _ _ => trivial) u (fun _ i => .txt i) (fun h1 h2 l _ _ j => .toks h1 h2 l j) trivial (fun _ _ _ _ => trivial) t
/-- what reading leaves of the older heap -/
noncomputable def Kp2 (H H' : AHeap) (x L : Addr) : Prop := ∀ a o, H a = some o → a ≠ x → a ≠ L → H' a = some o
theorem Kp2.refl (H : AHeap) (x L : Addr) : Kp2 H H x L := fun _ _ e _ _ => e
theorem Kp2.trans {H H' H'' : AHeap} {x L : Addr} (h : Kp2 H H' x L) (h' : Kp2 H' H'' x L) : Kp2 H H'' x L := fun a o e n m => h' a o (h a o e n m) n m
theorem Kp.two {H H' : AHeap} {x : Addr} (h : Kp H H' x) (L : Addr) : Kp2 H H' x L := fun a o e n _ => h a o e n
theorem Kp2.setx {H H' : AHeap} {x L : Addr} (h : Kp2 H H' x L) (o : AO) : Kp2 H (H'.set x o) x L := fun a o' e n m => (AHeap.set_ne _ _ n).trans (h a o' e n m)
theorem Kp2.setL {H H' : AHeap} {x L : Addr} (h : Kp2 H H' x L) (o : AO) : Kp2 H (H'.set L o) x L := fun a o' e n m => (AHeap.set_ne _ _ m).trans (h a o' e n m)
theorem Kp2.new {H H' : AHeap} {x L k : Addr} (h : Kp2 H H' x L) (hk : H k = none) (o : AO) : Kp2 H (H'.set k o) x L := fun a o' e n m => (AHeap.set_ne _ _ (ne_of e hk)).trans (h a o' e n m)
theorem none_back {H H' : AHeap} {x L k : Addr} {ox oL : AO} (hx : H x = some ox) (hL : H L = some oL) (h : Kp2 H H' x L) (hk : H' k = none) (hx' : H' x ≠ none) (hL' : H' L ≠ none) : H k = none := by
  cases e : H k with
  | none => rfl
  | some o =>
    by_cases h1 : k = x
    · subst h1; exact absurd hk hx'
    · by_cases h2 : k = L
      · subst h2; exact absurd hk hL'
      · rw [h k o e h1 h2] at hk; injection hk
structure After (H H' : AHeap) (x L : Addr) (t cs : List Nat) (ln last dp : Int) (as : List AV) : Prop where
  sc : Sc H' x t cs ln L last dp
  list : H' L = some (.list as)
  same : Kp2 H H' x L
structure PutR (H H' : AHeap) (x L k P : Addr) (t cs : List Nat) (kind text : List Nat) (ln last dp : Int) (as : List AV) : Prop where
  k0 : H k = none
  P0 : H P = none
  kP : k ≠ P
  hk : H' k = some (.inst 71 (tokFs kind text ln (ln != last) true true 0 P))
  hP : H' P = some (.list [])
  aft : After H H' x L t cs ln ln dp (as ++ [.ref k])
section
variable {d : Dt} {H : AHeap} {X : Int → AHeap → Prop} {Q : AV → AHeap → Prop} {x L : Addr} {t cs : List Nat} {ln last dp : Int}
theorem c_put' {kind text : List Nat} {as : List AV} (h : Sc H x t cs ln L last dp) (hL : H L = some (.list as)) (hz : as.length ≤ 1000000)
    (q : ∀ k P H', PutR H H' x L k P t cs kind text ln last dp as → Q (.ref k) H') : AC (CC d) 3 (.ref 104) [.ref x, .str (S kind), .str (S text)] H Q X := by
  have hLx : L ≠ x := fun e => by rw [e, h.hx] at hL; cases hL
  refine c_put h hL hz fun k P hk hP hkP => q k P _ ?_
  have hkx : k ≠ x := (ne_of h.hx hk).symm
  have hkL : k ≠ L := (ne_of hL hk).symm
  have hPx : P ≠ x := (ne_of h.hx hP).symm
  have hPL : P ≠ L := (ne_of hL hP).symm
  refine ⟨hk, hP, hkP, ?_, ?_, ⟨?_, h.hs, h.ht⟩, AHeap.set_self .., ?_⟩
  · rw [AHeap.set_ne _ _ hkL, AHeap.set_ne _ _ hkx, AHeap.set_self]
  · rw [AHeap.set_ne _ _ hPL, AHeap.set_ne _ _ hPx, AHeap.set_ne _ _ hkP.symm, AHeap.set_self]
  · rw [AHeap.set_ne _ _ hLx.symm, AHeap.set_self]
  · exact ((((Kp2.refl H x L).new hP _).new hk _).setx _).setL _
end
end Mine
end

section
open PySem PySem.W PySem.Calls PyProof.Rows Builtin.ObjectAttr
namespace Mine
noncomputable def k_int : List Nat := [105, 110, 116]
/-- begins a number by 16, 8 or 2 -/
noncomputable def isB (cs : List Nat) : Bool := match cs with | c :: m :: _ => c == 48 && decide (m ∈ [120, 111, 98]) | _ => false
noncomputable def numRead (cs : List Nat) : Option (Nat × List Nat) :=
  if isB cs then (match based ((cs.drop 1).headD 0) (cs.drop 2) with | none => none | some v => some (v, (cs.drop 2).dropWhile (· ∈ hexs ++ [95])))
  else (let run := (cs.takeWhile (· ∈ digs ++ [95])).filter fun k => decide (k ≠ 95)
    if 80 < run.length then none else some (NumText.digitsVal run, cs.dropWhile (· ∈ digs ++ [95])))
noncomputable def numTok (cs : List Nat) : Option (Nat × List Nat) := match numRead cs with
  | none => none
  | some (v, cs') => if letter1 cs' then none else some (v, cs')
theorem bi_int (d : Dt) : nsIn (CC d).K mainGlobals "int" = some none := by kernel_rfl
theorem bo_int : bootBuiltins "int" = some (.type "int") := by kernel_rfl
theorem numRead_suffix {cs cs' : List Nat} {v : Nat} (h : numRead cs = some (v, cs')) : cs' <:+ cs := by
  unfold numRead at h
  split at h
  · split at h
    · injection h
    · cases h; exact (List.dropWhile_suffix _).trans (List.drop_suffix _ _)
  · dsimp only at h
    split at h
    · injection h
    · cases h; exact List.dropWhile_suffix _
theorem as_seq {c : Cx} {sc : Scope} {b : Nat} {σ : St} {X : Int → St → Prop} {st : Stmt} {rest : List Stmt} {Q : AFl → St → Prop} (M : St → Prop) (h1 : A1 c sc b st σ (fun fl σ' => fl = .next ∧ M σ') X) (h2 : ∀ σ', M σ' → AS c sc b rest σ' Q X) : AS c sc b (st :: rest) σ Q X :=
  as_cons fun f s N hf own R => wpAny_mono (h1 f s N hf own R) (fun _ _ z => z.mono fun V σ' zf0 => xl_EAA zf0 fun a e1 e2 e3 => ⟨a, e1, by subst e2; exact h2 _ e3⟩) fun _ _ z => z
section
variable {d : Dt} {H : AHeap} {X : Int → AHeap → Prop} {Q : AV → AHeap → Prop} {x L : Addr} {t cs : List Nat} {ln last dp : Int}
/-- read_number(scan) -/
theorem c_number {as : List AV} (h : Sc H x t cs ln L last dp) (hL : H L = some (.list as)) (hz : as.length ≤ 1000000) (hd : hd1 (· ∈ digs) cs = true)
    (q : ∀ v cs' k H', numTok cs = some (v, cs') → cs' <:+ cs → After H H' x L t cs' ln ln dp (as ++ [.ref k]) → TokN H H' (.mk k_int (cs.take (cs.length - cs'.length)) ln (ln != last) true true (v : Nat) .nil) (.ref k) → Q .none H')
    (qx : numTok cs = none → ∀ H', Kp2 H H' x L → X ln H') : AC (CC d) 4 (.ref 167) [.ref x] H Q X := by
  refine ac_fnL (ns := ["scan"]) (by kernel_rfl) (fun _ => by show _ = _; kernel_rfl) (by kernel_rfl) ?_
  refine as_consL ?_
  intro Kq
  refine a1_assign (ae_of (pe_scan rfl h rfl) (at_name ?_))
  have hLx : L ≠ x := fun e => by rw [e, h.hx] at hL; cases hL
  refine as_seq (fun σ' => ∃ v cs', numRead cs = some (v, cs') ∧ Sc σ'.H x t cs' ln L last dp ∧ Kp H σ'.H x ∧ σ'.m.lookup ("scan" : Str) = some (.ref x) ∧ σ'.m.lookup ("begin" : Str) = some (.int ((t.length : Int) - cs.length)) ∧ σ'.m.lookup ("value" : Str) = some (.int (v : Nat))) ?_ ?_
  · refine a1_if (ab_of (z := isB cs) (PB.as (pb_and (pb_cmp (pe_sign rfl h) pe_str rfl) fun _ => pb_and (pb_cmp (pe_sign1 rfl h (by decide)) pe_str rfl) fun _ => pb_and (pb_cmp (pe_sign1 rfl h (by decide)) pe_str rfl) fun _ => pb_and_nil) ?_) ?_)
    · refine (congr (congrArg and (S_eq (cs.take 1) [48])) (congr (congrArg and (ne_take (cs.drop 1))) (congrArg (· && true) (occ_take [120, 111, 98] (cs.drop 1))))).trans ?_
      rcases cs with _ | ⟨c, _ | ⟨m, cs⟩⟩
      · rfl
      · simp [isB]
      · rw [Bool.eq_iff_iff]; simp [isB]
    cases hB : isB cs with
    | true =>
      obtain ⟨mk, r, rfl, hm⟩ : ∃ mk r, cs = 48 :: mk :: r ∧ mk ∈ [120, 111, 98] := by
        rcases cs with _ | ⟨c, _ | ⟨m, cs⟩⟩
        · injection hB
        · injection hB
        · simp only [isB, Bool.and_eq_true, beq_iff_eq, decide_eq_true_eq] at hB
          exact ⟨m, cs, by rw [hB.1], hB.2⟩
      have hn : numRead (48 :: mk :: r) = match based mk r with | none => none | some v => some (v, r.dropWhile (· ∈ hexs ++ [95])) := by
        unfold numRead; rw [hB]; rfl
      refine as_consL ?_
      intro Kq
      refine a1_assign (ae_fn (by kernel_rfl) (by kernel_rfl) (aes_cons (ae_local rfl (aes_nil ((c_based hm h (fun v H' e1 h1 k1 => ?_) fun e1 H' k1 => ?_).to (by decide))))))
      · exact at_name (as_nil ⟨rfl, v, _, by rw [hn, e1], h1, k1, rfl, rfl, rfl⟩)
      · exact qx (by unfold numTok; rw [hn, e1]) _ (k1.two L)
    | false =>
      have hn : numRead cs = (let run := (cs.takeWhile (· ∈ digs ++ [95])).filter fun k => decide (k ≠ 95)
          if 80 < run.length then none else some (NumText.digitsVal run, cs.dropWhile (· ∈ digs ++ [95]))) := by unfold numRead; rw [hB]; rfl
      refine as_consL ?_
      intro Kq
      refine a1_assign (ae_replace (by decide) (ae_fn (by kernel_rfl) (by kernel_rfl) (aes_cons (ae_local rfl (aes_cons (ae_of (pe_bin (r' := .str (S (digs ++ [95]))) (pe_gstr (gl_digs d)) pe_str ⟨by decide, ?_, rfl⟩) (aes_nil ((c_run h ?_).to (by decide)))))))))
      · exact congrArg AV.str (S_append digs [95])
      have hlen : (cs.takeWhile (· ∈ digs ++ [95])).length ≤ 1000000 := by
        have h1 := (List.takeWhile_prefix (p := fun c => decide (c ∈ digs ++ [95])) (l := cs)).length_le
        have h2 := h.hs.length_le
        have := h.ht
        exact lin [_, _, _] (.v 0) (.n 1000000) [((.v 0), (.v 1)), ((.v 1), (.v 2)), ((.v 2), (.n 1000000))] h1 h2 this rfl
      refine ⟨_, rfl, by rw [S_len]; exact hlen, at_name ?_⟩
      have h3 : Sc (H.set x (.inst 107 (scanFs t (cs.dropWhile (· ∈ digs ++ [95])) ln L last dp))) x t (cs.dropWhile (· ∈ digs ++ [95])) ln L last dp := .set ((List.dropWhile_suffix _).trans h.hs) h.ht
      have k3 := (Kp.refl H x).set (.inst 107 (scanFs t (cs.dropWhile (· ∈ digs ++ [95])) ln L last dp))
      generalize hH3 : H.set x (.inst 107 (scanFs t (cs.dropWhile (· ∈ digs ++ [95])) ln L last dp)) = H3 at h3 k3 ⊢
      obtain ⟨run, hrun⟩ : ∃ run, run = (cs.takeWhile (· ∈ digs ++ [95])).filter fun k => decide (k ≠ 95) := ⟨_, rfl⟩
      rw [← hrun] at hn
      have hrl : run.length ≤ 1000000 := by rw [hrun]; exact Nat.le_trans (List.length_filter_le _ _) hlen
      have hrh : ∀ c ∈ run, c ∈ digs := fun c hc => by
        rw [hrun, List.mem_filter] at hc
        have h1 := mem_takeWhile hc.1
        have h2 := hc.2
        simp only [decide_eq_true_eq] at h1 h2
        rcases List.mem_append.mp h1 with h1 | h1
        · exact h1
        · exact absurd (List.mem_singleton.mp h1) h2
      have hne : run ≠ [] := by
        refine xl_EEA (hd1_true hd) fun c r zr1 hc => ?_; subst zr1
        have hc' : c ∈ digs := of_decide_eq_true hc
        intro e
        rw [hrun, List.filter_eq_nil_iff] at e
        refine e c ?_ ?_
        · rw [List.takeWhile_cons, if_pos (decide_eq_true (List.mem_append_left _ hc'))]; exact .head _
        · exact (show ∀ c ∈ digs, decide (c ≠ 95) = true by decide) c hc'
      rw [show Txt.replace (S (cs.takeWhile (· ∈ digs ++ [95]))) "_" "" = S run from (replace_one _ 95).trans (by rw [hrun])]
      refine as_consL ?_
      intro Kq
      refine a1_if (ab_of (z := decide (80 < run.length)) (PB.as (pb_cmp (pe_len rfl (by exact lin [_] (.a (.v 0) (.n 1)) (.n 4611686018427387904) [((.v 0), (.n 1000000))] hrl rfl)) (pe_gint (gl_figs d)) rfl) ?_) ?_)
      · exact dec_lt (a := 80)
      by_cases hz : 80 < run.length
      · rw [decide_eq_true hz]
        refine as_consL ?_
        intro Kq
        refine a1_raise (rkOf d) (aes_cons (ae_str (aes_cons (ae_of (pe_scan rfl h3 rfl) (aes_nil ⟨_, _, rfl, ?_⟩)))))
        exact qx (by unfold numTok; rw [hn]; simp [hz]) _ (k3.two L)
      rw [decide_eq_false hz]
      refine as_nil (as_consL ?_)
      intro Kq
      refine a1_assign (ae_call (ae_builtin (a := .ty "int") (v := .type "int") (bi_int d) bo_int (fun _ => .ty _) ⟨rfl, aes_cons (ae_local rfl (aes_nil (acw_int (digits_int hrh hne (by exact lin [_] (.v 0) (.n 640) [((.v 0), (.n 80))] (Nat.le_of_not_lt hz) rfl)) (by rw [S_len]; exact lin [_] (.v 0) (.n 640) [((.v 0), (.n 80))] (Nat.le_of_not_lt hz) rfl) ?_)))⟩))
      exact at_name (as_nil ⟨rfl, _, _, by rw [hn]; simp [hz], h3, k3, rfl, rfl, rfl⟩)
  · rintro ⟨m, H1⟩ ⟨v, cs', hn, h1, k1, m1, m2, m3⟩
    dsimp only at h1 k1 m1 m2 m3
    have hc := numRead_suffix hn
    refine as_consL ?_
    intro Kq
    refine a1_if (ab_of (z := letter1 cs') (ab_val (ae_fn (by kernel_rfl) (by kernel_rfl) (aes_cons (ae_of (pe_sign m1 h1) (aes_nil ((c_letter (by rw [List.length_take]; exact min_one) ?_).to (by decide))))))) ?_)
    · exact ⟨_, rfl, by rcases cs' with _ | ⟨_, _⟩ <;> rfl, rfl⟩
    cases hl : letter1 cs' with
    | true =>
      refine as_consL ?_
      intro Kq
      refine a1_raise (rkOf d) (aes_cons (ae_str (aes_cons (ae_of (pe_scan m1 h1 rfl) (aes_nil ⟨_, _, rfl, ?_⟩)))))
      exact qx (by unfold numTok; rw [hn]; simp [hl]) _ (k1.two L)
    | false =>
      have hL1 : H1 L = some (.list as) := k1 L _ hL hLx
      refine as_nil (as_consL ?_)
      intro Kq
      refine a1_assign (ae_local m3 (at_attr (ae_meth (ae_local m1 ⟨.ref 104, [.ref x], mr_inst h1.hx rfl (by kernel_rfl), by kernel_rfl, aes_cons (ae_str (aes_cons (ae_of (pe_from m1 m2 h1 h.hs hc) (aes_nil ((c_put' (kind := k_int) h1 hL1 hz fun k P H2 r => ?_).to (by decide))))))⟩))))
      refine ⟨k, 71, _, rfl, r.hk, okFld_store (okTok d) (by decide), Nat.le_of_ble_eq_true rfl, as_nil ?_⟩
      have hkx : k ≠ x := (ne_of h1.hx r.k0).symm
      have hkL : k ≠ L := (ne_of hL1 r.k0).symm
      have k0 : H k = none := none_back h.hx hL (k1.two L) r.k0 (by rw [h1.hx]; simp) (by rw [hL1]; simp)
      have P0 : H P = none := none_back h.hx hL (k1.two L) r.P0 (by rw [h1.hx]; simp) (by rw [hL1]; simp)
      refine q v cs' k _ (by unfold numTok; rw [hn]; simp [hl]) hc ⟨⟨(AHeap.set_ne _ _ hkx.symm).trans r.aft.sc.hx, r.aft.sc.hs, r.aft.sc.ht⟩, (AHeap.set_ne _ _ hkL.symm).trans r.aft.list, ((k1.two L).trans r.aft.same).new k0 _⟩ ?_
      exact .mk k0 P0 (AHeap.set_self ..) ((AHeap.set_ne _ _ r.kP.symm).trans r.hP) .nil
end
end Mine
end

section
open PySem PySem.W PySem.Calls PyProof.Rows Builtin.ObjectAttr
namespace Mine
noncomputable def kwT (d : Dt) : Str := match nsIn (CC d).K mainGlobals "KEYWORDS" with | some (some (.str x _)) => x | _ => S []
theorem gl_kw (d : Dt) : ∃ t, nsIn (CC d).K mainGlobals "KEYWORDS" = some (some (.str (kwT d) t)) := ⟨_, rfl⟩
noncomputable def isKw (d : Dt) (w : List Nat) : Bool := (Txt.words (kwT d)).contains (S w)
theorem kw_len (d : Dt) : Nat.ble (kwT d).length 100000 = true := by kernel_rfl
theorem kw_len2 (d : Dt) : Nat.ble (Builtin.Str.spaceWords (kwT d) ((kwT d).length + 1)).length 100000 = true := by kernel_rfl
noncomputable def k_name : List Nat := [110, 97, 109, 101]
noncomputable def k_keyword : List Nat := [107, 101, 121, 119, 111, 114, 100]
noncomputable def wordc (c : Nat) : Bool := letter c || decide (c ∈ digs)
/-- behind the mark of a numbered name -/
noncomputable def wordHead (cs : List Nat) : Option (List Nat) := if cs.take 1 = [36] then (if hd1 (· ∈ digs) (cs.drop 1) then some ((cs.drop 1).dropWhile (· ∈ digs)) else none) else some cs
noncomputable def wordEnd (cs : List Nat) : Option (List Nat) := (wordHead cs).map (List.dropWhile wordc)
theorem wordHead_suffix {cs cs' : List Nat} (h : wordHead cs = some cs') : cs' <:+ cs := by
  unfold wordHead at h
  split at h
  · split at h
    · cases h; exact (List.dropWhile_suffix _).trans (List.drop_suffix _ _)
    · injection h
  · cases h; exact List.suffix_refl _
section
variable {d : Dt} {H : AHeap} {X : Int → AHeap → Prop} {Q : AV → AHeap → Prop} {x L : Addr} {t cs : List Nat} {ln last dp : Int}
/-- read_word(scan) -/
theorem c_word {as : List AV} (h : Sc H x t cs ln L last dp) (hL : H L = some (.list as)) (hz : as.length ≤ 1000000)
    (q : ∀ cs' k H', wordEnd cs = some cs' → cs' <:+ cs → After H H' x L t cs' ln ln dp (as ++ [.ref k]) → TokN H H' (.mk (if isKw d (cs.take (cs.length - cs'.length)) then k_keyword else k_name) (cs.take (cs.length - cs'.length)) ln (ln != last) true true 0 .nil) (.ref k) → Q .none H')
    (qx : wordEnd cs = none → ∀ H', Kp2 H H' x L → X ln H') : AC (CC d) 4 (.ref 174) [.ref x] H Q X := by
  refine ac_fnL (ns := ["scan"]) (by kernel_rfl) (fun _ => by show _ = _; kernel_rfl) (by kernel_rfl) ?_
  refine as_consL ?_
  intro Kq
  refine a1_assign (ae_of (pe_scan rfl h rfl) (at_name ?_))
  have hLx : L ≠ x := fun e => by rw [e, h.hx] at hL; cases hL
  have sm : ∀ cs', AHeap.set H x (.inst 107 (scanFs t cs' ln L last dp)) = AHeap.set H x (.inst 107 (scanFs t cs' ln L last dp)) := fun _ => rfl
  refine as_seq (fun σ' => ∃ cs', wordHead cs = some cs' ∧ σ' = ⟨[("scan", .ref x), ("begin", .int ((t.length : Int) - cs.length))], H.set x (.inst 107 (scanFs t cs' ln L last dp))⟩) ?_ ?_
  · refine a1_if (ab_of (z := cs.take 1 == [36]) (PB.as (pb_cmp (pe_sign rfl h) pe_str rfl) (S_eq _ [36])) ?_)
    by_cases hB : cs.take 1 = [36]
    · rw [beq_iff_eq.mpr hB]
      obtain ⟨r, rfl⟩ : ∃ r, cs = 36 :: r := by
        rcases cs with _ | ⟨c, cs⟩
        · injection hB
        · exact ⟨cs, by have : c = 36 := by simpa using hB
                        rw [this]⟩
      refine as_consL ?_
      intro Kq
      refine a1_go0 rfl h (cs' := r) on1 ?_
      have h2 : Sc (H.set x (.inst 107 (scanFs t r ln L last dp))) x t r ln L last dp := .set ((List.suffix_cons _ _).trans h.hs) h.ht
      refine as_consL ?_
      intro Kq
      refine a1_if (ab_cmp2 (ae_fn (by kernel_rfl) (by kernel_rfl) (aes_cons (ae_local rfl (aes_cons (ae_of (pe_gstr (gl_digs d)) (aes_nil ((c_run h2 ?_).to (by decide)))))))))
      refine ae_str ⟨_, rfl, ?_⟩
      rw [show (S (r.takeWhile (· ∈ digs)) == ("" : Str)) = !hd1 (· ∈ digs) r from (S_eq _ []).trans (by
        rcases r with _ | ⟨c, r⟩
        · rfl
        · by_cases hc : c ∈ digs
          · rw [List.takeWhile_cons, if_pos (decide_eq_true hc)]; simp [hd1, hc]
          · rw [List.takeWhile_cons, if_neg (by simpa using hc)]; simp [hd1, hc])]
      have hw : wordHead (36 :: r) = if hd1 (· ∈ digs) r then some (r.dropWhile (· ∈ digs)) else none := by unfold wordHead; exact if_pos rfl
      cases hh : hd1 (· ∈ digs) r with
      | true =>
        refine as_nil (as_nil ⟨rfl, r.dropWhile (· ∈ digs), by rw [hw, hh]; rfl, ?_⟩)
        show St.mk _ ((AHeap.set H x _).set x _) = _
        rw [AHeap.set_set]; rfl
      | false =>
        have h3 : Sc ((H.set x (.inst 107 (scanFs t r ln L last dp))).set x (.inst 107 (scanFs t (r.dropWhile (· ∈ digs)) ln L last dp))) x t (r.dropWhile (· ∈ digs)) ln L last dp := .set ((List.dropWhile_suffix _).trans h2.hs) h.ht
        refine as_consL ?_
        intro Kq
        refine a1_raise (rkOf d) (aes_cons (ae_str (aes_cons (ae_of (pe_scan rfl h3 rfl) (aes_nil ⟨_, _, rfl, ?_⟩)))))
        exact qx (by unfold wordEnd; rw [hw, hh]; rfl) _ (((Kp2.refl H x L).setx _).setx _)
    · rw [beq_eq_false_iff_ne.mpr hB]
      refine as_nil ⟨rfl, cs, by unfold wordHead; rw [if_neg hB], ?_⟩
      rw [AHeap.set_same h.hx]; rfl
  · rintro σ' ⟨cs1, hw, rfl⟩
    have hc1 := wordHead_suffix hw
    refine as_consL ?_
    intro Kq
    refine a1_while ?_
    refine aw_ind (I := fun cs' => cs' <:+ cs1 ∧ cs'.dropWhile wordc = cs1.dropWhile wordc) (σ := fun cs' => ⟨[("scan", .ref x), ("begin", .int ((t.length : Int) - cs.length))], H.set x (.inst 107 (scanFs t cs' ln L last dp))⟩) (μ := List.length) (fun cs' hh ih => ?_) cs1 ⟨List.suffix_refl _, rfl⟩ rfl
    obtain ⟨hc, hd⟩ := hh
    have h1 : Sc (H.set x (.inst 107 (scanFs t cs' ln L last dp))) x t cs' ln L last dp := .set ((hc.trans hc1).trans h.hs) h.ht
    refine ab_of (z := hd1 wordc cs') (PB.as (pb_or (z := letter1 cs') (ab_val (ae_fn (by kernel_rfl) (by kernel_rfl) (aes_cons (ae_of (pe_sign rfl h1) (aes_nil ((c_letter (by rw [List.length_take]; exact min_one) ⟨_, rfl, by rcases cs' with _ | ⟨_, _⟩ <;> rfl, rfl⟩).to (by decide))))))) fun _ => pb_or (pb_and (pb_cmp (pe_sign rfl h1) pe_str rfl) fun _ => pb_and (pb_cmp (pe_sign rfl h1) (pe_gstr (gl_digs d)) rfl) fun _ => pb_and_nil) fun _ => pb_or_nil) ?_) ?_
    · refine (congrArg (or (letter1 cs')) (congrArg (· || false) (congr (congrArg and (ne_take cs')) (congrArg (· && true) (occ_take digs cs'))))).trans ?_
      rcases cs' with _ | ⟨c, cs'⟩ <;> simp [hd1, letter1, wordc]
    cases hh : hd1 wordc cs' with
    | true =>
      refine xl_EEA (hd1_true hh) fun c cs'' zr1 hc2 => ?_; subst zr1
      refine as_consL ?_
      intro Kq
      refine a1_go rfl (cs' := cs'') (by rw [List.length_cons]; exact Int.le_antisymm (linI [] [_] (.n 1) (.s (.c (.a (.v 0) (.n 1))) (.c (.v 0))) []  rfl) (linI [] [_] (.s (.c (.a (.v 0) (.n 1))) (.c (.v 0))) (.n 1) []  rfl)) (as_nil (ih cs'' ⟨(List.suffix_cons _ _).trans hc, ?_⟩ (by simp)))
      rw [← hd, List.dropWhile_cons, if_pos hc2]
    | false =>
      have e := hd1_false hh
      have hwe : wordEnd cs = some cs' := by unfold wordEnd; rw [hw, Option.map_some, ← hd, e]
      refine as_consL ?_
      intro Kq
      refine a1_assign (ae_of (pe_from rfl rfl h1 h.hs (hc.trans hc1)) (at_name ?_))
      refine as_consL ?_
      intro Kq
      refine a1_expr ?_
      refine ae_meth (ae_local rfl ⟨.ref 104, [.ref x], mr_inst h1.hx rfl (by kernel_rfl), by kernel_rfl, ?_⟩)
      have k1 : Kp2 H (H.set x (.inst 107 (scanFs t cs' ln L last dp))) x L := (Kp2.refl H x L).setx _
      refine aes_cons (ae_if (ab_cmp2 (ae_local rfl (ae_meth0 (ae_of (pe_gstr (gl_kw d)) ⟨.bi "str.split", [.str (kwT d)], mr_str PySem.F.slot_str_split PySem.F.type_str_split, rfl, acw_split (Nat.le_of_ble_eq_true (kw_len d)) (Nat.le_of_ble_eq_true (kw_len2 d)) fun l hl => ?_⟩)))))
      refine ⟨isKw d (cs.take (cs.length - cs'.length)), ⟨Txt.words (kwT d), AHeap.set_self .., rfl⟩, ?_⟩
      have hlx : l ≠ x := (ne_of h1.hx hl).symm
      have hL1 : (H.set x (.inst 107 (scanFs t cs' ln L last dp))) L = some (.list as) := (AHeap.set_ne _ _ hLx).trans hL
      have hlL : l ≠ L := (ne_of hL1 hl).symm
      have hl0 : H l = none := (AHeap.set_ne _ _ hlx).symm.trans hl
      have h2 : Sc ((H.set x (.inst 107 (scanFs t cs' ln L last dp))).set l (.list ((Txt.words (kwT d)).map .str))) x t cs' ln L last dp := ⟨(AHeap.set_ne _ _ hlx.symm).trans h1.hx, h1.hs, h1.ht⟩
      have hL2 : ((H.set x (.inst 107 (scanFs t cs' ln L last dp))).set l (.list ((Txt.words (kwT d)).map .str))) L = some (.list as) := (AHeap.set_ne _ _ hlL.symm).trans hL1
      have k2 := k1.new hl0 (.list ((Txt.words (kwT d)).map .str))
      have fin : ∀ kind, kind = (if isKw d (cs.take (cs.length - cs'.length)) then k_keyword else k_name) → ∀ (k P : Addr) (H2 : AHeap), PutR ((H.set x (.inst 107 (scanFs t cs' ln L last dp))).set l (.list ((Txt.words (kwT d)).map .str))) H2 x L k P t cs' kind (cs.take (cs.length - cs'.length)) ln last dp as → Q .none H2 := fun kind hk k P H2 r => by
        have k0 : H k = none := none_back h.hx hL k2 r.k0 (by rw [h2.hx]; simp) (by rw [hL2]; simp)
        have P0 : H P = none := none_back h.hx hL k2 r.P0 (by rw [h2.hx]; simp) (by rw [hL2]; simp)
        exact q cs' k _ hwe (hc.trans hc1) ⟨r.aft.sc, r.aft.list, k2.trans r.aft.same⟩ (.mk k0 P0 (by rw [← hk]; exact r.hk) r.hP .nil)
      cases hk : isKw d (cs.take (cs.length - cs'.length)) with
      | true =>
        rw [hk] at fin
        exact ae_str (aes_cons (ae_local rfl (aes_nil ((c_put' (kind := k_keyword) h2 hL2 hz fun k P H2 r => as_nil (fin k_keyword rfl k P H2 r)).to (by decide)))))
      | false =>
        rw [hk] at fin
        exact ae_str (aes_cons (ae_local rfl (aes_nil ((c_put' (kind := k_name) h2 hL2 hz fun k P H2 r => as_nil (fin k_name rfl k P H2 r)).to (by decide)))))
end
end Mine
end

section
open PySem PySem.W PySem.Calls PyProof.Rows Builtin.ObjectAttr
namespace Mine
noncomputable def k_op : List Nat := [111, 112]
noncomputable def ops : List (List Nat) := [[46, 46, 60], [46, 46, 46], [61, 61, 61], [33, 61, 61], [61, 61], [33, 61], [60, 61], [62, 61], [38, 38], [124, 124], [63, 63], [43, 61], [45, 61], [42, 61], [47, 61], [37, 61], [61], [60], [62], [43], [45], [42], [47], [37], [33], [63], [38]]
noncomputable def opAt (cs : List Nat) : Option (List Nat) := ops.find? fun o => cs.take o.length == o
theorem ae_gtup {c : Cx} {sc : Scope} {b : Nat} {σ : St} {X : Int → St → Prop} {x : Str} {p : Pos} {a : AV} {v : Value} {Q : AV → St → Prop} (e : nsIn c.K mainGlobals x = some (some v)) (hv : c.K.In c.B → VIs c.B.get? a v) (h : Q a σ) (hl : sc.names.lookup x = some .globalImplicit := by rfl) (hd : (x == ("__debug__" : Str)) = false := by decide) : AE c sc b (.Name x p) σ Q X :=
  fun f s N hf R => ae_global e (hv hf.ok.kin) h hl hd f s N hf R
theorem ops_is (d : Dt) (hX : (CC d).K.In (CC d).B) : VIs (CC d).B.get? (.tup (ops.map fun o => .str (S o))) (.ref 54) := by
  refine VIs.tup (hX 54 _ rfl) ?_
  repeat first | exact .nil | refine .cons (.str _ _) ?_
theorem gl_ops (d : Dt) : nsIn (CC d).K mainGlobals "OPERATORS" = some (some (.ref 54)) := rfl
/-- a token's sides are told -/
theorem tok_done {H H1 H2 : AHeap} {x L k P : Addr} {t cs cs1 : List Nat} {kind text : List Nat} {ln last dp last1 dp1 : Int} {as : List AV} {l r : Bool} (hx : H x = some (.inst 107 (scanFs t cs1 ln L last1 dp1))) (hL : H L = some (.list as)) (h1 : Sc H1 x t cs ln L last dp) (hL1 : H1 L = some (.list as)) (k1 : Kp2 H H1 x L) (R : PutR H1 H2 x L k P t cs kind text ln last dp as) {lf : Bool} {rt : Bool} :
    After H (H2.set k (.inst 71 (tokFs kind text ln (ln != last) lf rt 0 P))) x L t cs ln ln dp (as ++ [.ref k]) ∧ TokN H (H2.set k (.inst 71 (tokFs kind text ln (ln != last) lf rt 0 P))) (.mk kind text ln (ln != last) lf rt 0 .nil) (.ref k) := by
  have hkx : k ≠ x := (ne_of h1.hx R.k0).symm
  have hkL : k ≠ L := (ne_of hL1 R.k0).symm
  have k0 : H k = none := none_back hx hL k1 R.k0 (by rw [h1.hx]; simp) (by rw [hL1]; simp)
  have P0 : H P = none := none_back hx hL k1 R.P0 (by rw [h1.hx]; simp) (by rw [hL1]; simp)
  exact ⟨⟨⟨(AHeap.set_ne _ _ hkx.symm).trans R.aft.sc.hx, R.aft.sc.hs, R.aft.sc.ht⟩, (AHeap.set_ne _ _ hkL.symm).trans R.aft.list, (k1.trans R.aft.same).new k0 _⟩, .mk k0 P0 (AHeap.set_self ..) ((AHeap.set_ne _ _ R.kP.symm).trans R.hP) .nil⟩
section
variable {d : Dt} {H : AHeap} {X : Int → AHeap → Prop} {Q : AV → AHeap → Prop} {x L : Addr} {t cs : List Nat} {ln last dp : Int}
/-- read_operator(scan) -/
theorem c_operator {as : List AV} {rp : List Nat} (h : Sc H x t cs ln L last dp) (hrp : t = rp.reverse ++ cs) (hL : H L = some (.list as)) (hz : as.length ≤ 1000000)
    (q : ∀ o cs' k H', opAt cs = some o → cs = o ++ cs' → After H H' x L t cs' ln ln dp (as ++ [.ref k]) → TokN H H' (.mk k_op o ln (ln != last) (bleft rp o) (bright cs' o) 0 .nil) (.ref k) → Q .none H')
    (qx : opAt cs = none → ∀ H', Kp2 H H' x L → X ln H') : AC (CC d) 4 (.ref 209) [.ref x] H Q X := by
  refine ac_fnL (ns := ["scan"]) (by kernel_rfl) (fun _ => by show _ = _; kernel_rfl) (by kernel_rfl) ?_
  have hLx : L ≠ x := fun e => by rw [e, h.hx] at hL; cases hL
  refine as_consL ?_
  intro Kq
  refine a1_for (asrc_tuple (ae_gtup (gl_ops d) (ops_is d) ⟨_, rfl, trivial, ?_⟩))
  refine turns_ind (fun o => AV.str (S o)) (fun m => ⟨m, H⟩) (fun ys m => m.lookup ("scan" : Str) = some (.ref x) ∧ ys.find? (fun o => cs.take o.length == o) = opAt cs ∧ ∀ o ∈ ys, o ∈ ops) (fun m hm => ?_) (fun o ys m hm ih => ?_) ops _ ⟨rfl, rfl, fun _ h => h⟩
  · refine as_consL ?_
    intro Kq
    refine a1_raise (rkOf d) (aes_cons (ae_str (aes_cons (ae_of (pe_scan hm.1 h rfl) (aes_nil ⟨_, _, rfl, ?_⟩)))))
    exact qx hm.2.1.symm _ (Kp2.refl H x L)
  · refine xl_AA hm fun i1 i2 i3 => ?_; try clear hm
    have hol : o.length ≤ 3 := (show ∀ o ∈ ops, o.length ≤ 3 by decide) o (i3 o (.head _))
    refine at_name ?_
    have l1 : ∀ {v : AV}, (fput m "text" v).lookup ("scan" : Str) = some (.ref x) := look_ne i1
    refine as_consL ?_
    intro Kq
    refine a1_if (ab_of (z := cs.take o.length == o) (PB.as (pb_cmp (a := .str (S (cs.take o.length))) (ae_slice (ae_of (pe_scan l1 h rfl) ⟨_, rfl, by rw [S_len]; exact Nat.le_trans h.ht (by decide), ?_⟩)) (pe_local look_eq) rfl) ?_) ?_)
    · refine ae_of (pe_scan l1 h rfl) ⟨_, rfl, ?_⟩
      refine ae_bin (ae_of (pe_scan l1 h rfl) (ae_of (pe_len look_eq (by exact lin [_] (.a (.v 0) (.n 1)) (.n 4611686018427387904) [((.v 0), (.n 3))] hol rfl)) ?_))
      refine ⟨_, rfl, ?_, rfl⟩
      have := slice_rest h.hs 0 o.length (by exact linI [] [] (.n 0) (.n 0) []  rfl) (by exact linI [] [_] (.n 0) (.c (.v 0)) []  rfl)
      rw [Int.add_zero, Int.sub_zero] at this
      rw [this]; rfl
    · exact S_eq _ o
    rw [List.find?_cons] at i2
    cases ho : cs.take o.length == o with
    | false =>
      rw [ho] at i2
      exact as_nil (as_nil ⟨trivial, ih _ ⟨l1, i2, fun o h => i3 o (.tail _ h)⟩⟩)
    | true =>
      rw [ho] at i2
      have ho' : cs.take o.length = o := beq_iff_eq.mp ho
      obtain ⟨cs', hcs⟩ : ∃ cs', cs = o ++ cs' := ⟨cs.drop o.length, by conv => lhs; rw [← List.take_append_drop o.length cs, ho']⟩
      have hc' : cs' <:+ cs := ⟨o, hcs.symm⟩
      have hlen : cs.length = o.length + cs'.length := by rw [hcs, List.length_append]
      refine as_consL ?_
      intro Kq
      refine a1_assign (ae_of (pe_scan l1 h rfl) (at_name ?_))
      have l2 : ∀ {v w : AV}, (fput (fput m "text" v) "begin" w).lookup ("scan" : Str) = some (.ref x) := look_ne l1
      have t2 : ∀ {v w : AV}, (fput (fput m "text" v) "begin" w).lookup ("text" : Str) = some v := look_ne look_eq
      refine as_consL ?_
      intro Kq
      refine a1_augfld l2 h.hx (okScan d) rfl (ae_of (pe_len t2 (by omega)) ⟨rfl, _, rfl, ?_⟩)
      rw [show (t.length : Int) - cs.length + (o.length : Nat) = t.length - cs'.length by exact Int.le_antisymm (linI [] [_, _, _, _] (.a (.s (.c (.v 3)) (.c (.v 0))) (.c (.v 1))) (.s (.c (.v 3)) (.c (.v 2))) [((.c (.a (.v 1) (.v 2))), (.c (.v 0)))] (Int.ofNat_le.mpr (Nat.le_of_eq (Eq.symm hlen))) rfl) (linI [] [_, _, _, _] (.s (.c (.v 3)) (.c (.v 2))) (.a (.s (.c (.v 3)) (.c (.v 0))) (.c (.v 1))) [((.c (.v 0)), (.c (.a (.v 1) (.v 2))))] (Int.ofNat_le.mpr (Nat.le_of_eq hlen)) rfl)]
      have h1 : Sc (H.set x (.inst 107 (scanFs t cs' ln L last dp))) x t cs' ln L last dp := .set (hc'.trans h.hs) h.ht
      have hL1 : (H.set x (.inst 107 (scanFs t cs' ln L last dp))) L = some (.list as) := (AHeap.set_ne _ _ hLx).trans hL
      have k1 : Kp2 H (H.set x (.inst 107 (scanFs t cs' ln L last dp))) x L := (Kp2.refl H x L).setx _
      refine as_consL ?_
      intro Kq
      refine a1_assign (ae_meth (ae_local l2 ⟨.ref 104, [.ref x], mr_inst h1.hx rfl (by kernel_rfl), by kernel_rfl, aes_cons (ae_str (aes_cons (ae_local t2 (aes_nil ((c_put' (kind := k_op) h1 hL1 hz fun k P H2 r => ?_).to (by decide))))))⟩))
      refine at_name ?_
      have l3 : ∀ {v w u : AV}, (fput (fput (fput m "text" v) "begin" w) "token" u).lookup ("scan" : Str) = some (.ref x) := look_ne l2
      have t3 : ∀ {v w u : AV}, (fput (fput (fput m "text" v) "begin" w) "token" u).lookup ("text" : Str) = some v := look_ne t2
      have b3 : ∀ {v w u : AV}, (fput (fput (fput m "text" v) "begin" w) "token" u).lookup ("begin" : Str) = some w := look_ne look_eq
      have hrl : (t.length : Int) - cs.length = rp.length := by rw [hrp]; simp
      refine as_consL ?_
      intro Kq
      refine a1_assign (ae_fn (by kernel_rfl) (by kernel_rfl) (aes_cons (ae_local l3 (aes_cons (ae_local b3 (aes_cons (ae_local t3 (aes_nil ((c_left r.aft.sc hrp hrl (by omega) ?_).to (by decide))))))))))
      refine at_fld look_eq r.hk (okTok d) ?_
      have hkx : k ≠ x := (ne_of h1.hx r.k0).symm
      have sc2 : ∀ {o}, Sc (H2.set k o) x t cs' ln L ln dp := ⟨(AHeap.set_ne _ _ hkx.symm).trans r.aft.sc.hx, r.aft.sc.hs, r.aft.sc.ht⟩
      refine as_consL ?_
      intro Kq
      refine a1_assign (ae_fn (by kernel_rfl) (by kernel_rfl) (aes_cons (ae_local l3 (aes_cons (ae_local t3 (aes_nil ((c_right sc2 ?_).to (by decide))))))))
      refine at_fld look_eq (AHeap.set_self ..) (okTok d) ?_
      refine as_consL ?_
      intro Kq
      refine a1_return0 ?_
      rw [AHeap.set_set]
      have fin := tok_done (lf := bleft rp o) (rt := bright cs' o) (l := true) (r := true) h.hx hL h1 hL1 k1 r
      exact q o cs' k _ i2.symm hcs fin.1 fin.2
end
end Mine
end

section
open PySem PySem.W PySem.Calls PyProof.Rows Builtin.ObjectAttr
namespace Mine
open PySem.NumText in
noncomputable def fig16 (c : Nat) : Nat := fig (lo1 c)
noncomputable def hexVal (l : List Nat) : Nat := l.foldl (fun acc c => acc * 16 + fig16 c) 0
open PySem.NumText in
theorem step16 : ∀ c ∈ hexs, (c == 95) = false ∧ digit? c = some (fig16 c) ∧ fig16 c < 16 ∧ blank c = false ∧ c ≠ 45 ∧ c ≠ 43 ∧ c ≠ 0 ∧ c < 128 ∧ c ≠ 120 ∧ c ≠ 88 := by decide
open PySem.NumText in
theorem fold16 : ∀ (l : List Nat) (a : Array Nat) (z : Bool), (∀ c ∈ l, c ∈ hexs) → l.foldlM (PySem.NumText.step 16) (a, z) = some (a ++ (l.map fig16).toArray, if l = [] then z else true)
  | [], a, z, _ => by simp
  | c :: l, a, z, h => by
    refine xl_AAA (step16 c (h c (.head _))) fun h1 h2 h3 _ => ?_
    rw [List.foldlM_cons]
    have : PySem.NumText.step 16 (a, z) c = some (a.push (fig16 c), true) := by
      unfold PySem.NumText.step
      rw [h1, h2]
      simp [h3]
    rw [this]
    show l.foldlM (PySem.NumText.step 16) (a.push (fig16 c), true) = _
    rw [fold16 l _ _ fun c hc => h c (.tail _ hc)]
    simp
open PySem.NumText in
theorem read16 {l : List Nat} (h : ∀ c ∈ l, c ∈ hexs) (h0 : l ≠ []) : (int_private% "readNumeral") 0 16 l = (int_private% "Numeral.value") ((hexVal l : Nat) : Int) := by
  obtain ⟨c, r, rfl⟩ : ∃ c r, l = c :: r := by cases l; exact absurd rfl h0; exact ⟨_, _, rfl⟩
  have hc := step16 c (h c (.head _))
  have e1 : (c :: r).dropWhile blank = c :: r := by rw [List.dropWhile_cons, if_neg (by rw [hc.2.2.2.1]; simp)]
  have e2 : sign (c :: r) = (false, c :: r) := by
    unfold sign
    split
    · rename_i q; cases q; exact absurd rfl hc.2.2.2.2.1
    · rename_i q; cases q; exact absurd rfl hc.2.2.2.2.2.1
    · rfl
  have e3 : PySem.NumText.based 16 (c :: r) = (16, false, c :: r) := by
    unfold PySem.NumText.based
    split
    · rename_i p hp
      have : ((16 : Nat) == 0 || (16 : Nat) == p) = false := by
        unfold prefix? at hp
        split at hp
        · rename_i c2 r2 q
          have hq : c = 48 ∧ r = c2 :: r2 := by injection q with q1 q2; exact ⟨q1, q2⟩
          have h2 := step16 c2 (h c2 (by rw [hq.2]; exact .tail _ (.head _)))
          have n1 : (c2 == 120 || c2 == 88) = false := by simp [h2.2.2.2.2.2.2.2.2.1, h2.2.2.2.2.2.2.2.2.2]
          rw [n1] at hp
          simp only [Bool.false_eq_true, if_false] at hp
          split at hp
          · cases hp; rfl
          · split at hp
            · cases hp; rfl
            · injection hp
        · injection hp
      rw [this]; rfl
    · rfl
  have e4 : ((c :: r).reverse.dropWhile blank).reverse = c :: r := by
    obtain ⟨d, s, hd⟩ : ∃ d s, (c :: r).reverse = d :: s := by
      cases hh : (c :: r).reverse with
      | nil => simp at hh
      | cons d s => exact ⟨d, s, rfl⟩
    have hm : d ∈ c :: r := List.mem_reverse.mp (by rw [hd]; exact .head _)
    rw [hd, List.dropWhile_cons, if_neg (by rw [(step16 d (h d hm)).2.2.2.1]; simp), ← hd, List.reverse_reverse]
  rw [readNumeral_eq, e1, e2]
  dsimp only
  rw [e3]
  dsimp only
  rw [e4]
  unfold digits?
  rw [fold16 _ _ _ h, if_neg h0]
  simp only [Option.bind_some, if_true]
  unfold judge
  have e5 : (![2, 4, 8, 16, 32].contains (16 : Nat) && (0 : Nat) != 0 && decide ((#[] ++ ((c :: r).map fig16).toArray : Array Nat).size > 0)) = false := rfl
  have e6 : (#[] ++ ((c :: r).map fig16).toArray : Array Nat).foldl (fun acc d => acc * 16 + d) 0 = hexVal (c :: r) := by
    unfold hexVal
    rw [← Array.foldl_toList]
    simp [List.foldl_map]
  dsimp only
  rw [e5, e6]
  rfl
theorem wp_text16 {M : Model} {A : Around} {E : Value → Shared → Prop} {s : Shared} {Q : Value → Shared → Prop} {v : Value} {text : List Nat} {n : Int}
    (hs : (text.takeWhile (· != 0)).length ≤ 640) (hr : (int_private% "readNumeral") 0 16 (text.takeWhile (· != 0)) = (int_private% "Numeral.value") n)
    (ha : ((text.takeWhile (· != 0)).length == text.length) = true) (h : Q (.int n s.toks) { s with toks := s.toks + 1 }) :
    wpAny M A ((int_private% "intFromText") v text 16) Q E s := by
  obtain ⟨hp, g, d, tk, os⟩ := s
  repeat (any_goals (first
    | assumption
    | (with_reducible refine wpAny_ite_true (decide_eq_true hs) ?_)
    | (with_reducible refine wpAny_ite_true (decide_eq_true ha) ?_)
    | wp_step))
  all_goals (try rw [hr])
  all_goals (try dsimp only)
  repeat (any_goals (first
    | assumption
    | (with_reducible refine wpAny_ite_true (decide_eq_true hs) ?_)
    | (with_reducible refine wpAny_ite_true (decide_eq_true ha) ?_)
    | wp_step))
theorem typeCall_int_2 (a b : Value) : checkTypeCall "int" ⟨[a, b], []⟩ = pure () := by kernel_rfl
theorem newCall_int_2 (a b : Value) : checkBuiltinCall "int.__new__" ⟨[.type "int", a, b], []⟩ = pure () := by kernel_rfl
structure Hid2 (p : Prop) : Prop where
  out : p
set_option maxHeartbeats 4000000 in
theorem gives_text16 {x : PySem.Str} {u t : Tok} {n : Int} (hs : (numSeenOf x).length ≤ 640) (hr : (int_private% "readNumeral") 0 16 (numSeenOf x) = (int_private% "Numeral.value") n) (ha : ((numSeenOf x).length == (numTextOf x).length) = true) : Gives (Builtin.«int.__new__» ⟨[.type "int", .str x u, .int 16 t], []⟩) (.int n) :=
  .of_wp fun M A E s Q h => by
    obtain ⟨hp, g, d, tk, os⟩ := s
    have f1 := F.conv_sub_int
    have f2 := F.madeHere_int
    have hk := Hid2.mk (And.intro hs (And.intro hr ha))
    clear hs hr ha
    repeat (any_goals (first
      | assumption
      | ((with_reducible show wpAny _ _ ((int_private% "intFromText") _ _ _) _ _ _); refine wp_text16 hk.out.1 hk.out.2.1 hk.out.2.2 ?_)
      | wp_step))
    all_goals first | exact ⟨_, rfl, h⟩ | skip
end Mine
end

section
open PySem PySem.W PySem.Calls PyProof.Rows Builtin.ObjectAttr
set_option maxHeartbeats 4000000
namespace Mine
section
variable {c : Cx} {b : Nat} {H : AHeap} {Q : AV → AHeap → Prop} {X : Int → AHeap → Prop}
theorem acw_int16 {l : List Nat} (h : ∀ c ∈ l, c ∈ hexs) (h0 : l ≠ []) (h1 : l.length ≤ 640) (q : Q (.int (hexVal l : Nat)) H) : ACw c b (.ty "int") [.str (S l), .int 16] H Q X := fun sc f s N σ v vs hf R eH hv hvs => by
  subst eH; cases hv
  cases hvs with
  | cons h1' h2 =>
    cases h2 with
    | cons h2' h3 =>
      cases h3; cases h1'; cases h2'
      have e1 : numTextOf (S l) = l := by
        refine if_pos ?_
        rw [← Array.all_toList, List.all_eq_true]
        intro k hk
        exact decide_eq_true ((step16 k (h k hk)).2.2.2.2.2.2.2.1)
      have e2 : numSeenOf (S l) = l := by
        show (numTextOf (S l)).takeWhile _ = _
        rw [e1]
        exact NumText.takeWhile_all fun k hk => bne_iff_ne.mpr (step16 k (h k hk)).2.2.2.2.2.2.1
      refine callType_new F.called_int F.newNe_int (typeCall_int_2 _ _) (newCall_int_2 _ _) (fun obj => F.args_object_init_3 obj _ _) F.entry_int_new (gives_text16 (by rw [e2]; exact h1) (by rw [e2]; exact read16 h h0) (by rw [e1, e2]; exact beq_self_eq_true _)).meets ?_
      exact ⟨rfl, Pst.tk R ⟨rfl, _, .int _ _, q⟩⟩
end
noncomputable def scal (r : List Nat) : Option (Nat × List Nat) :=
  if r.take 1 = [123] then
    (let run := (r.drop 1).takeWhile (· ∈ hexs)
     let r2 := (r.drop 1).dropWhile (· ∈ hexs)
     if 1 ≤ run.length ∧ run.length ≤ 8 ∧ r2.take 1 = [125] then
       (if 1114111 < hexVal run ∨ (55296 ≤ hexVal run ∧ hexVal run < 57344) then none else some (hexVal run, r2.drop 1))
     else none)
  else none
noncomputable def escOf (c : Nat) : Option Nat := if c = 110 then some 10 else if c = 116 then some 9 else if c = 114 then some 13 else if c = 48 then some 0 else if c = 92 then some 92 else if c = 34 then some 34 else if c = 39 then some 39 else none
noncomputable def escL (cs : List Nat) : List Nat := match cs with | [] => [] | c :: _ => (escOf c).toList
noncomputable abbrev escs : List (Str × AV) := [("n", .str "\n"), ("t", .str "\t"), ("r", .str "\r"), ("0", .str "\x00"), ("\\", .str "\\"), ("\"", .str "\""), ("'", .str "'")]
theorem escs_nd : (escs.map (·.1)).Nodup := by decide +kernel
theorem escs_z : escs.length ≤ 15 := by decide +kernel
theorem escs_ne : escs ≠ [] := by intro h; cases h
theorem escs_get (cs : List Nat) : (escs.lookup (S (cs.take 1))).getD (.str "") = .str (S (escL cs)) := by
  have e : escs = [(S [110], .str (S [10])), (S [116], .str (S [9])), (S [114], .str (S [13])), (S [48], .str (S [0])), (S [92], .str (S [92])), (S [34], .str (S [34])), (S [39], .str (S [39]))] := rfl
  rw [e]
  simp only [List.lookup_cons, S_eq, List.lookup_nil]
  rcases cs with _ | ⟨c, cs⟩
  · rfl
  · simp only [List.take_succ_cons, List.take_zero, escL, escOf]
    have b : ∀ k : Nat, ([c] == [k]) = decide (c = k) := fun k => by rw [Bool.eq_iff_iff]; simp
    simp only [b]
    by_cases h1 : c = 110
    · simp [h1]
    by_cases h2 : c = 116
    · simp [h2]
    by_cases h3 : c = 114
    · simp [h3]
    by_cases h4 : c = 48
    · simp [h4]
    by_cases h5 : c = 92
    · simp [h5]
    by_cases h6 : c = 34
    · simp [h6]
    by_cases h7 : c = 39
    · simp [h7]
    simp [h1, h2, h3, h4, h5, h6, h7]
    rfl
noncomputable def esc2 (cs : List Nat) : Option (Nat × List Nat) := match cs with | [] => none | c :: r => (escOf c).map fun v => (v, r)
/-- the sign that an escape tells, and what comes behind it -/
noncomputable def escaped (cs : List Nat) : Option (Nat × List Nat) := if cs.take 1 = [117] then scal (cs.drop 1) else esc2 cs
theorem gl_scalar (d : Dt) : ∃ t, nsIn (CC d).K mainGlobals "MOST_SCALAR" = some (some (.int 1114111 t)) := ⟨_, rfl⟩
section
variable {d : Dt} {H : AHeap} {X : Int → AHeap → Prop} {Q : AV → AHeap → Prop} {x L : Addr} {t cs : List Nat} {ln last dp : Int}
/-- scalar_escape(scan) -/
theorem c_scalar {r : List Nat} (h : Sc H x t (117 :: r) ln L last dp) (q : ∀ v cs', scal r = some (v, cs') → cs' <:+ r → Q (.str (S [v])) (H.set x (.inst 107 (scanFs t cs' ln L last dp))))
    (qx : scal r = none → ∀ cs', X ln (H.set x (.inst 107 (scanFs t cs' ln L last dp)))) : AC (CC d) 3 (.ref 181) [.ref x] H Q X := by
  refine ac_fnL (ns := ["scan"]) (by kernel_rfl) (fun _ => by show _ = _; kernel_rfl) (by kernel_rfl) ?_
  refine as_consL ?_
  intro Kq
  refine a1_go0 rfl h (cs' := r) (by first | exact on1 | exact on2) ?_
  have hr : r <:+ t := (List.suffix_cons _ _).trans h.hs
  have h1 : Sc (H.set x (.inst 107 (scanFs t r ln L last dp))) x t r ln L last dp := .set hr h.ht
  refine as_consL ?_
  intro Kq
  refine a1_if (ab_of (z := !(r.take 1 == [123])) (PB.as (pb_cmp (pe_sign rfl h1) pe_str rfl) (congrArg not (S_eq _ [123]))) ?_)
  by_cases hb : r.take 1 = [123]
  rotate_left
  · rw [beq_eq_false_iff_ne.mpr hb]
    refine as_consL ?_
    intro Kq
    refine a1_raise (rkOf d) (aes_cons (ae_str (aes_cons (ae_of (pe_scan rfl h1 rfl) (aes_nil ⟨_, _, rfl, ?_⟩)))))
    exact qx (by unfold scal; rw [if_neg hb]) _
  rw [beq_iff_eq.mpr hb]
  obtain ⟨r1, rfl⟩ : ∃ r1, r = 123 :: r1 := by
    rcases r with _ | ⟨c, r⟩
    · cases hb
    · exact ⟨r, by have : c = 123 := by simpa using hb
                   rw [this]⟩
  refine as_nil (as_consL ?_)
  intro Kq
  refine a1_go rfl (cs' := r1) (by first | exact on1 | exact on2) ?_
  have hr1 : r1 <:+ t := (List.suffix_cons _ _).trans hr
  have h2 : Sc (H.set x (.inst 107 (scanFs t r1 ln L last dp))) x t r1 ln L last dp := .set hr1 h.ht
  refine as_consL ?_
  intro Kq
  refine a1_assign (ae_fn (by kernel_rfl) (by kernel_rfl) (aes_cons (ae_local rfl (aes_cons (ae_of (pe_gstr (gl_hex d)) (aes_nil ((c_run h2 (at_name ?_)).to (by decide))))))))
  rw [AHeap.set_set]
  obtain ⟨run, hrun⟩ : ∃ run, run = r1.takeWhile (· ∈ hexs) := ⟨_, rfl⟩
  obtain ⟨r2, hr2⟩ : ∃ r2, r2 = r1.dropWhile (· ∈ hexs) := ⟨_, rfl⟩
  rw [← hrun, ← hr2]
  have hs2 : r2 <:+ r1 := by rw [hr2]; exact List.dropWhile_suffix _
  have hrl : run.length ≤ 1000000 := by
    have h1 := (List.takeWhile_prefix (p := fun c => decide (c ∈ hexs)) (l := r1)).length_le
    have h2 := hr1.length_le
    have := h.ht
    rw [hrun]; exact Nat.le_trans h1 (Nat.le_trans h2 this)
  have hrh : ∀ c ∈ run, c ∈ hexs := fun c hc => by rw [hrun] at hc; exact of_decide_eq_true (mem_takeWhile hc)
  have hsc : scal (123 :: r1) = if 1 ≤ run.length ∧ run.length ≤ 8 ∧ r2.take 1 = [125] then
       (if 1114111 < hexVal run ∨ (55296 ≤ hexVal run ∧ hexVal run < 57344) then none else some (hexVal run, r2.drop 1)) else none := by
    unfold scal; rw [hrun, hr2]; exact if_pos rfl
  have h3 : Sc (H.set x (.inst 107 (scanFs t r2 ln L last dp))) x t r2 ln L last dp := .set (hs2.trans hr1) h.ht
  refine as_consL ?_
  intro Kq
  refine a1_if (ab_of (z := !decide (1 ≤ run.length ∧ run.length ≤ 8 ∧ r2.take 1 = [125])) (PB.as (pb_or (pb_not (pb_chain pe_int (pe_len rfl (Nat.lt_of_le_of_lt hrl (by decide))) pe_int rfl rfl)) fun _ => pb_or (pb_cmp (pe_sign rfl h3) pe_str rfl) fun _ => pb_or_nil) ?_) ?_)
  · have e1 : decide ((1 : Int) ≤ (run.length : Nat)) = decide (1 ≤ run.length) := dec_le (a := 1)
    have e2 : decide (((run.length : Nat) : Int) ≤ 8) = decide (run.length ≤ 8) := dec_le (b := 8)
    refine (congr (congrArg or (congrArg not (congr (congrArg and e1) e2))) (congrArg (· || false) (congrArg not (S_eq (r2.take 1) [125])))).trans ?_
    by_cases p1 : 1 ≤ run.length <;> by_cases p2 : run.length ≤ 8 <;> by_cases p3 : r2.take 1 = [125] <;> simp [p1, p2, p3]
  by_cases hz : 1 ≤ run.length ∧ run.length ≤ 8 ∧ r2.take 1 = [125]
  rotate_left
  · rw [decide_eq_false hz]
    refine as_consL ?_
    intro Kq
    refine a1_raise (rkOf d) (aes_cons (ae_str (aes_cons (ae_of (pe_scan rfl h3 rfl) (aes_nil ⟨_, _, rfl, ?_⟩)))))
    exact qx (by rw [hsc, if_neg hz]) _
  rw [decide_eq_true hz]
  rw [if_pos hz] at hsc
  obtain ⟨r3, hr3⟩ : ∃ r3, r2 = 125 :: r3 := by
    rcases r2 with _ | ⟨c, r2⟩
    · cases hz.2.2
    · exact ⟨r2, by have : c = 125 := by simpa using hz.2.2
                    rw [this]⟩
  rw [hr3] at h3 hs2 hsc ⊢
  refine as_nil (as_consL ?_)
  intro Kq
  refine a1_go rfl (cs' := r3) (by first | exact on1 | exact on2) ?_
  have hs3 : r3 <:+ 123 :: r1 := ((List.suffix_cons _ _).trans hs2).trans (List.suffix_cons _ _)
  have h4 : Sc (H.set x (.inst 107 (scanFs t r3 ln L last dp))) x t r3 ln L last dp := .set (hs3.trans hr) h.ht
  have hne : run ≠ [] := fun e => by rw [e] at hz; simp at hz
  refine as_consL ?_
  intro Kq
  refine a1_assign (ae_call (ae_builtin (a := .ty "int") (v := .type "int") (bi_int d) bo_int (fun _ => .ty _) ⟨rfl, aes_cons (ae_local rfl (aes_cons (ae_int (aes_nil (acw_int16 hrh hne (Nat.le_trans hz.2.1 (by decide)) (at_name ?_))))))⟩))
  refine as_consL ?_
  intro Kq
  refine a1_if (ab_of (z := decide (1114111 < hexVal run ∨ (55296 ≤ hexVal run ∧ hexVal run < 57344))) (PB.as (pb_or (pb_cmp (pe_local rfl) (pe_gint (gl_scalar d)) rfl) fun _ => pb_or (pb_chain pe_int (pe_local rfl) pe_int rfl rfl) fun _ => pb_or_nil) ?_) ?_)
  · have e1 : decide ((1114111 : Int) < (hexVal run : Nat)) = decide (1114111 < hexVal run) := dec_lt (a := 1114111)
    have e2 : decide ((55296 : Int) ≤ (hexVal run : Nat)) = decide (55296 ≤ hexVal run) := dec_le (a := 55296)
    have e3 : decide (((hexVal run : Nat) : Int) < 57344) = decide (hexVal run < 57344) := dec_lt (b := 57344)
    refine (congr (congrArg or e1) (congrArg (· || false) (congr (congrArg and e2) e3))).trans ?_
    rw [Bool.eq_iff_iff]; simp
  by_cases hy : 1114111 < hexVal run ∨ (55296 ≤ hexVal run ∧ hexVal run < 57344)
  · rw [decide_eq_true hy]
    refine as_consL ?_
    intro Kq
    refine a1_raise (rkOf d) (aes_cons (ae_str (aes_cons (ae_of (pe_scan rfl h4 rfl) (aes_nil ⟨_, _, rfl, ?_⟩)))))
    exact qx (by rw [hsc, if_pos hy]) _
  · rw [decide_eq_false hy]
    refine as_nil (as_consL ?_)
    intro Kq
    refine a1_return (ae_bi (by kernel_rfl) (by kernel_rfl) (aes_cons (ae_local rfl (aes_nil (acw_chr (Int.natCast_nonneg _) (Int.ofNat_le.mpr (Nat.not_lt.mp fun z => hy (.inl z))) ?_)))))
    have := q (hexVal run) r3 (by rw [hsc, if_neg hy]; rfl) hs3
    exact this
/-- escaped(scan) -/
theorem c_escaped (h : Sc H x t cs ln L last dp) (q : ∀ v cs' H', escaped cs = some (v, cs') → cs' <:+ cs → Sc H' x t cs' ln L last dp → Kp H H' x → Q (.str (S [v])) H')
    (qx : escaped cs = none → ∀ H', Kp H H' x → X ln H') : AC (CC d) 4 (.ref 188) [.ref x] H Q X := by
  refine ac_fnL (ns := ["scan"]) (by kernel_rfl) (fun _ => by show _ = _; kernel_rfl) (by kernel_rfl) ?_
  refine as_consL ?_
  intro Kq
  refine a1_assign (ae_of (pe_sign rfl h) (at_name ?_))
  refine as_consL ?_
  intro Kq
  refine a1_if (ab_of (z := cs.take 1 == [117]) (PB.as (pb_cmp (pe_local rfl) pe_str rfl) (S_eq _ [117])) ?_)
  by_cases hu : cs.take 1 = [117]
  · rw [beq_iff_eq.mpr hu]
    obtain ⟨r, rfl⟩ : ∃ r, cs = 117 :: r := by
      rcases cs with _ | ⟨c, cs⟩
      · cases hu
      · exact ⟨cs, by have : c = 117 := by simpa using hu
                      rw [this]⟩
    have he : escaped (117 :: r) = scal r := by unfold escaped; exact if_pos rfl
    refine as_consL ?_
    intro Kq
    refine a1_return (ae_fn (by kernel_rfl) (by kernel_rfl) (aes_cons (ae_local rfl (aes_nil ((c_scalar h (fun v cs' e1 e2 => ?_) fun e1 cs' => ?_).to (by decide))))))
    · exact q v cs' _ (by rw [he, e1]) (e2.trans (List.suffix_cons _ _)) (.set ((e2.trans (List.suffix_cons _ _)).trans h.hs) h.ht) ((Kp.refl H x).set _)
    · exact qx (by rw [he, e1]) _ ((Kp.refl H x).set _)
  rw [beq_eq_false_iff_ne.mpr hu]
  refine as_nil ?_
  refine as_consL ?_
  intro Kq
  refine a1_assign ?_
  refine ae_meth ?_
  refine ae_dict_lo (.str (.str (.str (.str (.str (.str (.str .nil))))))) ?_ ?_ ?_ fun dd hdd lo => ?_
  · exact escs_nd
  · exact escs_ne
  · exact escs_z
  have hxd : x ≠ dd := ne_of h.hx hdd
  have h1 : Sc (H.set dd (.dict (CC d).w escs)) x t cs ln L last dp := ⟨(AHeap.set_ne _ _ hxd).trans h.hx, h.hs, h.ht⟩
  have k1 : Kp H (H.set dd (.dict (CC d).w escs)) x := (Kp.refl H x).new hdd _
  have hdl : (H.set dd (.dict (CC d).w escs)) dd = some (.dict (CC d).w escs) := AHeap.set_self ..
  refine ⟨.bi "dict.get", [.ref dd], mr_dict_get hdl, rfl, ?_⟩
  refine aes_cons (ae_local rfl ?_)
  refine aes_cons (ae_str ?_)
  refine aes_nil ?_
  refine acw_dict_get (x := S (cs.take 1)) (dflt := .str "") hdl lo ?_
  rw [escs_get]
  refine at_name ?_
  have he : escaped cs = esc2 cs := by unfold escaped; rw [if_neg hu]
  refine as_consL ?_
  intro Kq
  refine a1_if (ab_of (PB.as (pb_cmp (pe_local rfl) pe_str rfl) (S_eq (escL cs) [])) ?_)
  have no : escL cs = [] → escaped cs = none := fun e => by
    rw [he]
    rcases cs with _ | ⟨c, cs⟩
    · rfl
    · show (escOf c).map _ = _
      cases hc : escOf c with
      | none => rfl
      | some v => rw [escL, hc] at e; cases e
  by_cases hz : escL cs = []
  · rw [beq_iff_eq.mpr hz]
    refine as_consL ?_
    intro Kq
    refine a1_raise (rkOf d) (aes_cons (ae_str (aes_cons (ae_of (pe_scan rfl h1 rfl) (aes_nil ⟨_, _, rfl, ?_⟩)))))
    exact qx (no hz) _ k1
  rw [beq_eq_false_iff_ne.mpr hz]
  obtain ⟨c, r, v, rfl, hv⟩ : ∃ c r v, cs = c :: r ∧ escOf c = some v := by
    rcases cs with _ | ⟨c, cs⟩
    · exact absurd rfl hz
    · cases hc : escOf c with
      | none => exact absurd (by rw [escL, hc]; rfl) hz
      | some v => exact ⟨c, cs, v, rfl, hc⟩
  refine as_nil (as_consL ?_)
  intro Kq
  refine a1_go0 rfl h1 (cs' := r) (by first | exact on1 | exact on2) ?_
  refine as_consL ?_
  intro Kq
  refine a1_return (ae_local rfl ?_)
  have e5 : escL (c :: r) = [v] := by rw [escL, hv]; rfl
  rw [e5]
  exact q v r _ (he.trans (by show (escOf c).map _ = _; rw [hv]; rfl)) (List.suffix_cons _ _) (.set ((List.suffix_cons _ _).trans h.hs) h.ht) (k1.set _)
end
end Mine
end

section
open PySem PySem.W PySem.Calls PyProof.Rows Builtin.ObjectAttr
set_option maxHeartbeats 4000000
namespace Mine
noncomputable def k_string : List Nat := [115, 116, 114, 105, 110, 103]
noncomputable def k_punct : List Nat := [112, 117, 110, 99, 116]
noncomputable def k_end : List Nat := [101, 110, 100]
noncomputable def puncts : List Nat := [40, 41, 91, 93, 123, 125, 44, 59, 58, 46]
noncomputable def rpOf (t cs : List Nat) : List Nat := (t.take (t.length - cs.length)).reverse
theorem rp_is {t cs : List Nat} (h : cs <:+ t) : t = (rpOf t cs).reverse ++ cs := by
  unfold rpOf
  conv => lhs; rw [← List.take_append_drop (t.length - cs.length) t, suf_drop h]
  rw [List.reverse_reverse]
noncomputable def Tk.kind : Tk → List Nat | .mk k _ _ _ _ _ _ _ => k
noncomputable def Tk.text : Tk → List Nat | .mk _ x _ _ _ _ _ _ => x
/-- how a token changes the depth of brackets -/
noncomputable def parStep (a : Tk) : Int := if a.kind == k_punct && occ (S [40, 41]) (S a.text) then (if a.text == [40] then 1 else -1) else 0
noncomputable def isPun (cs : List Nat) : Bool := decide (cs.take 2 = [45, 62]) || (hd1 (· ∈ puncts) cs && !decide (cs.take 2 = [46, 46]))
/-- the mark that stands here -/
noncomputable def punctAt (cs : List Nat) : Option (List Nat) := if isPun cs then some (if cs.take 2 = [45, 62] then [45, 62] else cs.take 1) else none
/-- the reader's four functions, for a given fuel -/
structure Fs where
  tok : List Nat → Int → Int → Nat → Option (Rs (Tk × List Nat))
  str : List Nat → List Nat → Pts → Int → Nat → Option (Rs (Pts × List Nat))
  inn : List Nat → Int → Nat → Option (Rs (Tks × List Nat))
  lop : List Nat → Int → Int → Int → Tks → Nat → Option (Rs (Tks × List Nat))
noncomputable def Fs.all (kw : List Nat → Bool) (t : List Nat) (f : Nat) : Fs := Nat.rec ⟨fun _ _ _ _ => none, fun _ _ _ _ _ => none, fun _ _ _ => none, fun _ _ _ _ _ _ => none⟩ (fun f F => ⟨fun cs ln last dp => (match cs with
    | [] => none
    | c :: r =>
      if (letter c || c == 36) = true then (match wordEnd (c :: r) with
        | none => some (.bad ln)
        | some cs' => some (.ok (.mk (if kw ((c :: r).take ((c :: r).length - cs'.length)) then k_keyword else k_name) ((c :: r).take ((c :: r).length - cs'.length)) ln (ln != last) true true 0 .nil, cs')))
      else if c ∈ digs then (match numTok (c :: r) with
        | none => some (.bad ln)
        | some (v, cs') => some (.ok (.mk k_int ((c :: r).take ((c :: r).length - cs'.length)) ln (ln != last) true true (v : Nat) .nil, cs')))
      else if c = 34 then (match F.str r [] .nil ln dp with
        | none => none
        | some (.bad l) => some (.bad l)
        | some (.ok (ps, cs')) => some (.ok (.mk k_string ((c :: r).take ((c :: r).length - cs'.length)) ln (ln != last) true true 0 ps, cs')))
      else (match punctAt (c :: r) with
        | some o => some (.ok (.mk k_punct o ln (ln != last) (bleft (rpOf t (c :: r)) o) (bright ((c :: r).drop o.length) o) 0 .nil, (c :: r).drop o.length))
        | none => (match opAt (c :: r) with
          | none => some (.bad ln)
          | some o => some (.ok (.mk k_op o ln (ln != last) (bleft (rpOf t (c :: r)) o) (bright ((c :: r).drop o.length) o) 0 .nil, (c :: r).drop o.length))))),
  fun cs text ps ln dp => (match cs with
    | [] => some (.bad ln)
    | c :: r =>
      if c = 34 then some (.ok (ps.app (.txt text .nil), r))
      else if c = 10 then some (.bad ln)
      else if c ≠ 92 then F.str r (text ++ [c]) ps ln dp
      else if r.take 1 = [40] then (match F.inn (r.drop 1) ln dp with
        | none => none
        | some (.bad l) => some (.bad l)
        | some (.ok (ts, cs')) => F.str cs' [] (ps.app (.txt text (.toks ts .nil))) ln dp)
      else (match escaped r with
        | none => some (.bad ln)
        | some (v, cs') => F.str cs' (text ++ [v]) ps ln dp)),
  fun cs ln dp =>
    if 12 < dp + 1 then some (.bad ln)
    else (match blanks f cs ln with
      | none => none
      | some (.bad l) => some (.bad l)
      | some (.ok (cs', ln')) => F.lop cs' ln' ln 0 .nil (dp + 1)),
  fun cs ln' ln deep acc dp =>
    if (decide (0 < deep) || !(cs.take 1 == [41])) = true then
      (if cs = [] ∨ ln' ≠ ln then some (.bad ln)
      else (match F.tok cs ln ln dp with
        | none => none
        | some (.bad l) => some (.bad l)
        | some (.ok (a, cs1)) => (match blanks f cs1 ln with
          | none => none
          | some (.bad l) => some (.bad l)
          | some (.ok (cs2, ln2)) => F.lop cs2 ln2 ln (deep + parStep a) (acc.app (.cons a .nil)) dp)))
    else if ln' ≠ ln then some (.bad ln)
    else some (.ok (acc.app (.cons (.mk k_end [] ln false true true 0 .nil) .nil), cs.drop 1))⟩) f
noncomputable def tokF (kw : List Nat → Bool) (t : List Nat) (f : Nat) : List Nat → Int → Int → Nat → Option (Rs (Tk × List Nat)) := (Fs.all kw t f).tok
noncomputable def strF (kw : List Nat → Bool) (t : List Nat) (f : Nat) : List Nat → List Nat → Pts → Int → Nat → Option (Rs (Pts × List Nat)) := (Fs.all kw t f).str
noncomputable def innerF (kw : List Nat → Bool) (t : List Nat) (f : Nat) : List Nat → Int → Nat → Option (Rs (Tks × List Nat)) := (Fs.all kw t f).inn
noncomputable def innerL (kw : List Nat → Bool) (t : List Nat) (f : Nat) : List Nat → Int → Int → Int → Tks → Nat → Option (Rs (Tks × List Nat)) := (Fs.all kw t f).lop
section
variable {kw : List Nat → Bool} {t cs r text : List Nat} {f c : Nat} {ln ln' last deep : Int} {dp : Nat} {ps : Pts} {acc : Tks}
theorem tokF_e : tokF kw t (f + 1) [] ln last dp = none := rfl
theorem tokF_c : tokF kw t (f + 1) (c :: r) ln last dp = (
      if (letter c || c == 36) = true then (match wordEnd (c :: r) with
        | none => some (.bad ln)
        | some cs' => some (.ok (.mk (if kw ((c :: r).take ((c :: r).length - cs'.length)) then k_keyword else k_name) ((c :: r).take ((c :: r).length - cs'.length)) ln (ln != last) true true 0 .nil, cs')))
      else if c ∈ digs then (match numTok (c :: r) with
        | none => some (.bad ln)
        | some (v, cs') => some (.ok (.mk k_int ((c :: r).take ((c :: r).length - cs'.length)) ln (ln != last) true true (v : Nat) .nil, cs')))
      else if c = 34 then (match strF kw t f r [] .nil ln dp with
        | none => none
        | some (.bad l) => some (.bad l)
        | some (.ok (ps, cs')) => some (.ok (.mk k_string ((c :: r).take ((c :: r).length - cs'.length)) ln (ln != last) true true 0 ps, cs')))
      else (match punctAt (c :: r) with
        | some o => some (.ok (.mk k_punct o ln (ln != last) (bleft (rpOf t (c :: r)) o) (bright ((c :: r).drop o.length) o) 0 .nil, (c :: r).drop o.length))
        | none => (match opAt (c :: r) with
          | none => some (.bad ln)
          | some o => some (.ok (.mk k_op o ln (ln != last) (bleft (rpOf t (c :: r)) o) (bright ((c :: r).drop o.length) o) 0 .nil, (c :: r).drop o.length))))) := rfl
theorem strF_s : strF kw t (f + 1) cs text ps ln dp = (match cs with
    | [] => some (.bad ln)
    | c :: r =>
      if c = 34 then some (.ok (ps.app (.txt text .nil), r))
      else if c = 10 then some (.bad ln)
      else if c ≠ 92 then strF kw t f r (text ++ [c]) ps ln dp
      else if r.take 1 = [40] then (match innerF kw t f (r.drop 1) ln dp with
        | none => none
        | some (.bad l) => some (.bad l)
        | some (.ok (ts, cs')) => strF kw t f cs' [] (ps.app (.txt text (.toks ts .nil))) ln dp)
      else (match escaped r with
        | none => some (.bad ln)
        | some (v, cs') => strF kw t f cs' (text ++ [v]) ps ln dp)) := rfl
theorem strF_c : strF kw t (f + 1) (c :: r) text ps ln dp = (
      if c = 34 then some (.ok (ps.app (.txt text .nil), r))
      else if c = 10 then some (.bad ln)
      else if c ≠ 92 then strF kw t f r (text ++ [c]) ps ln dp
      else if r.take 1 = [40] then (match innerF kw t f (r.drop 1) ln dp with
        | none => none
        | some (.bad l) => some (.bad l)
        | some (.ok (ts, cs')) => strF kw t f cs' [] (ps.app (.txt text (.toks ts .nil))) ln dp)
      else (match escaped r with
        | none => some (.bad ln)
        | some (v, cs') => strF kw t f cs' (text ++ [v]) ps ln dp)) := rfl
theorem innerF_s : innerF kw t (f + 1) cs ln dp = (
    if 12 < dp + 1 then some (.bad ln)
    else (match blanks f cs ln with
      | none => none
      | some (.bad l) => some (.bad l)
      | some (.ok (cs', ln')) => innerL kw t f cs' ln' ln 0 .nil (dp + 1))) := rfl
theorem innerL_s : innerL kw t (f + 1) cs ln' ln deep acc dp = (
    if (decide (0 < deep) || !(cs.take 1 == [41])) = true then
      (if cs = [] ∨ ln' ≠ ln then some (.bad ln)
      else (match tokF kw t f cs ln ln dp with
        | none => none
        | some (.bad l) => some (.bad l)
        | some (.ok (a, cs1)) => (match blanks f cs1 ln with
          | none => none
          | some (.bad l) => some (.bad l)
          | some (.ok (cs2, ln2)) => innerL kw t f cs2 ln2 ln (deep + parStep a) (acc.app (.cons a .nil)) dp)))
    else if ln' ≠ ln then some (.bad ln)
    else some (.ok (acc.app (.cons (.mk k_end [] ln false true true 0 .nil) .nil), cs.drop 1))) := rfl
end
end Mine
end

section
open PySem PySem.W PySem.Calls PyProof.Rows Builtin.ObjectAttr
set_option maxHeartbeats 4000000
namespace Mine
/-- read_token(scan) does as tokF says -/
noncomputable def PTok (d : Dt) (f : Nat) : Prop := ∀ (H : AHeap) (X : Int → AHeap → Prop) (Q : AV → AHeap → Prop) (x L : Addr) (t cs : List Nat) (ln last : Int) (dp : Nat) (as : List AV) (res : Rs (Tk × List Nat)), Sc H x t cs ln L last dp → H L = some (.list as) → as.length + f ≤ 1000000 → dp ≤ 12 → tokF (isKw d) t f cs ln last dp = some res →
  (∀ a cs' k H', res = .ok (a, cs') → cs' <:+ cs → After H H' x L t cs' ln ln dp (as ++ [.ref k]) → TokN H H' a (.ref k) → Q .none H') → (∀ l, res = .bad l → ∀ H', Kp2 H H' x L → X l H') →
  AC (CC d) (3 * (13 - dp) + 5) (.ref 216) [.ref x] H Q X
/-- read_string(scan) does as strF says -/
noncomputable def PStr (d : Dt) (f : Nat) : Prop := ∀ (H : AHeap) (X : Int → AHeap → Prop) (Q : AV → AHeap → Prop) (x L : Addr) (t cs : List Nat) (ln last : Int) (dp : Nat) (as : List AV) (res : Rs (Pts × List Nat)), Sc H x t (34 :: cs) ln L last dp → H L = some (.list as) → as.length + f ≤ 1000000 → 4 * f ≤ 1000000 → dp ≤ 12 → strF (isKw d) t f cs [] .nil ln dp = some res →
  (∀ ps cs' k H', res = .ok (ps, cs') → cs' <:+ cs → After H H' x L t cs' ln ln dp (as ++ [.ref k]) → TokN H H' (.mk k_string ((34 :: cs).take ((34 :: cs).length - cs'.length)) ln (ln != last) true true 0 ps) (.ref k) → Q .none H') → (∀ l, res = .bad l → ∀ H', Kp2 H H' x L → X l H') →
  AC (CC d) (3 * (13 - dp) + 4) (.ref 202) [.ref x] H Q X
/-- inner_tokens(scan) does as innerF says -/
noncomputable def PInn (d : Dt) (f : Nat) : Prop := ∀ (H : AHeap) (X : Int → AHeap → Prop) (Q : AV → AHeap → Prop) (x L : Addr) (t cs : List Nat) (ln : Int) (dp : Nat) (as : List AV) (res : Rs (Tks × List Nat)), Sc H x t cs ln L ln dp → H L = some (.list as) → f ≤ 1000000 → dp ≤ 12 → innerF (isKw d) t f cs ln dp = some res →
  (∀ ts ks cs' l H', res = .ok (ts, cs') → cs' <:+ cs → Sc H' x t cs' ln L ln dp → Kp H H' x → H l = none → H' l = some (.list ks) → ToksN H H' ts ks → Q (.ref l) H') → (∀ l, res = .bad l → ∀ H', Kp H H' x → X l H') →
  AC (CC d) (3 * (13 - dp) + 3) (.ref 195) [.ref x] H Q X
theorem gl_puncts (d : Dt) : ∃ t, nsIn (CC d).K mainGlobals "PUNCTS" = some (some (.str (S puncts) t)) := ⟨_, rfl⟩
theorem tok_step (d : Dt) (f : Nat) (hf : 4 * f ≤ 1000000) (hS : PStr d f) : PTok d (f + 1) := by
  intro H X Q x L t cs ln last dp as res h hL hz hdp e q qx
  obtain ⟨b, hb⟩ : ∃ b, b = 3 * (13 - dp) + 4 := ⟨_, rfl⟩
  show AC (CC d) (3 * (13 - dp) + 5) _ _ _ _ _
  rw [show 3 * (13 - dp) + 5 = b + 1 by exact Nat.le_antisymm (lin [_, _] (.a (.m 3 (.v 1)) (.n 5)) (.a (.v 0) (.n 1)) [((.a (.m 3 (.v 1)) (.n 4)), (.v 0))] (Nat.le_of_eq (Eq.symm hb)) rfl) (lin [_, _] (.a (.v 0) (.n 1)) (.a (.m 3 (.v 1)) (.n 5)) [((.v 0), (.a (.m 3 (.v 1)) (.n 4)))] (Nat.le_of_eq hb) rfl)]
  refine ac_fnL (ns := ["scan"]) (by kernel_rfl) (fun _ => by show _ = _; kernel_rfl) (by kernel_rfl) ?_
  refine as_consL ?_
  intro Kq
  refine a1_swap2 (x := "sign") (y := "pair") (fun env he => by cases env; cases he; rfl) ?_
  refine ae_tuple (aes_cons (ae_of (pe_sign rfl h) (aes_cons (ae_of (pe_pair rfl h (by decide)) (aes_nil ⟨Nat.le_of_ble_eq_true rfl, _, _, rfl, ?_⟩)))))
  rcases cs with _ | ⟨c, r⟩
  · exact no_some e
  rw [tokF_c] at e
  have one : ∀ k : Nat, (S ((c :: r).take 1) == S [k]) = (c == k) := fun k => by rw [S_eq]; simp
  refine as_consL ?_
  intro Kq
  refine a1_if (ab_of (z := letter c || c == 36) (PB.as (pb_or (z := letter c) (ab_val (ae_fn (by kernel_rfl) (by kernel_rfl) (aes_cons (ae_local rfl (aes_nil ((c_letter (by rw [List.length_take]; exact min_one) ⟨_, rfl, rfl, rfl⟩).to (by exact lin [_, _] (.n 1) (.v 0) [((.a (.m 3 (.v 1)) (.n 4)), (.v 0))] (Nat.le_of_eq (Eq.symm hb)) rfl))))))) fun _ => pb_or (pb_cmp (pe_local rfl) pe_str rfl) fun _ => pb_or_nil) ?_) ?_)
  · exact congrArg (or (letter c)) ((congrArg (· || false) (one 36)).trans (Bool.or_false _))
  cases z1 : (letter c || c == 36) with
  | true =>
    rw [if_pos z1] at e
    refine as_consL ?_
    intro Kq
    refine a1_expr (ae_fn (by kernel_rfl) (by kernel_rfl) (aes_cons (ae_local rfl (aes_nil ((c_word h hL (by exact lin [_, _] (.v 1) (.n 1000000) [((.a (.v 1) (.a (.v 0) (.n 1))), (.n 1000000))] hz rfl) (fun cs' k H' e1 e2 a1 a2 => ?_) fun e1 H' k1 => ?_).to (by exact lin [_, _] (.n 4) (.v 0) [((.a (.m 3 (.v 1)) (.n 4)), (.v 0))] (Nat.le_of_eq (Eq.symm hb)) rfl))))))
    · rw [e1] at e
      exact as_nil (as_nil (q _ cs' k H' (Option.some.inj e).symm e2 a1 a2))
    · rw [e1] at e
      exact qx ln (Option.some.inj e).symm H' k1
  | false =>
    rw [if_neg (by rw [z1]; simp)] at e
    refine as_consL ?_
    intro Kq
    refine a1_if (ab_of (z := decide (c ∈ digs)) (PB.as (pb_cmp (pe_local rfl) (pe_gstr (gl_digs d)) rfl) (occ_take digs (c :: r))) ?_)
    by_cases z2 : c ∈ digs
    · rw [decide_eq_true z2]
      rw [if_pos z2] at e
      refine as_consL ?_
      intro Kq
      refine a1_expr (ae_fn (by kernel_rfl) (by kernel_rfl) (aes_cons (ae_local rfl (aes_nil ((c_number h hL (by exact lin [_, _] (.v 1) (.n 1000000) [((.a (.v 1) (.a (.v 0) (.n 1))), (.n 1000000))] hz rfl) (decide_eq_true z2) (fun v cs' k H' e1 e2 a1 a2 => ?_) fun e1 H' k1 => ?_).to (by exact lin [_, _] (.n 4) (.v 0) [((.a (.m 3 (.v 1)) (.n 4)), (.v 0))] (Nat.le_of_eq (Eq.symm hb)) rfl))))))
      · rw [e1] at e
        exact as_nil (as_nil (as_nil (q _ cs' k H' (Option.some.inj e).symm e2 a1 a2)))
      · rw [e1] at e
        exact qx ln (Option.some.inj e).symm H' k1
    rw [decide_eq_false z2]
    rw [if_neg z2] at e
    refine as_consL ?_
    intro Kq
    refine a1_if (ab_of (z := c == 34) (PB.as (pb_cmp (pe_local rfl) pe_str rfl) (one 34)) ?_)
    by_cases z3 : c = 34
    · subst z3
      rw [if_pos rfl] at e
      refine as_consL ?_
      intro Kq
      refine a1_expr (ae_fn (fa := 202) (by kernel_rfl) (by kernel_rfl) (aes_cons (ae_local rfl (aes_nil (AC.to (b := 3 * (13 - dp) + 4) (by exact lin [_, _] (.a (.m 3 (.v 1)) (.n 4)) (.v 0) [((.a (.m 3 (.v 1)) (.n 4)), (.v 0))] (Nat.le_of_eq (Eq.symm hb)) rfl) ?_)))))
      cases es : strF (isKw d) t f r [] .nil ln dp with
      | none => rw [es] at e; injection e
      | some rs =>
        rw [es] at e
        refine hS H _ _ x L t r ln last dp as rs h hL (by exact lin [_, _] (.a (.v 0) (.v 1)) (.n 1000000) [((.a (.v 0) (.a (.v 1) (.n 1))), (.n 1000000))] hz rfl) hf hdp es (fun ps cs' k H' e1 e2 a1 a2 => ?_) fun l e1 H' k1 => ?_
        · subst e1
          exact as_nil (as_nil (as_nil (as_nil (q _ cs' k H' (Option.some.inj e).symm (e2.trans (List.suffix_cons _ _)) a1 a2))))
        · subst e1
          exact qx l (Option.some.inj e).symm H' k1
    rw [beq_eq_false_iff_ne.mpr z3]
    rw [if_neg z3] at e
    refine as_consL ?_
    intro Kq
    refine a1_if (ab_of (z := isPun (c :: r)) (PB.as (pb_or (pb_cmp (pe_local rfl) pe_str rfl) fun _ => pb_or (pb_and (pb_cmp (pe_local rfl) (pe_gstr (gl_puncts d)) rfl) fun _ => pb_and (pb_cmp (pe_local rfl) pe_str rfl) fun _ => pb_and_nil) fun _ => pb_or_nil) ?_) ?_)
    · have p2 : ∀ l : List Nat, (S ((c :: r).take 2) == S l) = decide ((c :: r).take 2 = l) := fun l => by rw [S_eq, Bool.eq_iff_iff, beq_iff_eq, decide_eq_true_eq]
      refine (congr (congrArg or (p2 [45, 62])) (congrArg (· || false) (congr (congrArg and (occ_take puncts (c :: r))) (congrArg (fun z => !z && true) (p2 [46, 46]))))).trans ?_
      rw [Bool.or_false, Bool.and_true]; rfl
    rw [punctAt] at e
    cases z4 : isPun (c :: r) with
    | true =>
      rw [z4] at e
      obtain ⟨o, ho⟩ : ∃ o, o = if (c :: r).take 2 = [45, 62] then [45, 62] else (c :: r).take 1 := ⟨_, rfl⟩
      have hop : (c :: r).take o.length = o ∧ o.length ≤ 2 := by
        by_cases a1 : (c :: r).take 2 = [45, 62]
        · rw [if_pos a1] at ho; subst ho; exact ⟨a1, by decide⟩
        · rw [if_neg a1] at ho; subst ho; exact ⟨rfl, by simp⟩
      have hLx : L ≠ x := fun e => by rw [e, h.hx] at hL; cases hL
      obtain ⟨cs', hcs⟩ : ∃ cs', c :: r = o ++ cs' := ⟨(c :: r).drop o.length, by conv => lhs; rw [← List.take_append_drop o.length (c :: r), hop.1]⟩
      have hc' : cs' <:+ c :: r := ⟨o, hcs.symm⟩
      have hlen : (c :: r).length = o.length + cs'.length := by rw [hcs, List.length_append]
      have hdr : (c :: r).drop o.length = cs' := by rw [hcs]; simp
      refine as_seq (fun σ' => σ'.H = H ∧ σ'.m.lookup ("scan" : Str) = some (.ref x) ∧ σ'.m.lookup ("text" : Str) = some (.str (S o))) (a1_assign (ae_if (ab_of (z := (c :: r).take 2 == [45, 62]) (PB.as (pb_cmp (pe_local rfl) pe_str rfl) (S_eq _ [45, 62])) ?_))) ?_
      · by_cases a1 : (c :: r).take 2 = [45, 62]
        · rw [beq_iff_eq.mpr a1]
          rw [if_pos a1, ← a1] at ho
          exact ae_local rfl (at_name ⟨rfl, rfl, rfl, by rw [ho]; rfl⟩)
        · rw [beq_eq_false_iff_ne.mpr a1]
          rw [if_neg a1] at ho
          exact ae_local rfl (at_name ⟨rfl, rfl, rfl, by rw [ho]; rfl⟩)
      rintro ⟨m, H1⟩ ⟨rfl, i1, i2⟩
      dsimp only at i1 i2
      refine as_consL ?_
      intro Kq
      refine a1_assign (ae_of (pe_scan i1 h rfl) (at_name ?_))
      have l2 : ∀ {w : AV}, (fput m "begin" w).lookup ("scan" : Str) = some (.ref x) := look_ne i1
      have t2 : ∀ {w : AV}, (fput m "begin" w).lookup ("text" : Str) = some (.str (S o)) := look_ne i2
      refine as_consL ?_
      intro Kq
      refine a1_augfld l2 h.hx (okScan d) rfl (ae_of (pe_len t2 (by omega)) ⟨rfl, _, rfl, ?_⟩)
      rw [show (t.length : Int) - (c :: r).length + (o.length : Nat) = t.length - cs'.length by exact Int.le_antisymm (linI [] [_, _, _, _] (.a (.s (.c (.v 3)) (.c (.v 0))) (.c (.v 1))) (.s (.c (.v 3)) (.c (.v 2))) [((.c (.a (.v 1) (.v 2))), (.c (.v 0)))] (Int.ofNat_le.mpr (Nat.le_of_eq (Eq.symm hlen))) rfl) (linI [] [_, _, _, _] (.s (.c (.v 3)) (.c (.v 2))) (.a (.s (.c (.v 3)) (.c (.v 0))) (.c (.v 1))) [((.c (.v 0)), (.c (.a (.v 1) (.v 2))))] (Int.ofNat_le.mpr (Nat.le_of_eq hlen)) rfl)]
      have h1 : Sc (H1.set x (.inst 107 (scanFs t cs' ln L last dp))) x t cs' ln L last dp := .set (hc'.trans h.hs) h.ht
      have hL1 : (H1.set x (.inst 107 (scanFs t cs' ln L last dp))) L = some (.list as) := (AHeap.set_ne _ _ hLx).trans hL
      have k1 : Kp2 H1 (H1.set x (.inst 107 (scanFs t cs' ln L last dp))) x L := (Kp2.refl H1 x L).setx _
      refine as_consL ?_
      intro Kq
      refine a1_assign (ae_meth (ae_local l2 ⟨.ref 104, [.ref x], mr_inst h1.hx rfl (by kernel_rfl), by kernel_rfl, aes_cons (ae_str (aes_cons (ae_local t2 (aes_nil ((c_put' (kind := k_punct) h1 hL1 (by exact lin [_, _] (.v 1) (.n 1000000) [((.a (.v 1) (.a (.v 0) (.n 1))), (.n 1000000))] hz rfl) fun k P H2 R => ?_).to (by exact lin [_, _] (.n 3) (.v 0) [((.a (.m 3 (.v 1)) (.n 4)), (.v 0))] (Nat.le_of_eq (Eq.symm hb)) rfl))))))⟩))
      refine at_name ?_
      have l3 : ∀ {w u : AV}, (fput (fput m "begin" w) "token" u).lookup ("scan" : Str) = some (.ref x) := look_ne l2
      have t3 : ∀ {w u : AV}, (fput (fput m "begin" w) "token" u).lookup ("text" : Str) = some (.str (S o)) := look_ne t2
      have b3 : ∀ {w u : AV}, (fput (fput m "begin" w) "token" u).lookup ("begin" : Str) = some w := look_ne look_eq
      have hrp := rp_is h.hs
      have hrl : (t.length : Int) - (c :: r).length = (rpOf t (c :: r)).length := by
        have := congrArg List.length hrp
        rw [List.length_append, List.length_reverse] at this
        exact Int.le_antisymm (linI [] [_, _, _] (.s (.c (.v 0)) (.c (.v 2))) (.c (.v 1)) [((.c (.v 0)), (.c (.a (.v 1) (.v 2))))] (Int.ofNat_le.mpr (Nat.le_of_eq this)) rfl) (linI [] [_, _, _] (.c (.v 1)) (.s (.c (.v 0)) (.c (.v 2))) [((.c (.a (.v 1) (.v 2))), (.c (.v 0)))] (Int.ofNat_le.mpr (Nat.le_of_eq (Eq.symm this))) rfl)
      refine as_consL ?_
      intro Kq
      refine a1_assign (ae_fn (by kernel_rfl) (by kernel_rfl) (aes_cons (ae_local l3 (aes_cons (ae_local b3 (aes_cons (ae_local t3 (aes_nil ((c_left R.aft.sc hrp hrl (by omega) ?_).to (by omega))))))))))
      refine at_fld look_eq R.hk (okTok d) ?_
      have hkx : k ≠ x := (ne_of h1.hx R.k0).symm
      have sc2 : ∀ {o}, Sc (H2.set k o) x t cs' ln L ln dp := ⟨(AHeap.set_ne _ _ hkx.symm).trans R.aft.sc.hx, R.aft.sc.hs, R.aft.sc.ht⟩
      refine as_consL ?_
      intro Kq
      refine a1_assign (ae_fn (by kernel_rfl) (by kernel_rfl) (aes_cons (ae_local l3 (aes_cons (ae_local t3 (aes_nil ((c_right sc2 ?_).to (by exact lin [_, _] (.n 2) (.v 0) [((.a (.m 3 (.v 1)) (.n 4)), (.v 0))] (Nat.le_of_eq (Eq.symm hb)) rfl))))))))
      refine at_fld look_eq (AHeap.set_self ..) (okTok d) ?_
      refine as_nil (as_nil (as_nil (as_nil (as_nil ?_))))
      rw [AHeap.set_set]
      have fin := tok_done (lf := bleft (rpOf t (c :: r)) o) (rt := bright cs' o) (l := true) (r := true) h.hx hL h1 hL1 k1 R
      refine q _ cs' k _ ?_ hc' fin.1 fin.2
      rw [if_pos rfl] at e
      simp only [← ho] at e
      rw [hdr] at e
      cases e; rfl
    | false =>
      rw [z4] at e
      refine as_consL ?_
      intro Kq
      refine a1_expr (ae_fn (by kernel_rfl) (by kernel_rfl) (aes_cons (ae_local rfl (aes_nil ((c_operator h (rp_is h.hs) hL (by exact lin [_, _] (.v 1) (.n 1000000) [((.a (.v 1) (.a (.v 0) (.n 1))), (.n 1000000))] hz rfl) (fun o cs' k H' e1 e2 a1 a2 => ?_) fun e1 H' k1 => ?_).to (by exact lin [_, _] (.n 4) (.v 0) [((.a (.m 3 (.v 1)) (.n 4)), (.v 0))] (Nat.le_of_eq (Eq.symm hb)) rfl))))))
      · simp only [e1] at e
        have e3 : (c :: r).drop o.length = cs' := by rw [e2]; simp
        rw [e3] at e
        exact as_nil (as_nil (as_nil (as_nil (as_nil (q _ cs' k H' (Option.some.inj e).symm ⟨o, e2.symm⟩ a1 a2)))))
      · simp only [e1] at e
        exact qx ln (Option.some.inj e).symm H' k1
end Mine
end

section
open PySem PySem.W PySem.Calls PyProof.Rows Builtin.ObjectAttr
set_option maxHeartbeats 4000000
namespace Mine
theorem a1_swap3 {c : Cx} {sc : Scope} {b : Nat} {σ : St} {X : Int → St → Prop} {t value : Expr} {p : Pos} {x y z : Str} {Q : AFl → St → Prop} (hw : ∀ env : Env, env.scope = sc → swappedStores [t] value env = pure (some [x, y, z]))
    (h : AE c sc b value σ (fun a σ₁ => ∃ a1 a2 a3, a = .tup [a1, a2, a3] ∧ Q .next ⟨fput (fput (fput σ₁.m z a3) y a2) x a1, σ₁.H⟩) X)
    (h1 : sc.names.lookup x = some .local := by rfl) (h2 : sc.names.lookup y = some .local := by rfl) (h3 : sc.names.lookup z = some .local := by rfl) (hs : ∀ env, swapsWithSole [t] value p.line env = pure false := by intro _; rfl) : A1 c sc b (.Assign [t] value p) σ Q X :=
  a1_swap hw (h.mono (fun a σ₁ zf0 => xl_EEEA zf0 fun a1 a2 a3 e q => ⟨[a1, a2, a3], e, rfl, q⟩) fun _ _ z => z) (fun n hn => by simp at hn; rcases hn with rfl | rfl | rfl; exact h1; exact h2; exact h3) hs
theorem b_six {dp b k : Nat} (hdp : dp ≤ 12) (hb : b = 3 * (13 - dp) + 3) (hk : k ≤ 6) : k ≤ b := by
  rw [hb]; exact Nat.le_trans hk (Nat.add_le_add_right (Nat.mul_le_mul_left 3 (Nat.sub_pos_of_lt (Nat.lt_succ_of_le hdp))) 3)
theorem str_step (d : Dt) (f : Nat) (hI : ∀ g, g < f → PInn d g) : PStr d f := by
  intro H X Q x L t cs ln last dp as res h hL hz hf hdp e q qx
  obtain ⟨b, hb⟩ : ∃ b, b = 3 * (13 - dp) + 3 := ⟨_, rfl⟩
  rw [show 3 * (13 - dp) + 4 = b + 1 by exact Nat.le_antisymm (lin [_, _] (.a (.m 3 (.v 1)) (.n 4)) (.a (.v 0) (.n 1)) [((.a (.m 3 (.v 1)) (.n 3)), (.v 0))] (Nat.le_of_eq (Eq.symm hb)) rfl) (lin [_, _] (.a (.v 0) (.n 1)) (.a (.m 3 (.v 1)) (.n 4)) [((.v 0), (.a (.m 3 (.v 1)) (.n 3)))] (Nat.le_of_eq hb) rfl)]
  refine ac_fnL (ns := ["scan"]) (by kernel_rfl) (fun _ => by show _ = _; kernel_rfl) (by kernel_rfl) ?_
  refine as_consL ?_
  intro Kq
  refine a1_swap3 (x := "begin") (y := "parts") (z := "text") (fun env he => by cases env; cases he; rfl) ?_
  refine ae_tuple (aes_cons (ae_of (pe_scan rfl h rfl) (aes_cons (ae_list (aes_nil ⟨Nat.le_of_ble_eq_true rfl, fun P1 hP1 => ?_⟩)))))
  refine aes_cons (ae_str (aes_nil ⟨Nat.le_of_ble_eq_true rfl, _, _, _, rfl, ?_⟩))
  have hLx : L ≠ x := fun e => by rw [e, h.hx] at hL; cases hL
  have hPx : P1 ≠ x := (ne_of h.hx hP1).symm
  have hPL : P1 ≠ L := (ne_of hL hP1).symm
  have hP0 : H P1 = none := hP1
  have h1 : Sc (H.set P1 (.list [])) x t (34 :: cs) ln L last dp := ⟨(AHeap.set_ne _ _ hPx.symm).trans h.hx, h.hs, h.ht⟩
  have hL1 : (H.set P1 (.list [])) L = some (.list as) := (AHeap.set_ne _ _ hPL.symm).trans hL
  have k1 : Kp2 H (H.set P1 (.list [])) x L := (Kp2.refl H x L).new hP0 _
  refine as_consL ?_
  intro Kq
  refine a1_assign (ae_meth (ae_local rfl ⟨.ref 104, [.ref x], mr_inst h1.hx rfl (by kernel_rfl), by kernel_rfl, aes_cons (ae_str (aes_cons (ae_str (aes_nil ((c_put' (kind := k_string) (text := []) h1 hL1 (by exact lin [_, _] (.v 0) (.n 1000000) [((.a (.v 0) (.v 1)), (.n 1000000))] hz rfl) fun k P H2 R => ?_).to (by exact lin [_, _] (.n 3) (.v 0) [((.a (.m 3 (.v 1)) (.n 3)), (.v 0))] (Nat.le_of_eq (Eq.symm hb)) rfl))))))⟩))
  refine at_name ?_
  refine as_consL ?_
  intro Kq
  refine a1_go0 rfl R.aft.sc (cs' := cs) on1 ?_
  have k0 : H k = none := none_back h.hx hL k1 R.k0 (by rw [h1.hx]; simp) (by rw [hL1]; simp)
  have hkx : k ≠ x := (ne_of h1.hx R.k0).symm
  have hkL : k ≠ L := (ne_of hL1 R.k0).symm
  have hkP : k ≠ P1 := fun e => by
    have := R.k0; rw [e, AHeap.set_self] at this; injection this
  have hP1H2 : H2 P1 = some (.list []) := R.aft.same P1 _ (AHeap.set_self ..) hPx hPL
  have base : Kp2 H H2 x L := k1.trans R.aft.same
  have hP1x2 : H2 x ≠ none := by rw [R.aft.sc.hx]; simp
  have kall : ∀ {Hc : AHeap}, Kp2 H2 Hc x P1 → Kp2 H Hc x L := fun hk a o e n m => hk a o (base a o e n m) n (ne_of e hP0)
  have hLP : L ≠ P1 := hPL.symm
  refine as_consL ?_
  intro Kq
  refine a1_while ?_
  refine aw_ind (α := Nat × List Nat × List Nat × Pts × List AV × AHeap × List (Str × AV))
    (I := fun a => strF (isKw d) t a.1 a.2.1 a.2.2.1 a.2.2.2.1 ln dp = some res ∧ a.2.1 <:+ cs ∧ Sc a.2.2.2.2.2.1 x t a.2.1 ln L ln dp ∧
      a.2.2.2.2.2.1 P1 = some (.list a.2.2.2.2.1) ∧ PtsN H2 a.2.2.2.2.2.1 a.2.2.2.1 a.2.2.2.2.1 ∧ Kp2 H2 a.2.2.2.2.2.1 x P1 ∧ a.1 ≤ f ∧ a.2.2.2.2.1.length + 2 * a.1 ≤ 2 * f ∧ a.2.2.1.length + a.1 ≤ 1000000 ∧
      a.2.2.2.2.2.2.lookup ("scan" : Str) = some (AV.ref x) ∧ a.2.2.2.2.2.2.lookup ("begin" : Str) = some (.int ((t.length : Int) - (34 :: cs).length)) ∧ a.2.2.2.2.2.2.lookup ("parts" : Str) = some (AV.ref P1) ∧ a.2.2.2.2.2.2.lookup ("text" : Str) = some (.str (S a.2.2.1)) ∧ a.2.2.2.2.2.2.lookup ("token" : Str) = some (AV.ref k))
    (σ := fun a => ⟨a.2.2.2.2.2.2, a.2.2.2.2.2.1⟩) (μ := fun a => a.1) (tup7 fun g cs' text ps avs Hc m ha ih => ?_) (f, cs, [], .nil, [], _, _) ⟨e, List.suffix_refl _, .set ((List.suffix_cons _ _).trans h.hs) h.ht, (AHeap.set_ne _ _ hPx).trans hP1H2, .nil, (Kp2.refl H2 x P1).setx _, Nat.le_refl _, by simp, by simp; exact lin [_] (.v 0) (.n 1000000) [((.m 4 (.v 0)), (.n 1000000))] hf rfl, rfl, rfl, rfl, rfl, rfl⟩ rfl
  refine xl_AAAAAAAAAAAAA ha fun e0 hc sc1 p1 pn kp gf al tl m1 m2 m3 m4 m5 => ?_; try clear ha
  dsimp only at e0 hc sc1 p1 pn kp gf al tl m1 m2 m3 m4 m5 ih ⊢
  have l1 : Hc L = some (.list (as ++ [.ref k])) := kp L _ R.aft.list hLx hLP
  have kk : Hc k = some (.inst 71 (tokFs k_string [] ln (ln != last) true true 0 P)) := kp k _ R.hk hkx hkP
  have kpH : Kp2 H Hc x L := kall kp
  rcases g with _ | g
  · exact no_some e0
  rw [strF_s] at e0
  refine ab_of (z := !(cs'.take 1 == [34])) (PB.as (pb_cmp (pe_sign m1 sc1) pe_str rfl) (congrArg not (S_eq _ [34]))) ?_
  rcases cs' with _ | ⟨c, r⟩
  · refine as_consL ?_
    intro Kq
    refine a1_assign (ae_of (pe_sign m1 sc1) (at_name ?_))
    refine as_consL ?_
    intro Kq
    refine a1_if (ab_of (z := true) (PB.as (pb_or (pb_cmp (pe_local look_eq) pe_str rfl) fun _ => pb_or (pb_cmp (pe_local look_eq) pe_str rfl) fun _ => pb_or_nil) ((congrArg (or · _) (S_eq [] [])).trans rfl)) ?_)
    refine as_consL ?_
    intro Kq
    refine a1_raise (rkOf d) (aes_cons (ae_str (aes_cons (ae_of (pe_scan (look_ne m1) sc1 rfl) (aes_nil ⟨_, _, rfl, ?_⟩)))))
    exact qx ln (Option.some.inj e0).symm _ kpH
  dsimp only at e0
  have hr : r <:+ cs := (List.suffix_cons _ _).trans hc
  have hrt : r <:+ t := (hr.trans (List.suffix_cons _ _)).trans h.hs
  by_cases z1 : c = 34
  · subst z1
    rw [if_pos rfl] at e0
    refine as_consL ?_
    intro Kq
    refine a1_go0 m1 sc1 (cs' := r) on1 ?_
    have hbeg : (34 :: cs) <:+ t := h.hs
    have sc2 : Sc (Hc.set x (.inst 107 (scanFs t r ln L ln dp))) x t r ln L ln dp := .set hrt h.ht
    refine as_consL ?_
    intro Kq
    refine a1_assign (ae_of (pe_from m1 m2 sc2 hbeg (hr.trans (List.suffix_cons _ _))) (at_fld m5 ((AHeap.set_ne _ _ hkx).trans kk) (okTok d) ?_))
    have hP1k : P1 ≠ k := hkP.symm
    refine as_consL ?_
    intro Kq
    refine a1_assign (ae_bin2 (ae_local m3 (ae_list (aes_cons (ae_local m4 (aes_nil ⟨Nat.le_of_ble_eq_true rfl, fun l hl => ?_⟩))))))
    have hP1c : ((Hc.set x (.inst 107 (scanFs t r ln L ln dp))).set k (.inst 71 (fput (tokFs k_string [] ln (ln != last) true true 0 P) "text" (.str (S ((34 :: cs).take ((34 :: cs).length - r.length))))))) P1 = some (.list avs) := (AHeap.set_ne _ _ hP1k).trans ((AHeap.set_ne _ _ hPx).trans p1)
    have hlP1 : P1 ≠ l := ne_of hP1c hl
    refine ⟨avs, [.str (S text)], (AHeap.set_ne _ _ hlP1).trans hP1c, AHeap.set_self .., by simp only [List.length_singleton]; exact lin [_, _, _] (.a (.v 2) (.n 1)) (.n 1000000) [((.m 4 (.v 0)), (.n 1000000)), ((.a (.v 2) (.m 2 (.a (.v 1) (.n 1)))), (.m 2 (.v 0)))] hf al rfl, fun pp hpp => ?_⟩
    have hkc : ((Hc.set x (.inst 107 (scanFs t r ln L ln dp))).set k (.inst 71 (fput (tokFs k_string [] ln (ln != last) true true 0 P) "text" (.str (S ((34 :: cs).take ((34 :: cs).length - r.length))))))) k = some (.inst 71 (fput (tokFs k_string [] ln (ln != last) true true 0 P) "text" (.str (S ((34 :: cs).take ((34 :: cs).length - r.length)))))) := AHeap.set_self ..
    have hkl : k ≠ l := ne_of hkc hl
    have hkc2 := (AHeap.set_ne _ (.list [.str (S text)]) hkl).trans hkc
    have hkpp : k ≠ pp := ne_of hkc2 hpp
    refine at_fld m5 ((AHeap.set_ne _ _ hkpp).trans hkc2) (okTok d) (as_nil ?_)
    have scx : ((Hc.set x (.inst 107 (scanFs t r ln L ln dp))).set k (.inst 71 (fput (tokFs k_string [] ln (ln != last) true true 0 P) "text" (.str (S ((34 :: cs).take ((34 :: cs).length - r.length))))))) x = some (.inst 107 (scanFs t r ln L ln dp)) := (AHeap.set_ne _ _ hkx.symm).trans sc2.hx
    have lx : ((Hc.set x (.inst 107 (scanFs t r ln L ln dp))).set k (.inst 71 (fput (tokFs k_string [] ln (ln != last) true true 0 P) "text" (.str (S ((34 :: cs).take ((34 :: cs).length - r.length))))))) L = some (.list (as ++ [.ref k])) := (AHeap.set_ne _ _ hkL.symm).trans ((AHeap.set_ne _ _ hLx).trans l1)
    generalize hHb : ((Hc.set x (.inst 107 (scanFs t r ln L ln dp))).set k (.inst 71 (fput (tokFs k_string [] ln (ln != last) true true 0 P) "text" (.str (S ((34 :: cs).take ((34 :: cs).length - r.length))))))) = Hb at *
    have hxl : x ≠ l := ne_of scx hl
    have hLl : L ≠ l := ne_of lx hl
    have scl := (AHeap.set_ne _ (.list [.str (S text)]) hxl).trans scx
    have ll := (AHeap.set_ne _ (.list [.str (S text)]) hLl).trans lx
    have hxp : x ≠ pp := ne_of scl hpp
    have hLp : L ≠ pp := ne_of ll hpp
    have keepb : ∀ a o, Hc a = some o → a ≠ x → a ≠ k → Hb a = some o := fun a o e n m => by rw [← hHb, AHeap.set_ne _ _ m, AHeap.set_ne _ _ n]; exact e
    have l0 : H l = none := by
      cases e : H l with
      | none => rfl
      | some o => exact absurd (keepb l o (kpH l o e hxl.symm hLl.symm) hxl.symm hkl.symm) (by rw [show Hb l = none from hl]; simp)
    have pl : l ≠ pp := by
      intro e; subst e
      have := hpp; rw [show St.H _ l = _ from AHeap.set_self ..] at this; injection this
    have pp0 : H pp = none := by
      cases e : H pp with
      | none => rfl
      | some o =>
        have e1 := keepb pp o (kpH pp o e hxp.symm hLp.symm) hxp.symm hkpp.symm
        have e2 : (Hb.set l (.list [.str (S text)])) pp = some o := (AHeap.set_ne _ _ pl.symm).trans e1
        exact absurd e2 (by rw [show (Hb.set l (.list [.str (S text)])) pp = none from hpp]; simp)
    have keepz : ∀ a o, Hc a = some o → a ≠ x → a ≠ k → (((Hb.set l (.list [.str (S text)])).set pp (.list (avs ++ [.str (S text)]))).set k (.inst 71 (fput (fput (tokFs k_string [] ln (ln != last) true true 0 P) "text" (.str (S ((34 :: cs).take ((34 :: cs).length - r.length))))) "parts" (.ref pp)))) a = some o := fun a o e n m => by
      have e1 := keepb a o e n m
      have n1 := ne_of e1 hl
      have e2 : (Hb.set l (.list [.str (S text)])) a = some o := (AHeap.set_ne _ _ n1).trans e1
      have n2 := ne_of e2 hpp
      rw [AHeap.set_ne _ _ m, AHeap.set_ne _ _ n2]; exact e2
    refine q _ r k _ (Option.some.inj e0).symm hr ⟨⟨?_, hrt, h.ht⟩, ?_, fun a o e n m => ?_⟩ (.mk (P := pp) (avs := avs ++ [.str (S text)]) k0 pp0 (AHeap.set_self ..) ?_ (PtsN.app (PtsN.mono (fun a o h0 e1 => ?_) pn) (.txt .nil)))
    · exact (AHeap.set_ne _ _ hkx.symm).trans ((AHeap.set_ne _ _ hxp).trans scl)
    · exact (AHeap.set_ne _ _ hkL.symm).trans ((AHeap.set_ne _ _ hLp).trans ll)
    · exact keepz a o (kpH a o e n m) n (ne_of e k0)
    · exact (AHeap.set_ne _ _ hkpp.symm).trans (AHeap.set_self ..)
    · have a1 : a ≠ x := fun z => hP1x2 (z ▸ h0)
      have a2 : a ≠ k := fun z => by rw [z, R.hk] at h0; injection h0
      refine ⟨?_, keepz a o e1 a1 a2⟩
      exact none_back h.hx hL base h0 hP1x2 (by rw [R.aft.list]; simp)
  rw [if_neg z1] at e0
  rw [show (c :: r).take 1 = [c] from rfl, beq_eq_false_iff_ne.mpr (show [c] ≠ [34] by simpa using z1)]
  refine as_consL ?_
  intro Kq
  refine a1_assign (ae_of (pe_sign m1 sc1) (at_name ?_))
  have n1 : ∀ {v : AV}, (fput m "sign" v).lookup ("scan" : Str) = some (.ref x) := look_ne m1
  have n2 : ∀ {v : AV}, (fput m "sign" v).lookup ("begin" : Str) = some (.int ((t.length : Int) - (34 :: cs).length)) := look_ne m2
  have n3 : ∀ {v : AV}, (fput m "sign" v).lookup ("parts" : Str) = some (.ref P1) := look_ne m3
  have n4 : ∀ {v : AV}, (fput m "sign" v).lookup ("text" : Str) = some (.str (S text)) := look_ne m4
  have n5 : ∀ {v : AV}, (fput m "sign" v).lookup ("token" : Str) = some (.ref k) := look_ne m5
  refine as_consL ?_
  intro Kq
  refine a1_if (ab_of (z := decide (c = 10)) (PB.as (pb_or (pb_cmp (pe_local look_eq) pe_str rfl) fun _ => pb_or (pb_cmp (pe_local look_eq) pe_str rfl) fun _ => pb_or_nil) ?_) ?_)
  · refine (congr (congrArg or (S_eq [c] [])) (congrArg (· || false) (S_eq [c] [10]))).trans ?_
    rw [Bool.eq_iff_iff]; simp
  by_cases z2 : c = 10
  · rw [decide_eq_true z2]
    rw [if_pos z2] at e0
    refine as_consL ?_
    intro Kq
    refine a1_raise (rkOf d) (aes_cons (ae_str (aes_cons (ae_of (pe_scan n1 sc1 rfl) (aes_nil ⟨_, _, rfl, ?_⟩)))))
    exact qx ln (Option.some.inj e0).symm _ kpH
  rw [decide_eq_false z2]
  rw [if_neg z2] at e0
  refine as_nil (as_consL ?_)
  intro Kq
  refine a1_go0 n1 sc1 (cs' := r) on1 ?_
  have sc2 : Sc (Hc.set x (.inst 107 (scanFs t r ln L ln dp))) x t r ln L ln dp := .set hrt h.ht
  have kp2 : Kp2 H2 (Hc.set x (.inst 107 (scanFs t r ln L ln dp))) x P1 := kp.setx _
  have p12 : (Hc.set x (.inst 107 (scanFs t r ln L ln dp))) P1 = some (.list avs) := (AHeap.set_ne _ _ hPx).trans p1
  have pn2 : PtsN H2 (Hc.set x (.inst 107 (scanFs t r ln L ln dp))) ps avs := PtsN.mono (fun a o h0 e1 => ⟨h0, (AHeap.set_ne _ _ fun z => hP1x2 (by rw [← z]; exact h0)).trans e1⟩) pn
  generalize hHd : Hc.set x (.inst 107 (scanFs t r ln L ln dp)) = Hd at sc2 kp2 p12 pn2 ⊢
  refine as_consL ?_
  intro Kq
  refine a1_if (ab_of (z := !(c == 92)) (PB.as (pb_cmp (pe_local look_eq) pe_str rfl) ?_) ?_)
  · refine (congrArg not (S_eq [c] [92])).trans ?_
    congr 1; rw [Bool.eq_iff_iff]; simp
  by_cases z3 : c = 92
  · subst z3
    rw [if_neg (by simp)] at e0
    rw [show (!((92 : Nat) == 92)) = false from rfl]
    refine as_consL ?_
    intro Kq
    refine a1_if (ab_of (z := r.take 1 == [40]) (PB.as (pb_cmp (pe_sign n1 sc2) pe_str rfl) (S_eq _ [40])) ?_)
    by_cases z4 : r.take 1 = [40]
    · rw [beq_iff_eq.mpr z4]
      rw [if_pos z4] at e0
      obtain ⟨r', rfl⟩ : ∃ r', r = 40 :: r' := by
        rcases r with _ | ⟨c, r⟩
        · injection z4
        · exact ⟨r, by have : c = 40 := by simpa using z4
                       rw [this]⟩
      have hr't : r' <:+ t := (List.suffix_cons _ _).trans hrt
      refine as_consL ?_
      intro Kq
      refine a1_go0 n1 sc2 (cs' := r') on1 ?_
      have sc3 : Sc (Hd.set x (.inst 107 (scanFs t r' ln L ln dp))) x t r' ln L ln dp := .set hr't h.ht
      have kp3 : Kp2 H2 (Hd.set x (.inst 107 (scanFs t r' ln L ln dp))) x P1 := kp2.setx _
      have p13 : (Hd.set x (.inst 107 (scanFs t r' ln L ln dp))) P1 = some (.list avs) := (AHeap.set_ne _ _ hPx).trans p12
      have pn3 : PtsN H2 (Hd.set x (.inst 107 (scanFs t r' ln L ln dp))) ps avs := PtsN.mono (fun a o h0 e1 => ⟨h0, (AHeap.set_ne _ _ fun z => hP1x2 (by rw [← z]; exact h0)).trans e1⟩) pn2
      generalize hHe : Hd.set x (.inst 107 (scanFs t r' ln L ln dp)) = He at sc3 kp3 p13 pn3 ⊢
      have l3 : He L = some (.list (as ++ [.ref k])) := kp3 L _ R.aft.list hLx hLP
      refine as_consL ?_
      intro Kq
      refine a1_expr ?_
      refine ae_meth (ae_local n3 ⟨.bi "list.extend", [.ref P1], mr_list p13 PySem.F.slot_list_extend PySem.F.type_list_extend, rfl, aes_cons ?_⟩)
      refine ae_list (aes_cons (ae_local n4 (aes_cons (ae_fn (fa := 195) (by kernel_rfl) (by kernel_rfl) (aes_cons (ae_local n1 (aes_nil (AC.to (b := 3 * (13 - dp) + 3) (by exact lin [_, _] (.a (.m 3 (.v 1)) (.n 3)) (.v 0) [((.a (.m 3 (.v 1)) (.n 3)), (.v 0))] (Nat.le_of_eq (Eq.symm hb)) rfl) ?_))))))))
      cases ei : innerF (isKw d) t g r' ln dp with
      | none => rw [show (40 :: r').drop 1 = r' from rfl, ei] at e0; injection e0
      | some rs =>
        rw [show (40 :: r').drop 1 = r' from rfl, ei] at e0
        refine hI g (by exact lin [_, _] (.a (.v 0) (.n 1)) (.v 1) [((.a (.v 0) (.n 1)), (.v 1))] gf rfl) He _ _ x L t r' ln dp (as ++ [.ref k]) rs sc3 l3 (by exact lin [_, _] (.v 1) (.n 1000000) [((.m 4 (.v 0)), (.n 1000000)), ((.a (.v 1) (.n 1)), (.v 0))] hf gf rfl) hdp ei (fun ts ks cs1 l H' e1 e2 i1 i2 i3 i4 i5 => ?_) fun l e1 H' i1 => ?_
        · subst e1
          refine aes_nil ⟨Nat.le_of_ble_eq_true rfl, fun l2 hl2 => ?_⟩
          have p14 : H' P1 = some (.list avs) := i2 P1 _ p13 hPx
          have hlP : P1 ≠ l2 := ne_of p14 hl2
          have hxl2 : x ≠ l2 := ne_of i1.hx hl2
          have hll2 : l ≠ l2 := ne_of i4 hl2
          refine aes_nil (acw_extend (as := avs) (bs := [.str (S text), .ref l]) ((AHeap.set_ne _ _ hlP).trans p14) (AHeap.set_self ..) (by exact lin [_, _, _] (.v 2) (.n 1000000) [((.m 4 (.v 0)), (.n 1000000)), ((.a (.v 2) (.m 2 (.a (.v 1) (.n 1)))), (.m 2 (.v 0)))] hf al rfl) (Nat.le_of_ble_eq_true rfl) ?_)
          have hxP1 : x ≠ P1 := hPx.symm
          have Kl : ∀ a o, H' a = some o → a ≠ P1 → ((AHeap.set H' l2 (.list [.str (S text), .ref l])).set P1 (.list (avs ++ [.str (S text), .ref l]))) a = some o := fun a o e n => by
            have := ne_of e hl2
            rw [AHeap.set_ne _ _ n, AHeap.set_ne _ _ this]; exact e
          have sc4 : Sc ((AHeap.set H' l2 (.list [.str (S text), .ref l])).set P1 (.list (avs ++ [.str (S text), .ref l]))) x t cs1 ln L ln dp := ⟨Kl _ _ i1.hx hxP1, i1.hs, i1.ht⟩
          have kp4 : Kp2 H2 ((AHeap.set H' l2 (.list [.str (S text), .ref l])).set P1 (.list (avs ++ [.str (S text), .ref l]))) x P1 := fun a o e n m => Kl a o (i2 a o (kp3 a o e n m) n) m
          have g2 : ∀ {a : Addr}, He a = none → H2 a = none := fun {a} e => by
            cases e2 : H2 a with
            | none => rfl
            | some o =>
              by_cases y1 : a = x
              · subst y1; rw [sc3.hx] at e; injection e
              · by_cases y2 : a = P1
                · subst y2; rw [p13] at e; injection e
                · rw [kp3 a o e2 y1 y2] at e; injection e
          have lP1 : l ≠ P1 := fun z => by subst z; rw [p13] at i3; injection i3
          have sub : ∀ a, H2 a = none → a ≠ P1 := fun a e z => by rw [z, hP1H2] at e; injection e
          have pn4 : PtsN H2 ((AHeap.set H' l2 (.list [.str (S text), .ref l])).set P1 (.list (avs ++ [.str (S text), .ref l]))) (ps.app (.txt text (.toks ts .nil))) (avs ++ [.str (S text), .ref l]) := by
            refine PtsN.app (PtsN.mono (fun a o h0 e1 => ⟨h0, Kl a o (i2 a o e1 fun z => hP1x2 (z ▸ h0)) (sub a h0)⟩) pn3) (.txt (.toks (g2 i3) (Kl _ _ i4 lP1) ?_ .nil))
            exact ToksN.mono (fun a o h0 e1 => ⟨g2 h0, Kl a o e1 fun z => by subst z; rw [p13] at h0; injection h0⟩) i5
          refine as_consL ?_
          intro Kq
          refine a1_assign (ae_str (at_name (as_nil (as_nil (as_nil ?_)))))
          refine ih (g, cs1, [], ps.app (.txt text (.toks ts .nil)), avs ++ [.str (S text), .ref l], _, _) ⟨e0, (e2.trans (List.suffix_cons _ _)).trans hr, sc4, AHeap.set_self .., pn4, kp4, Nat.le_of_succ_le gf, by simp only [List.length_append, List.length_cons, List.length_nil]; exact lin [_, _, _] (.a (.a (.v 0) (.n 2)) (.m 2 (.v 1))) (.m 2 (.v 2)) [((.a (.v 0) (.m 2 (.a (.v 1) (.n 1)))), (.m 2 (.v 2)))] al rfl, by simp only [List.length_nil]; exact lin [_, _] (.a (.n 0) (.v 1)) (.n 1000000) [((.m 4 (.v 0)), (.n 1000000)), ((.a (.v 1) (.n 1)), (.v 0))] hf gf rfl, look_ne n1, look_ne n2, look_ne n3, look_eq, look_ne n5⟩ (Nat.lt_succ_self _)
        · subst e1
          exact qx l (Option.some.inj e0).symm _ fun a o e n m => i1 a o (kall kp3 a o e n m) n
    · rw [beq_eq_false_iff_ne.mpr z4]
      rw [if_neg z4] at e0
      refine as_consL ?_
      intro Kq
      refine a1_augname n4 (ae_fn (fa := 188) (by kernel_rfl) (by kernel_rfl) (aes_cons (ae_local n1 (aes_nil ((c_escaped sc2 (fun v cs1 H' e1 e2 i1 i2 => ?_) fun e1 H' i1 => ?_).to (b_six hdp hb (by decide)))))))
      · rw [e1] at e0
        refine ⟨.str (S (text ++ [v])), ⟨congrArg AV.str (S_append text [v]).symm, ?_⟩, as_nil (as_nil (as_nil ?_))⟩
        · rw [S_len, S_len, sizeLine_eq]; exact Nat.le_trans (Nat.succ_le_succ (Nat.le_trans (Nat.le_add_right _ _) tl)) (by decide)
        · refine ih (g, cs1, text ++ [v], ps, avs, _, _) ⟨e0, e2.trans hr, i1, i2 _ _ p12 hPx, ?_, fun a o e n m => i2 a o (kp2 a o e n m) n, Nat.le_of_succ_le gf, by show avs.length + 2 * g ≤ 2 * f; exact lin [_, _, _] (.a (.v 0) (.m 2 (.v 1))) (.m 2 (.v 2)) [((.a (.v 0) (.m 2 (.a (.v 1) (.n 1)))), (.m 2 (.v 2)))] al rfl, by simp only [List.length_append, List.length_singleton]; exact lin [_, _] (.a (.a (.v 0) (.n 1)) (.v 1)) (.n 1000000) [((.a (.v 0) (.a (.v 1) (.n 1))), (.n 1000000))] tl rfl, look_ne n1, look_ne n2, look_ne n3, look_eq, look_ne n5⟩ (Nat.lt_succ_self _)
          exact PtsN.mono (fun a o h0 e1 => ⟨h0, i2 a o e1 fun z => hP1x2 (z ▸ h0)⟩) pn2
      · rw [e1] at e0
        exact qx ln (Option.some.inj e0).symm _ fun a o e n m => i1 a o (kall kp2 a o e n m) n
  · rw [beq_eq_false_iff_ne.mpr z3]
    rw [if_pos z3] at e0
    refine as_consL ?_
    intro Kq
    refine a1_augname n4 (ae_of (pe_local look_eq) ⟨.str (S (text ++ [c])), ⟨congrArg AV.str (S_append text [c]).symm, ?_⟩, as_nil (as_nil ?_)⟩)
    · rw [S_len, sizeLine_eq]; show _ + (S [c]).length ≤ _; rw [S_len]; exact Nat.le_trans (Nat.succ_le_succ (Nat.le_trans (Nat.le_add_right _ _) tl)) (by decide)
    · exact ih (g, r, text ++ [c], ps, avs, _, _) ⟨e0, hr, sc2, p12, pn2, kp2, Nat.le_of_succ_le gf, by show avs.length + 2 * g ≤ 2 * f; exact lin [_, _, _] (.a (.v 0) (.m 2 (.v 1))) (.m 2 (.v 2)) [((.a (.v 0) (.m 2 (.a (.v 1) (.n 1)))), (.m 2 (.v 2)))] al rfl, by simp only [List.length_append, List.length_singleton]; exact lin [_, _] (.a (.a (.v 0) (.n 1)) (.v 1)) (.n 1000000) [((.a (.v 0) (.a (.v 1) (.n 1))), (.n 1000000))] tl rfl, look_ne n1, look_ne n2, look_ne n3, look_eq, look_ne n5⟩ (Nat.lt_succ_self _)
end Mine
end

section
open PySem PySem.W PySem.Calls PyProof.Rows Builtin.ObjectAttr
set_option maxHeartbeats 4000000
namespace Mine
theorem a1_subattr {c : Cx} {sc : Scope} {b : Nat} {σ : St} {X : Int → St → Prop} {o : Expr} {name : Str} {value : Expr} {p tp : Pos} {Q : AFl → St → Prop}
    (h : AE c sc b o σ (fun w σ₁ => ∃ x C fs i, w = .ref x ∧ σ₁.H x = some (.inst C fs) ∧ fs.lookup name = some (.int i) ∧ clsField c.K C name = true ∧
      AE c sc b value σ₁ (fun a' σ₂ => ∃ j fs', a' = .int j ∧ σ₂.H x = some (.inst C fs') ∧ clsStore c.K C name = true ∧ (fput fs' name (.int (i - j))).length ≤ 1000 ∧ Q .next ⟨σ₂.m, σ₂.H.set x (.inst C (fput fs' name (.int (i - j))))⟩) X) X) :
    A1 c sc b (.AugAssign (.Attribute o name tp) .Sub value p) σ Q X := fun f s N hf own R => by
  refine wpAny_AugAssign_AttributeAny (h.then_ hf R fun v w s₁ σ₁ N₁ st R₁ hv h' => ?_)
  refine xl_EEEEAAAA h' fun x C fs i ew hx hl k h' => ?_
  rw [ew] at hv
  refine hv.at ?_
  refine getAttr_inst R₁ hf.ok hx hl k rfl fun v t ht g => ?_
  refine g.at fun u => ?_
  have st' : Step f.env.locals s N { s₁ with toks := t } N₁ := st.trans (.of_keeps (h' := s₁.heap) fun _ _ e => e)
  refine h'.next st' hf R₁.toks fun v' a' s₂ σ₂ N₂ st₂ _ R₂ hv' h'' => ?_
  refine xl_EEAAAA h'' fun j fs' ea hx' k' hz q => ?_
  rw [ea] at hv'
  refine hv'.at fun u => ?_
  refine PyProof.Rows.isub_int ?_
  have st₃ : Step f.env.locals s N { s₂ with toks := s₂.toks + 1 } N₂ := st₂.trans (.of_keeps (h' := s₂.heap) fun _ _ e => e)
  exact setAttr_inst R₂.toks hf.ok hx' (.int _ _) k' hz fun s' N' st'' R' => ⟨_, N', st₃.trans st'', R', _, .next, q⟩
theorem a1_subfld {d : Dt} {sc : Scope} {b : Nat} {σ : St} {X : Int → St → Prop} {v name : Str} {p p' p2 : Pos} {value : Expr} {x C : Addr} {fs : List (Str × AV)} {i : Int} {ns : List Str} {Q : AFl → St → Prop} (hv : σ.m.lookup v = some (.ref x)) (hx : σ.H x = some (.inst C fs)) (hok : okFld (CC d).K C ns = true) (hl : fs.lookup name = some (.int i))
    (h : AE (CC d) sc b value σ (fun a σ' => σ' = σ ∧ ∃ j, a = .int j ∧ Q .next ⟨σ.m, σ.H.set x (.inst C (fput fs name (.int (i - j))))⟩) X)
    (hn : name ∈ ns := by decide) (hz : ∀ k, Nat.ble (fput fs name (.int k)).length 1000 = true := by intro _; rfl) (hloc : sc.names.lookup v = some .local := by rfl) (hd : (v == ("__debug__" : Str)) = false := by decide) : A1 (CC d) sc b (.AugAssign (.Attribute (.Name v p) name p') .Sub value p2) σ Q X :=
  a1_subattr (ae_local hv ⟨x, C, fs, i, rfl, hx, hl, okFld_field hok hn, h.mono (fun a σ' zf0 => xl_AEA zf0 fun e j ea q => ⟨j, fs, ea, by rw [e]; exact hx, okFld_store hok hn, Nat.le_of_ble_eq_true (hz _), by rw [e]; exact q⟩) fun _ _ z => z⟩ hloc hd)
theorem a1_assign_sc {c : Cx} {sc : Scope} {b : Nat} {σ : St} {X : Int → St → Prop} {t value : Expr} {p : Pos} {Q : AFl → St → Prop} (hw : ∀ env : Env, env.scope = sc → swappedStores [t] value env = pure none) (h : AE c sc b value σ (fun a σ₁ => AT c sc b t a σ₁ (fun σ₂ => Q .next σ₂) X) X)
    (hs : ∀ env, swapsWithSole [t] value p.line env = pure false := by intro _; rfl) (he : ∀ env, (assignEach [t] env).map (·.2) = [assign t env] := by intro _; rfl) :
    A1 c sc b (.Assign [t] value p) σ Q X := fun f s N hf own R =>
  wpAny_Assign_stores (h.then_ hf R fun v a s₁ σ₁ N₁ st R₁ hv h' => by
    rw [he]
    exact wpAny_mono (h' f s₁ N₁ v hf R₁ hv) (fun _ s₂ zf1 => xl_EEAA zf1 fun σ₂ N₂ st₂ R₂ g => ⟨σ₂, N₂, st.trans st₂, R₂, _, .next, g⟩) fun _ _ z => z.trans st) (hs _) (hw _ hf.scope)
theorem gl_nested (d : Dt) : ∃ t, nsIn (CC d).K mainGlobals "MOST_NESTED" = some (some (.int 12 t)) := ⟨_, rfl⟩
theorem kp_none {H H' : AHeap} {x a : Addr} (hk : Kp H H' x) (hx : H' x ≠ none) (e : H' a = none) : H a = none := by
  cases e2 : H a with
  | none => rfl
  | some o =>
    by_cases y : a = x
    · subst y; exact absurd e hx
    · rw [hk a o e2 y] at e; injection e
theorem par_step (a : Tk) : occ (S [40, 41]) (S a.text) = occ (S [40, 41]) (S a.text) := rfl
theorem b_five {dp b k : Nat} (hdp : dp ≤ 12) (hb : b = 3 * (13 - dp) + 2) (hk : k ≤ 5) : k ≤ b := by
  rw [hb]; exact Nat.le_trans hk (Nat.add_le_add_right (Nat.mul_le_mul_left 3 (Nat.sub_pos_of_lt (Nat.lt_succ_of_le hdp))) 2)
theorem b_in {dp b : Nat} (hb : b = 3 * (13 - dp) + 2) (h : dp + 1 ≤ 12) : 3 * (13 - (dp + 1)) + 5 ≤ b := by
  rw [hb, sub_back (n := 13) (Nat.le_succ_of_le h)]; exact Nat.le_refl _
theorem inn_step (d : Dt) (f : Nat) (hf : 4 * f ≤ 1000000) (hT : ∀ g, g < f → PTok d g) : PInn d (f + 1) := by
  intro H X Q x L t cs ln dp as res h hL hz hdp e q qx
  obtain ⟨b, hb⟩ : ∃ b, b = 3 * (13 - dp) + 2 := ⟨_, rfl⟩
  rw [show 3 * (13 - dp) + 3 = b + 1 by exact Nat.le_antisymm (lin [_, _] (.a (.m 3 (.v 1)) (.n 3)) (.a (.v 0) (.n 1)) [((.a (.m 3 (.v 1)) (.n 2)), (.v 0))] (Nat.le_of_eq (Eq.symm hb)) rfl) (lin [_, _] (.a (.v 0) (.n 1)) (.a (.m 3 (.v 1)) (.n 3)) [((.v 0), (.a (.m 3 (.v 1)) (.n 2)))] (Nat.le_of_eq hb) rfl)]
  refine ac_fnL (ns := ["scan"]) (by kernel_rfl) (fun _ => by show _ = _; kernel_rfl) (by kernel_rfl) ?_
  refine as_consL ?_
  intro Kq
  refine a1_swap3 (x := "kept") (y := "line") (z := "deep") (fun env he => by cases env; cases he; rfl) ?_
  refine ae_tuple (aes_cons (ae_of (pe_scan rfl h rfl) (aes_cons (ae_of (pe_scan rfl h rfl) (aes_cons (ae_int (aes_nil ⟨Nat.le_of_ble_eq_true rfl, _, _, _, rfl, ?_⟩)))))))
  refine as_consL ?_
  intro Kq
  refine a1_assign (ae_list (aes_nil ⟨Nat.le_of_ble_eq_true rfl, fun l hl => ?_⟩))
  have l0 : H l = none := hl
  have hxl : x ≠ l := ne_of h.hx l0
  have hLx : L ≠ x := fun e => by rw [e, h.hx] at hL; cases hL
  have hLl : L ≠ l := ne_of hL l0
  refine at_fld (x := x) (C := 107) rfl ((AHeap.set_ne _ _ hxl).trans h.hx) (okScan d) ?_
  refine as_consL ?_
  intro Kq
  refine a1_augfld (x := x) (C := 107) rfl (AHeap.set_self ..) (okScan d) rfl (ae_int ⟨rfl, 1, rfl, ?_⟩)
  rw [AHeap.set_set]
  have sc1 : Sc ((H.set l (.list [])).set x (.inst 107 (scanFs t cs ln l ln ((dp : Int) + 1)))) x t cs ln l ln ((dp + 1 : Nat) : Int) := ⟨AHeap.set_self .., h.hs, h.ht⟩
  show AS (CC d) _ b _ ⟨_, (H.set l (.list [])).set x (.inst 107 (scanFs t cs ln l ln ((dp : Int) + 1)))⟩ _ _
  have k1 : Kp H ((H.set l (.list [])).set x (.inst 107 (scanFs t cs ln l ln ((dp : Int) + 1)))) x := ((Kp.refl H x).new l0 _).set _
  have g1 : ((H.set l (.list [])).set x (.inst 107 (scanFs t cs ln l ln ((dp : Int) + 1)))) l = some (.list []) := (AHeap.set_ne _ _ hxl.symm).trans (AHeap.set_self ..)
  generalize hH1 : (H.set l (.list [])).set x (.inst 107 (scanFs t cs ln l ln ((dp : Int) + 1))) = H1 at sc1 k1 g1 ⊢
  rw [innerF_s] at e
  refine as_consL ?_
  intro Kq
  refine a1_if (ab_of (z := decide (12 < dp + 1)) (PB.as (pb_cmp (pe_scan rfl sc1 rfl) (pe_gint (gl_nested d)) rfl) (dec_lt (a := 12) (b := dp + 1))) ?_)
  by_cases z1 : 12 < dp + 1
  · rw [decide_eq_true z1]
    rw [if_pos z1] at e
    refine as_consL ?_
    intro Kq
    refine a1_raise (rkOf d) (aes_cons (ae_str (aes_cons (ae_local rfl (aes_nil ⟨_, _, rfl, ?_⟩)))))
    exact qx ln (Option.some.inj e).symm _ k1
  rw [decide_eq_false z1]
  rw [if_neg z1] at e
  refine as_nil ?_
  have hx1 : H1 x ≠ none := by rw [sc1.hx]; simp
  have fault : ∀ {Hc : AHeap}, Kp2 H1 Hc x l → Kp H Hc x := fun hk a o e n => hk a o (k1 a o e n) n (ne_of e l0)
  refine as_consL ?_
  intro Kq
  refine a1_expr (ae_fn (fa := 139) (by kernel_rfl) (by kernel_rfl) (aes_cons (ae_local rfl (aes_nil (AC.to (b := 3) (b_five hdp hb (by decide)) ?_)))))
  cases eb : blanks f cs ln with
  | none => rw [eb] at e; injection e
  | some rb =>
  rw [eb] at e
  refine c_blanks sc1 eb (fun cs1 ln1 e1 hc1 => ?_) fun l' e1 cs' ln' => ?_
  rotate_left
  · subst e1
    exact qx l' (Option.some.inj e).symm _ (k1.set _)
  subst e1
  dsimp only at e
  refine as_consL ?_
  intro Kq
  refine a1_while ?_
  refine aw_ind (α := Nat × List Nat × Int × Int × Tks × List AV × AHeap × List (Str × AV))
    (I := fun a => innerL (isKw d) t a.1 a.2.1 a.2.2.1 ln a.2.2.2.1 a.2.2.2.2.1 (dp + 1) = some res ∧ a.2.1 <:+ cs ∧ Sc a.2.2.2.2.2.2.1 x t a.2.1 a.2.2.1 l ln ((dp + 1 : Nat) : Int) ∧
      a.2.2.2.2.2.2.1 l = some (.list a.2.2.2.2.2.1) ∧ ToksN H1 a.2.2.2.2.2.2.1 a.2.2.2.2.1 a.2.2.2.2.2.1 ∧ Kp2 H1 a.2.2.2.2.2.2.1 x l ∧ a.1 ≤ f ∧ a.2.2.2.2.2.1.length + a.1 ≤ 1000000 ∧
      a.2.2.2.2.2.2.2.lookup ("scan" : Str) = some (AV.ref x) ∧ a.2.2.2.2.2.2.2.lookup ("kept" : Str) = some (.ref L) ∧ a.2.2.2.2.2.2.2.lookup ("line" : Str) = some (AV.int ln) ∧ a.2.2.2.2.2.2.2.lookup ("deep" : Str) = some (.int a.2.2.2.1))
    (σ := fun a => ⟨a.2.2.2.2.2.2.2, a.2.2.2.2.2.2.1⟩) (μ := fun a => a.1) (tup8 fun g cs' ln' deep acc ks Hc m ha ih => ?_) (f, cs1, ln1, 0, .nil, [], _, _) ⟨e, hc1, .set (hc1.trans h.hs) h.ht, (AHeap.set_ne _ _ hxl.symm).trans g1, .nil, (Kp2.refl H1 x l).setx _, Nat.le_refl _, by simp; exact lin [_] (.v 0) (.n 1000000) [((.m 4 (.v 0)), (.n 1000000))] hf rfl, rfl, rfl, rfl, rfl⟩ rfl
  refine xl_AAAAAAAAAAA ha fun e0 hc sc2 gl pn kp gf al m1 m2 m3 m4 => ?_; try clear ha
  dsimp only at e0 hc sc2 gl pn kp gf al m1 m2 m3 m4 ih ⊢
  rcases g with _ | g
  · exact no_some e0
  rw [innerL_s] at e0
  refine ab_of (z := decide (0 < deep) || !(cs'.take 1 == [41])) (PB.as (pb_or (pb_cmp (pe_local m4) pe_int rfl) fun _ => pb_or (pb_cmp (pe_sign m1 sc2) pe_str rfl) fun _ => pb_or_nil) ?_) ?_
  · exact (congrArg (or (decide (0 < deep))) (congrArg (· || false) (congrArg not (S_eq _ [41])))).trans (by rw [Bool.or_false])
  cases z2 : (decide (0 < deep) || !(cs'.take 1 == [41])) with
  | false =>
    rw [if_neg (by rw [z2]; simp)] at e0
    refine as_consL ?_
    intro Kq
    refine a1_if (ab_of (z := decide (ln' ≠ ln)) (PB.as (pb_cmp (pe_scan m1 sc2 rfl) (pe_local m3) rfl) ?_) ?_)
    · rw [Bool.eq_iff_iff]; simp
    by_cases z3 : ln' ≠ ln
    · rw [decide_eq_true z3]
      rw [if_pos z3] at e0
      refine as_consL ?_
      intro Kq
      refine a1_raise (rkOf d) (aes_cons (ae_str (aes_cons (ae_local m3 (aes_nil ⟨_, _, rfl, ?_⟩)))))
      exact qx ln (Option.some.inj e0).symm _ (fault kp)
    rw [decide_eq_false z3]
    rw [if_neg z3] at e0
    have z3' : ln' = ln := Classical.not_not.mp z3
    subst z3'
    have z4 : cs'.take 1 = [41] := by
      have := (Bool.or_eq_false_iff.mp z2).2
      simpa using this
    obtain ⟨r, rfl⟩ : ∃ r, cs' = 41 :: r := by
      rcases cs' with _ | ⟨c, r⟩
      · injection z4
      · exact ⟨r, by have : c = 41 := by simpa using z4
                     rw [this]⟩
    refine as_nil ?_
    have hr : r <:+ cs := (List.suffix_cons _ _).trans hc
    refine as_consL ?_
    intro Kq
    refine a1_expr ?_
    refine ae_meth (ae_local m1 ⟨.ref 104, [.ref x], mr_inst sc2.hx rfl (by kernel_rfl), by kernel_rfl, aes_cons (ae_str (aes_cons (ae_str (aes_nil ((c_put' (kind := k_end) (text := []) sc2 gl (by omega) fun k P H2 R => ?_).to (b_five hdp hb (by decide)))))))⟩)
    refine as_consL ?_
    intro Kq
    refine a1_go0 m1 R.aft.sc (cs' := r) on1 ?_
    refine as_consL ?_
    intro Kq
    refine a1_subfld (x := x) (C := 107) m1 (AHeap.set_self ..) (okScan d) rfl (ae_int ⟨rfl, 1, rfl, ?_⟩)
    rw [AHeap.set_set]
    show AS (CC d) _ b _ ⟨m, AHeap.set H2 x (.inst 107 (scanFs t r ln' l ln' (((dp + 1 : Nat) : Int) - 1)))⟩ _ _
    rw [show (((dp + 1 : Nat) : Int) - 1) = dp by exact Int.le_antisymm (linI [] [_] (.s (.c (.a (.v 0) (.n 1))) (.n 1)) (.c (.v 0)) []  rfl) (linI [] [_] (.c (.v 0)) (.s (.c (.a (.v 0) (.n 1))) (.n 1)) []  rfl)]
    have sc3 : Sc (H2.set x (.inst 107 (scanFs t r ln' l ln' (dp : Int)))) x t r ln' l ln' dp := .set (hr.trans h.hs) h.ht
    refine as_consL ?_
    intro Kq
    refine a1_assign_sc (fun env he => by cases env; cases he; rfl) (ae_tuple (aes_cons (ae_of (pe_scan m1 sc3 rfl) (aes_cons (ae_local m2 (aes_nil ⟨Nat.le_of_ble_eq_true rfl, ?_⟩))))))
    refine at_tuple (ats_cons (at_name (ats_cons (at_fld (x := x) (C := 107) (look_ne m1) sc3.hx (okScan d) (ats_nil ?_)))))
    rw [AHeap.set_set]
    refine as_consL ?_
    intro Kq
    refine a1_return (ae_local look_eq ?_)
    have kx : k ≠ x := (ne_of sc2.hx R.k0).symm
    have Px : P ≠ x := (ne_of sc2.hx R.P0).symm
    have kl : k ≠ l := (ne_of gl R.k0).symm
    have back : ∀ {a : Addr}, Hc a = none → H1 a = none := fun {a} e => by
      cases e2 : H1 a with
      | none => rfl
      | some o =>
        by_cases y1 : a = x
        · subst y1; rw [sc2.hx] at e; injection e
        · by_cases y2 : a = l
          · subst y2; rw [gl] at e; injection e
          · rw [kp a o e2 y1 y2] at e; injection e
    have back0 : ∀ {a : Addr}, H1 a = none → H a = none := fun {a} e => kp_none k1 hx1 e
    refine q (acc.app (.cons (.mk k_end [] ln' false true true 0 .nil) .nil)) (ks ++ [.ref k]) r l _ (Option.some.inj e0).symm hr ⟨AHeap.set_self .., hr.trans h.hs, h.ht⟩ ?_ l0 ?_ ?_
    · exact (fault (kp.trans R.aft.same)).set _
    · exact (AHeap.set_ne _ _ hxl.symm).trans R.aft.list
    · refine ToksN.app (ToksN.mono (fun a o h0 e1 => ?_) pn) (.cons (.mk (P := P) (avs := []) (back0 (back R.k0)) (back0 (back R.P0)) ?_ ((AHeap.set_ne _ _ Px).trans R.hP) .nil) .nil)
      · have n1 : a ≠ x := fun z => hx1 (by rw [← z]; exact h0)
        have n2 : a ≠ l := fun z => by rw [z, g1] at h0; injection h0
        exact ⟨back0 h0, (AHeap.set_ne _ _ n1).trans (R.aft.same a o e1 n1 n2)⟩
      · have := (AHeap.set_ne H2 (.inst 107 (fput (scanFs t r ln' l ln' (dp : Int)) "tokens" (.ref L))) kx).trans R.hk
        rw [show (ln' != ln') = false by simp] at this
        exact this
  | true =>
    rw [if_pos z2] at e0
    refine as_consL ?_
    intro Kq
    refine a1_if (ab_of (z := decide (cs' = [] ∨ ln' ≠ ln)) (PB.as (pb_or (pb_cmp (pe_sign m1 sc2) pe_str rfl) fun _ => pb_or (pb_cmp (pe_scan m1 sc2 rfl) (pe_local m3) rfl) fun _ => pb_or_nil) ?_) ?_)
    · refine (congrArg (or · _) (S_eq (cs'.take 1) [])).trans ?_
      rw [Bool.eq_iff_iff]
      rcases cs' with _ | ⟨c, r⟩
      · simp
      · simp
    by_cases z3 : cs' = [] ∨ ln' ≠ ln
    · rw [decide_eq_true z3]
      rw [if_pos z3] at e0
      refine as_consL ?_
      intro Kq
      refine a1_raise (rkOf d) (aes_cons (ae_str (aes_cons (ae_local m3 (aes_nil ⟨_, _, rfl, ?_⟩)))))
      exact qx ln (Option.some.inj e0).symm _ (fault kp)
    rw [decide_eq_false z3]
    rw [if_neg z3] at e0
    have z4 : ln' = ln := Classical.not_not.mp fun h => z3 (.inr h)
    subst z4
    refine as_nil (as_consL ?_)
    intro Kq
    refine a1_expr (ae_fn (fa := 216) (by kernel_rfl) (by kernel_rfl) (aes_cons (ae_local m1 (aes_nil (AC.to (b := 3 * (13 - (dp + 1)) + 5) (b_in hb (Nat.not_lt.mp z1)) ?_)))))
    cases et : tokF (isKw d) t g cs' ln' ln' (dp + 1) with
    | none => rw [et] at e0; injection e0
    | some rt =>
    rw [et] at e0
    refine hT g (by exact lin [_, _] (.a (.v 0) (.n 1)) (.v 1) [((.a (.v 0) (.n 1)), (.v 1))] gf rfl) Hc _ _ x l t cs' ln' ln' (dp + 1) ks rt sc2 gl (by exact lin [_, _] (.a (.v 0) (.v 1)) (.n 1000000) [((.a (.v 0) (.a (.v 1) (.n 1))), (.n 1000000))] al rfl) (by exact lin [_] (.a (.v 0) (.n 1)) (.n 12) [((.a (.v 0) (.n 1)), (.n 12))] (Nat.le_of_not_lt z1) rfl) et (fun a cs1 k H' e1 e2 A N => ?_) fun l' e1 H' k => ?_
    rotate_left
    · subst e1
      exact qx l' (Option.some.inj e0).symm _ (fault (kp.trans k))
    subst e1
    dsimp only at e0
    have back : ∀ {a : Addr}, Hc a = none → H1 a = none := fun {a} e => by
      cases e2 : H1 a with
      | none => rfl
      | some o =>
        by_cases y1 : a = x
        · subst y1; rw [sc2.hx] at e; injection e
        · by_cases y2 : a = l
          · subst y2; rw [gl] at e; injection e
          · rw [kp a o e2 y1 y2] at e; injection e
    have kp' : Kp2 H1 H' x l := kp.trans A.same
    have pn' : ToksN H1 H' (acc.app (.cons a .nil)) (ks ++ [.ref k]) := by
      refine ToksN.app (ToksN.mono (fun a o h0 e1 => ?_) pn) (.cons (TokN.mono (fun a o h0 e1 => ⟨back h0, e1⟩) N) .nil)
      have n1 : a ≠ x := fun z => hx1 (by rw [← z]; exact h0)
      have n2 : a ≠ l := fun z => by rw [z, g1] at h0; injection h0
      exact ⟨h0, A.same a o e1 n1 n2⟩
    refine as_consL ?_
    intro Kq
    refine a1_assign (ae_sub (ae_of (pe_scan m1 A.sc rfl) (ae_neg (ae_int ⟨_, rfl, ?_⟩))))
    refine ⟨ks ++ [.ref k], .ref k, A.list, by decide, by decide, .inr ⟨by decide, by simp only [List.length_append, List.length_singleton]; exact linI [] [_] (.g (.c (.a (.v 0) (.n 1)))) (.g (.n 1)) []  rfl, by rw [show ((-1 : Int) + ((ks ++ [AV.ref k]).length : Nat)).toNat = ks.length by rw [List.length_append]; exact neg_at]; simp⟩, at_name ?_⟩
    have hN := N
    cases N with
    | @mk kind text line value first left right parts _ P avs h1 h2 h3 h4 h5 =>
    have n1 : ∀ {v : AV}, (fput m "last" v).lookup ("scan" : Str) = some (.ref x) := look_ne m1
    have n2 : ∀ {v : AV}, (fput m "last" v).lookup ("kept" : Str) = some (.ref L) := look_ne m2
    have n3 : ∀ {v : AV}, (fput m "last" v).lookup ("line" : Str) = some (.int ln') := look_ne m3
    have n4 : ∀ {v : AV}, (fput m "last" v).lookup ("deep" : Str) = some (.int deep) := look_ne m4
    refine as_seq (fun σ' => σ'.H = H' ∧ σ'.m.lookup ("scan" : Str) = some (.ref x) ∧ σ'.m.lookup ("kept" : Str) = some (.ref L) ∧ σ'.m.lookup ("line" : Str) = some (.int ln') ∧ σ'.m.lookup ("deep" : Str) = some (.int (deep + parStep (.mk kind text line first left right value parts)))) (a1_if (ab_of (z := kind == k_punct && occ (S [40, 41]) (S text)) (PB.as (pb_and (pb_cmp (ae_fld look_eq h3 (okTok d) rfl ⟨rfl, rfl⟩) pe_str rfl) fun _ => pb_and (pb_cmp (ae_fld look_eq h3 (okTok d) rfl ⟨rfl, rfl⟩) pe_str rfl) fun _ => pb_and_nil) ?_) ?_)) ?_
    · exact (congr (congrArg and (S_eq kind k_punct)) (Bool.and_true _))
    · unfold parStep Tk.kind Tk.text
      dsimp only
      cases z5 : (kind == k_punct && occ (S [40, 41]) (S text)) with
      | false =>
        exact as_nil ⟨rfl, rfl, n1, n2, n3, by rw [if_neg (by simp), Int.add_zero]; exact n4⟩
      | true =>
        refine as_cons (a1_augname n4 (ae_if (ab_of (z := text == [40]) (PB.as (pb_cmp (ae_fld look_eq h3 (okTok d) rfl ⟨rfl, rfl⟩) pe_str rfl) (S_eq text [40])) ?_)))
        cases z6 : (text == [40]) with
        | true => exact ae_int ⟨_, rfl, as_nil ⟨rfl, rfl, look_ne n1, look_ne n2, look_ne n3, look_eq⟩⟩
        | false => exact ae_neg (ae_int ⟨_, rfl, _, rfl, as_nil ⟨rfl, rfl, look_ne n1, look_ne n2, look_ne n3, look_eq⟩⟩)
    · rintro ⟨m', H''⟩ ⟨rfl, i1, i2, i3, i4⟩
      dsimp only at i1 i2 i3 i4
      refine as_consL ?_
      intro Kq
      refine a1_expr (ae_fn (fa := 139) (by kernel_rfl) (by kernel_rfl) (aes_cons (ae_local i1 (aes_nil (AC.to (b := 3) (b_five hdp hb (by decide)) ?_)))))
      cases eb2 : blanks g cs1 ln' with
      | none => rw [eb2] at e0; injection e0
      | some rb2 =>
      rw [eb2] at e0
      refine c_blanks A.sc eb2 (fun cs3 ln3 e3 hc3 => ?_) fun l' e3 cs' ln'' => ?_
      · subst e3
        refine as_nil (ih (g, cs3, ln3, _, _, ks ++ [.ref k], _, m') ⟨e0, (hc3.trans e2).trans hc, .set (hc3.trans A.sc.hs) h.ht, (AHeap.set_ne _ _ hxl.symm).trans A.list, ToksN.mono (fun a o h0 e1 => ⟨h0, (AHeap.set_ne _ _ fun z => hx1 (by rw [← z]; exact h0)).trans e1⟩) pn', kp'.setx _, Nat.le_of_succ_le gf, by simp only [List.length_append, List.length_singleton]; exact lin [_, _] (.a (.a (.v 0) (.n 1)) (.v 1)) (.n 1000000) [((.a (.v 0) (.a (.v 1) (.n 1))), (.n 1000000))] al rfl, i1, i2, i3, i4⟩ (Nat.lt_succ_self _))
      · subst e3
        exact qx l' (Option.some.inj e0).symm _ ((fault kp').set _)
end Mine
end

section
open PySem PySem.W PySem.Calls PyProof.Rows Builtin.ObjectAttr
set_option maxHeartbeats 4000000
namespace Mine
theorem all_f (d : Dt) : ∀ f, 4 * f ≤ 1000000 → PTok d f ∧ PStr d f ∧ PInn d f := by
  intro f
  induction f using Nat.strongRecOn with
  | ind f ih =>
    intro hf
    have hS : PStr d f := str_step d f fun g hg => (ih g hg (by omega)).2.2
    refine ⟨?_, hS, ?_⟩
    · rcases f with _ | f
      · intro H X Q x L t cs ln last dp as res h hL hz hdp e
        exact no_some e
      · exact tok_step d f (by exact lin [_] (.m 4 (.v 0)) (.n 1000000) [((.m 4 (.a (.v 0) (.n 1))), (.n 1000000))] hf rfl) (ih f (Nat.lt_succ_self _) (by exact lin [_] (.m 4 (.v 0)) (.n 1000000) [((.m 4 (.a (.v 0) (.n 1))), (.n 1000000))] hf rfl)).2.1
    · rcases f with _ | f
      · intro H X Q x L t cs ln dp as res h hL hz hdp e
        exact no_some e
      · exact inn_step d f (by exact lin [_] (.m 4 (.v 0)) (.n 1000000) [((.m 4 (.a (.v 0) (.n 1))), (.n 1000000))] hf rfl) fun g hg => (ih g (by exact lin [_, _] (.a (.v 0) (.n 1)) (.a (.v 1) (.n 1)) [((.a (.v 0) (.n 1)), (.v 1))] hg rfl) (by omega)).1
/-- nothing older changes -/
noncomputable def Grow (H H' : AHeap) : Prop := ∀ a o, H a = some o → H' a = some o
theorem Grow.refl (H : AHeap) : Grow H H := fun _ _ e => e
theorem Grow.trans {H H' H'' : AHeap} (h : Grow H H') (h' : Grow H' H'') : Grow H H'' := fun a o e => h' a o (h a o e)
noncomputable def topL (kw : List Nat → Bool) (t : List Nat) (F : Nat) : Nat → List Nat → Int → Int → Tks → Option (Rs Tks)
  | 0, _, _, _, _ => none
  | n + 1, cs, ln, last, acc => match cs with
    | [] => some (.ok (acc.app (.cons (.mk k_end [] ln true true true 0 .nil) .nil)))
    | c :: r => (match tokF kw t F (c :: r) ln last 0 with
      | none => none
      | some (.bad l) => some (.bad l)
      | some (.ok (a, cs1)) => (match blanks F cs1 ln with
        | none => none
        | some (.bad l) => some (.bad l)
        | some (.ok (cs2, ln2)) => topL kw t F n cs2 ln2 ln (acc.app (.cons a .nil))))
noncomputable def topF (kw : List Nat → Bool) (F : Nat) (t : List Nat) : Option (Rs Tks) := match blanks F t 1 with
  | none => none
  | some (.bad l) => some (.bad l)
  | some (.ok (cs, ln)) => topL kw t F F cs ln 0 .nil
section
variable {d : Dt} {H : AHeap} {X : Int → AHeap → Prop} {Q : AV → AHeap → Prop}
/-- tokens_of(text) -/
theorem c_tokens {t : List Nat} {F : Nat} {res : Rs Tks} (ht : t.length ≤ 1000000) (hF : 4 * F ≤ 1000000) (e : topF (isKw d) F t = some res)
    (q : ∀ ts ks l H', res = .ok ts → Grow H H' → H l = none → H' l = some (.list ks) → ToksN H H' ts ks → Q (.ref l) H') (qx : ∀ l, res = .bad l → ∀ H', Grow H H' → X l H') : AC (CC d) 45 (.ref 223) [.str (S t)] H Q X := by
  refine ac_fnL (ns := ["text"]) (by kernel_rfl) (fun _ => by show _ = _; kernel_rfl) (by kernel_rfl) ?_
  refine as_consL ?_
  intro Kq
  refine a1_assign (ae_fn (fa := 107) (by kernel_rfl) (by kernel_rfl) (aes_cons (ae_local rfl (aes_nil ((c_scan fun x l hx hl hxl => ?_).to (by decide))))))
  refine at_name ?_
  have g1 : ((H.set l (.list [])).set x (.inst 107 (scanFs t t 1 l 0 0))) l = some (.list []) := (AHeap.set_ne _ _ hxl.symm).trans (AHeap.set_self ..)
  have sc1 : Sc ((H.set l (.list [])).set x (.inst 107 (scanFs t t 1 l 0 0))) x t t 1 l 0 ((0 : Nat) : Int) := ⟨AHeap.set_self .., List.suffix_refl _, ht⟩
  have gr1 : Grow H ((H.set l (.list [])).set x (.inst 107 (scanFs t t 1 l 0 0))) := fun a o e => by
    rw [AHeap.set_ne _ _ (ne_of e hx), AHeap.set_ne _ _ (ne_of e hl)]; exact e
  have back0 : ∀ {a : Addr}, ((H.set l (.list [])).set x (.inst 107 (scanFs t t 1 l 0 0))) a = none → H a = none := fun {a} e => by
    cases e2 : H a with
    | none => rfl
    | some o => rw [gr1 a o e2] at e; injection e
  generalize hH1 : (H.set l (.list [])).set x (.inst 107 (scanFs t t 1 l 0 0)) = H1 at g1 sc1 gr1 back0 ⊢
  have hx1 : H1 x ≠ none := by rw [sc1.hx]; simp
  have hl1 : H1 l ≠ none := by rw [g1]; simp
  have fault : ∀ {Hc : AHeap}, Kp2 H1 Hc x l → Grow H Hc := fun hk a o e => hk a o (gr1 a o e) (ne_of e hx) (ne_of e hl)
  unfold topF at e
  refine as_consL ?_
  intro Kq
  refine a1_expr (ae_fn (fa := 139) (by kernel_rfl) (by kernel_rfl) (aes_cons (ae_local look_eq (aes_nil (AC.to (b := 3) (by decide) ?_)))))
  cases eb : blanks F t 1 with
  | none => rw [eb] at e; injection e
  | some rb =>
  rw [eb] at e
  refine c_blanks sc1 eb (fun cs1 ln1 e1 hc1 => ?_) fun l' e1 cs' ln' => ?_
  rotate_left
  · subst e1
    exact qx l' (Option.some.inj e).symm _ (fault ((Kp2.refl H1 x l).setx _))
  subst e1
  dsimp only at e
  refine as_consL ?_
  intro Kq
  refine a1_while ?_
  refine aw_ind (α := Nat × List Nat × Int × Int × Tks × List AV × AHeap)
    (I := fun a => topL (isKw d) t F a.1 a.2.1 a.2.2.1 a.2.2.2.1 a.2.2.2.2.1 = some res ∧ Sc a.2.2.2.2.2.2 x t a.2.1 a.2.2.1 l a.2.2.2.1 ((0 : Nat) : Int) ∧
      a.2.2.2.2.2.2 l = some (.list a.2.2.2.2.2.1) ∧ ToksN H1 a.2.2.2.2.2.2 a.2.2.2.2.1 a.2.2.2.2.2.1 ∧ Kp2 H1 a.2.2.2.2.2.2 x l ∧ a.2.2.2.2.2.1.length + a.1 ≤ F)
    (σ := fun a => ⟨[("text", .str (S t)), ("scan", .ref x)], a.2.2.2.2.2.2⟩) (μ := fun a => a.1) (tup7 fun g cs' ln' last acc ks Hc ha ih => ?_) (F, cs1, ln1, 0, .nil, [], _) ⟨e, .set hc1 ht, (AHeap.set_ne _ _ hxl.symm).trans g1, .nil, (Kp2.refl H1 x l).setx _, by simp⟩ rfl
  refine xl_AAAAA ha fun e0 sc2 gl pn kp al => ?_; try clear ha
  dsimp only at e0 sc2 gl pn kp al ih ⊢
  have back : ∀ {a : Addr}, Hc a = none → H1 a = none := fun {a} e => none_back sc1.hx g1 kp e (by rw [sc2.hx]; simp) (by rw [gl]; simp)
  rcases g with _ | g
  · unfold topL at e0; injection e0
  unfold topL at e0
  refine ab_of (PB.as (pb_cmp (pe_sign rfl sc2) pe_str rfl) (ne_take cs')) ?_
  rcases cs' with _ | ⟨c, r⟩
  · dsimp only at e0
    refine as_consL ?_
    intro Kq
    refine a1_assign (ae_bool (at_attr (ae_meth (ae_local rfl ⟨.ref 104, [.ref x], mr_inst sc2.hx rfl (by kernel_rfl), by kernel_rfl, aes_cons (ae_str (aes_cons (ae_str (aes_nil ((c_put' (kind := k_end) (text := []) sc2 gl (by exact lin [_, _, _] (.v 1) (.n 1000000) [((.m 4 (.v 0)), (.n 1000000)), ((.a (.v 1) (.a (.v 2) (.n 1))), (.v 0))] hF al rfl) fun k P H2 R => ?_).to (by decide))))))⟩))))
    have kx : k ≠ x := (ne_of sc2.hx R.k0).symm
    have Px : P ≠ x := (ne_of sc2.hx R.P0).symm
    have kl : k ≠ l := (ne_of gl R.k0).symm
    refine ⟨k, 71, _, rfl, R.hk, okFld_store (okTok d) (by decide), Nat.le_of_ble_eq_true rfl, ?_⟩
    have sc3 : ∀ {o}, Sc (H2.set k o) x t [] ln' l ln' ((0 : Nat) : Int) := ⟨(AHeap.set_ne _ _ kx.symm).trans R.aft.sc.hx, R.aft.sc.hs, R.aft.sc.ht⟩
    refine as_consL ?_
    intro Kq
    refine a1_return (ae_of (pe_scan rfl sc3 rfl) ?_)
    refine q _ (ks ++ [.ref k]) l _ (Option.some.inj e0).symm ?_ hl ((AHeap.set_ne _ _ kl.symm).trans R.aft.list) ?_
    · exact fault ((kp.trans R.aft.same).new (back R.k0) _)
    · refine ToksN.app (ToksN.mono (fun a o h0 e1 => ?_) pn) (.cons (.mk (P := P) (avs := []) (back0 (back R.k0)) (back0 (back R.P0)) (AHeap.set_self ..) ((AHeap.set_ne _ _ R.kP.symm).trans R.hP) .nil) .nil)
      have n1 : a ≠ x := fun z => hx1 (by rw [← z]; exact h0)
      have n2 : a ≠ l := fun z => hl1 (by rw [← z]; exact h0)
      exact ⟨back0 h0, (AHeap.set_ne _ _ (ne_of e1 R.k0)).trans (R.aft.same a o e1 n1 n2)⟩
  dsimp only at e0
  refine as_consL ?_
  intro Kq
  refine a1_expr (ae_fn (fa := 216) (by kernel_rfl) (by kernel_rfl) (aes_cons (ae_local rfl (aes_nil (AC.to (b := 3 * (13 - 0) + 5) (by decide) ?_)))))
  cases et : tokF (isKw d) t F (c :: r) ln' last 0 with
  | none => rw [et] at e0; injection e0
  | some rt =>
  rw [et] at e0
  refine (all_f d F hF).1 Hc _ _ x l t (c :: r) ln' last 0 ks rt sc2 gl (by exact lin [_, _, _] (.a (.v 1) (.v 0)) (.n 1000000) [((.m 4 (.v 0)), (.n 1000000)), ((.a (.v 1) (.a (.v 2) (.n 1))), (.v 0))] hF al rfl) (by decide) et (fun a cs1 k H' e1 e2 A N => ?_) fun l' e1 H' k => ?_
  rotate_left
  · subst e1
    exact qx l' (Option.some.inj e0).symm _ (fault (kp.trans k))
  subst e1
  dsimp only at e0
  have kp' : Kp2 H1 H' x l := kp.trans A.same
  have pn' : ToksN H1 H' (acc.app (.cons a .nil)) (ks ++ [.ref k]) := by
    refine ToksN.app (ToksN.mono (fun a o h0 e1 => ?_) pn) (.cons (TokN.mono (fun a o h0 e1 => ⟨back h0, e1⟩) N) .nil)
    have n1 : a ≠ x := fun z => hx1 (by rw [← z]; exact h0)
    have n2 : a ≠ l := fun z => hl1 (by rw [← z]; exact h0)
    exact ⟨h0, A.same a o e1 n1 n2⟩
  refine as_consL ?_
  intro Kq
  refine a1_expr (ae_fn (fa := 139) (by kernel_rfl) (by kernel_rfl) (aes_cons (ae_local rfl (aes_nil (AC.to (b := 3) (by decide) ?_)))))
  cases eb2 : blanks F cs1 ln' with
  | none => rw [eb2] at e0; injection e0
  | some rb2 =>
  rw [eb2] at e0
  refine c_blanks A.sc eb2 (fun cs3 ln3 e3 hc3 => ?_) fun l' e3 cs' ln'' => ?_
  · subst e3
    refine as_nil (ih (g, cs3, ln3, ln', _, ks ++ [.ref k], _) ⟨e0, .set (hc3.trans A.sc.hs) ht, (AHeap.set_ne _ _ hxl.symm).trans A.list, ToksN.mono (fun a o h0 e1 => ⟨h0, (AHeap.set_ne _ _ fun z => hx1 (by rw [← z]; exact h0)).trans e1⟩) pn', kp'.setx _, by simp only [List.length_append, List.length_singleton]; exact lin [_, _, _] (.a (.a (.v 0) (.n 1)) (.v 1)) (.v 2) [((.a (.v 0) (.a (.v 1) (.n 1))), (.v 2))] al rfl⟩ (Nat.lt_succ_self _))
  · subst e3
    exact qx l' (Option.some.inj e0).symm _ (fault (kp'.setx _))
end
end Mine
end

section
open PySem PySem.W PySem.Calls PyProof.Rows Builtin.ObjectAttr
set_option maxHeartbeats 4000000
namespace Mine
noncomputable def k_prefix : List Nat := [112, 114, 101, 102, 105, 120]
noncomputable def k_postfix : List Nat := [112, 111, 115, 116, 102, 105, 120]
noncomputable def k_infix : List Nat := [105, 110, 102, 105, 120]
/-- where an operator stands -/
noncomputable def place (l r : Bool) (text : List Nat) : List Nat := if l != r then (if l then k_prefix else k_postfix) else if (text == [33] || text == [63]) && !l then k_postfix else k_infix
theorem contains2 (l a b : List Nat) : (([S a, S b] : List Str).contains (S l)) = (l == a || l == b) := by
  simp only [List.contains_cons, S_eq, List.contains_nil, Bool.or_false]
section
variable {d : Dt} {H : AHeap} {X : Int → AHeap → Prop} {Q : AV → AHeap → Prop}
/-- op_place(token) -/
theorem c_place {k P : Addr} {kind text : List Nat} {line value : Int} {first l r : Bool} (hk : H k = some (.inst 71 (tokFs kind text line first l r value P))) (q : Q (.str (S (place l r text))) H) : AC (CC d) 1 (.ref 230) [.ref k] H Q X := by
  refine ac_fnL (ns := ["token"]) (by kernel_rfl) (fun _ => by show _ = _; kernel_rfl) (by kernel_rfl) ?_
  refine as_consL ?_
  intro Kq
  refine a1_if (ab_of (z := l != r) (PB.as (pb_cmp (ae_fld rfl hk (okTok d) rfl ⟨rfl, rfl⟩) (ae_fld rfl hk (okTok d) rfl ⟨rfl, rfl⟩) rfl) rfl) ?_)
  cases z1 : l != r with
  | true =>
    refine as_consL ?_
    intro Kq
    refine a1_return (ae_if (ab_val (ae_fld rfl hk (okTok d) rfl ⟨l, rfl, ?_⟩)))
    unfold place at q
    rw [z1] at q
    induction l with
    | true => exact ae_str q
    | false => exact ae_str q
  | false =>
    unfold place at q
    rw [z1] at q
    refine as_nil (as_consL ?_)
    intro Kq
    refine a1_return (ae_if (ab_of (z := (text == [33] || text == [63]) && !l) (PB.as (pb_and (pb_cmp (ae_fld rfl hk (okTok d) rfl ⟨rfl, rfl⟩) pe_tuple2 ⟨[_, _], rfl, rfl⟩) fun _ => pb_and (pb_not (z := l) (ab_val (ae_fld rfl hk (okTok d) rfl ⟨l, rfl, rfl, rfl⟩))) fun _ => pb_and_nil) ?_) ?_))
    · exact (congr (congrArg and (contains2 text [33] [63])) (Bool.and_true _))
    · cases z2 : ((text == [33] || text == [63]) && !l) with
      | true => rw [z2] at q; exact ae_str q
      | false => rw [z2] at q; exact ae_str q
end
/-- the well that the law draws from -/
structure Well (H : AHeap) (w cl : Addr) (cells : List Int) : Prop where
  hc : H cl = some (.list (cells.map .int))
  hw : ∃ (at' : Nat) (mix : Int), H w = some (.list [.ref cl, .int at', .int mix]) ∧ 0 ≤ mix ∧ mix < 997
  nn : ∀ c ∈ cells, 0 ≤ c
  len : cells.length ≤ 63
  ne : cl ≠ w
theorem mul37 {i : Int} : IntMulOk i 37 := IntMulOk.of_right (by decide)
theorem fm997 (i : Int) : 0 ≤ i.fmod 997 ∧ i.fmod 997 < 997 := ⟨Int.fmod_nonneg_of_pos _ (by decide), Int.fmod_lt_of_pos _ (by decide)⟩
theorem fm_pos (i : Int) {n : Nat} (h : 0 < n) : ∃ k : Nat, i.fmod n = k ∧ k < n := by
  have h1 := Int.fmod_nonneg_of_pos i (b := n) (by exact linI [] [_] (.a (.n 0) (.n 1)) (.c (.v 0)) [((.c (.a (.n 0) (.n 1))), (.c (.v 0)))] (Int.ofNat_le.mpr h) rfl)
  have h2 := Int.fmod_lt_of_pos i (b := n) (by exact linI [] [_] (.a (.n 0) (.n 1)) (.c (.v 0)) [((.c (.a (.n 0) (.n 1))), (.c (.v 0)))] (Int.ofNat_le.mpr h) rfl)
  exact ⟨(i.fmod n).toNat, by omega, by omega⟩
theorem pe_li {c : Cx} {sc : Scope} {b : Nat} {σ : St} {X : Int → St → Prop} {v : Str} {p p1 p2 : Pos} {kk : Nat} {l : Addr} {as : List AV} {i : Nat} {a : AV} (hv : σ.m.lookup v = some (.ref l)) (hl : σ.H l = some (.list as)) (ha : as[i]? = some a) (hz : i < 2 ^ 61 := by decide) (hloc : sc.names.lookup v = some .local := by rfl) (hd : (v == ("__debug__" : Str)) = false := by decide)
    (hs : ∀ o k, subscripted (.Constant (.int (i : Nat)) kk p1) false o k = operate [o, k] (getItem o k) := by intro _ _; rfl) : PE c sc b (.Subscript (.Name v p) (.Constant (.int (i : Nat)) kk p1) p2) σ a X :=
  ae_sub (ae_local hv (ae_int ⟨as, a, hl, by exact linI [] [_] (.a (.n (-4611686018427387904)) (.n 1)) (.c (.v 0)) []  rfl, by exact linI [] [_] (.a (.c (.v 0)) (.n 1)) (.n 4611686018427387904) [((.c (.a (.v 0) (.n 1))), (.c (.n 2305843009213693952)))] (Int.ofNat_le.mpr hz) rfl, .inl ⟨by exact linI [] [_] (.n 0) (.c (.v 0)) []  rfl, by simpa using ha⟩, rfl, rfl⟩) hloc hd) hs
section
variable {d : Dt} {H : AHeap} {X : Int → AHeap → Prop} {Q : AV → AHeap → Prop} {w cl : Addr} {cells : List Int}
/-- _law_draw(well, size) -/
theorem c_draw {n : Nat} (h : Well H w cl cells) (hn : 0 < n) (q : ∀ (k : Nat) H', k < n → Well H' w cl cells → Kp H H' w → Q (.int k) H') : AC (CC d) 1 (.ref 286) [.ref w, .int n] H Q X := by
  refine ac_fnL (ns := ["well", "size"]) (by kernel_rfl) (fun _ _ => by show _ = _; kernel_rfl) (by kernel_rfl) ?_
  refine xl_EEAA h.hw fun at' mix hw m0 m1 => ?_
  have hcw := h.ne
  have hlen := h.len
  refine as_consL ?_
  intro Kq
  refine a1_swap2 (x := "cells") (y := "at") (fun env he => by cases env; cases he; rfl) ?_
  refine ae_tuple (aes_cons (ae_of (pe_li (i := 0) rfl hw rfl) (aes_cons (ae_of (pe_li (i := 1) rfl hw rfl) (aes_nil ⟨Nat.le_of_ble_eq_true rfl, _, _, rfl, ?_⟩)))))
  refine as_consL ?_
  intro Kq
  refine a1_assign (ae_cmp2 (ae_local rfl (ae_bi (bi_len d) bo_len (aes_cons (ae_local rfl (aes_nil (acw_len_list h.hc (by rw [List.length_map]; exact lin [_] (.a (.v 0) (.n 1)) (.n 4611686018427387904) [((.v 0), (.n 63))] hlen rfl) ?_)))))))
  refine ⟨decide ((at' : Int) < (cells.length : Nat)), by rw [List.length_map]; rfl, at_name ?_⟩
  have key : ∀ (cell : Int) (m : List (Str × AV)), m.lookup ("well" : Str) = some (.ref w) → m.lookup ("size" : Str) = some (.int n) → m.lookup ("at" : Str) = some (.int at') → m.lookup ("is_there" : Str) = some (.bool (decide ((at' : Int) < (cells.length : Nat)))) → m.lookup ("cell" : Str) = some (.int cell) →
      AS (CC d) (scOf (CC d).K 286) 0 ((bdOf (CC d).K 286).drop 3) ⟨m, H⟩ (fun fl σ' => match fl with | .ret a => Q a σ'.H | _ => Q .none σ'.H) (fun l σ' => X l σ'.H) := fun cell m l1 l2 l3 l4 l5 => by
    refine as_consL ?_
    intro Kq
    refine a1_assign (ae_bin (ae_local l3 (ae_int (at_sub (ae_local l1 (ae_int ⟨w, [.ref cl, .int at', .int mix], 1, rfl, rfl, hw, Nat.le_of_ble_eq_true rfl, Nat.le_of_ble_eq_true rfl, ?_⟩))))))
    have hw1 : (H.set w (.list [.ref cl, .int ((at' : Int) + 1), .int mix])) w = some (.list [.ref cl, .int ((at' + 1 : Nat) : Int), .int mix]) := AHeap.set_self ..
    refine as_consL ?_
    intro Kq
    refine a1_assign (ae_bin (ae_bin (ae_bin (ae_bin (ae_of (pe_li (i := 2) l1 hw1 rfl) (ae_int ⟨mul37, ae_bin (ae_local l5 (ae_int ⟨by decide, ?_⟩))⟩))))))
    refine ae_int (ae_int ⟨by decide, at_sub (ae_local l1 (ae_int ⟨w, _, 2, rfl, rfl, hw1, Nat.le_of_ble_eq_true rfl, Nat.le_of_ble_eq_true rfl, ?_⟩))⟩)
    obtain ⟨v, hv⟩ : ∃ v : Int, v = ((mix * 37 + cell.fmod 997) + 11).fmod 997 := ⟨_, rfl⟩
    have hm := fm997 ((mix * 37 + cell.fmod 997) + 11)
    rw [AHeap.set_set]
    have e2 : (List.set [AV.ref cl, .int ((at' + 1 : Nat) : Int), .int mix] 2 (.int (((mix * 37 + cell.fmod 997) + 11).fmod 997))) = [.ref cl, .int ((at' + 1 : Nat) : Int), .int (((mix * 37 + cell.fmod 997) + 11).fmod 997)] := rfl
    rw [e2]
    have hw2 : (H.set w (.list [.ref cl, .int ((at' + 1 : Nat) : Int), .int (((mix * 37 + cell.fmod 997) + 11).fmod 997)])) w = some (.list [.ref cl, .int ((at' + 1 : Nat) : Int), .int (((mix * 37 + cell.fmod 997) + 11).fmod 997)]) := AHeap.set_self ..
    have W : Well (H.set w (.list [.ref cl, .int ((at' + 1 : Nat) : Int), .int (((mix * 37 + cell.fmod 997) + 11).fmod 997)])) w cl cells := ⟨(AHeap.set_ne _ _ hcw).trans h.hc, ⟨_, _, hw2, hm.1, hm.2⟩, h.nn, h.len, h.ne⟩
    refine as_consL ?_
    intro Kq
    refine a1_return (ae_bin (ae_if (ab_val (ae_local l4 ⟨_, rfl, ?_⟩))))
    cases decide ((at' : Int) < (cells.length : Nat)) with
    | true =>
      refine ae_local l5 (ae_local l2 ⟨by omega, ?_⟩)
      refine xl_EA (fm_pos cell hn) fun k e hk => ?_
      rw [e]
      exact q k _ hk W ((Kp.refl H w).set _)
    | false =>
      refine ae_of (pe_li (i := 2) l1 hw2 rfl) (ae_local l2 ⟨by omega, ?_⟩)
      refine xl_EA (fm_pos (((mix * 37 + cell.fmod 997) + 11).fmod 997) hn) fun k e hk => ?_
      rw [e]
      exact q k _ hk W ((Kp.refl H w).set _)
  refine as_consL ?_
  intro Kq
  refine a1_assign (ae_if (ab_val (ae_local look_eq ⟨_, rfl, ?_⟩)))
  by_cases z : (at' : Int) < (cells.length : Nat)
  · rw [decide_eq_true z] at key ⊢
    obtain ⟨a, ha⟩ : ∃ a, cells[at']? = some a := ⟨_, List.getElem?_eq_getElem (by exact Int.ofNat_le.mp (linI [] [_, _] (.c (.a (.v 0) (.n 1))) (.c (.v 1)) [((.a (.c (.v 0)) (.n 1)), (.c (.v 1)))] z rfl))⟩
    refine ae_sub (ae_local rfl (ae_local rfl ⟨_, .int a, h.hc, by exact linI [] [_] (.a (.n (-4611686018427387904)) (.n 1)) (.c (.v 0)) []  rfl, by exact linI [] [_, _] (.a (.c (.v 1)) (.n 1)) (.n 4611686018427387904) [((.c (.v 0)), (.c (.n 63))), ((.a (.c (.v 1)) (.n 1)), (.c (.v 0)))] (Int.ofNat_le.mpr hlen) z rfl, .inl ⟨by exact linI [] [_] (.n 0) (.c (.v 0)) []  rfl, by simp [ha]⟩, at_name ?_⟩))
    exact key a _ rfl rfl rfl rfl rfl
  · rw [decide_eq_false z] at key ⊢
    exact ae_int (at_name (key 0 _ rfl rfl rfl rfl rfl))
end
end Mine
end

section
open PySem PySem.W PySem.Calls PyProof.Rows Builtin.ObjectAttr
set_option maxHeartbeats 4000000
namespace Mine
noncomputable def words : List (List Nat × List Nat) := [([97], [110, 97, 109, 101]), ([120, 49], [110, 97, 109, 101]), ([95], [107, 101, 121, 119, 111, 114, 100]), ([36, 48], [110, 97, 109, 101]), ([36, 49, 50], [110, 97, 109, 101]), ([95, 98], [110, 97, 109, 101]), ([105, 102], [107, 101, 121, 119, 111, 114, 100]), ([108, 101, 116], [107, 101, 121, 119, 111, 114, 100]), ([119, 101, 97, 107], [110, 97, 109, 101]), ([115, 101, 108, 102], [107, 101, 121, 119, 111, 114, 100]), ([105, 102, 120], [110, 97, 109, 101]), ([97, 110, 121], [110, 97, 109, 101]), ([116, 104, 114, 111, 119, 115], [107, 101, 121, 119, 111, 114, 100]), ([90, 57, 95], [110, 97, 109, 101]), ([116, 114, 117, 101], [107, 101, 121, 119, 111, 114, 100]), ([103, 101, 116], [110, 97, 109, 101]), ([105, 110], [107, 101, 121, 119, 111, 114, 100]), ([102, 97, 108, 108, 116, 104, 114, 111, 117, 103, 104], [107, 101, 121, 119, 111, 114, 100])]
noncomputable def numbers : List (List Nat × Nat) := [([48], 0), ([55], 7), ([49, 95, 48, 48, 48], 1000), ([48, 120, 49, 70], 31), ([48, 98, 49, 95, 48, 49], 5), ([48, 111, 49, 55], 15), ([57, 50, 50, 51, 51, 55, 50, 48, 51, 54, 56, 53, 52, 55, 55, 53, 56, 48, 56], 9223372036854775808), ([48, 48], 0), ([48, 120, 102, 70, 95], 255), ([49, 50, 95, 95], 12)]
noncomputable def signs : List (List Nat × List Nat) := [([98], [98]), ([32], [32]), ([92, 110], [10]), ([92, 116], [9]), ([92, 92], [92]), ([92, 34], [34]), ([92, 117, 123, 52, 49, 125], [65]), ([92, 48], [0]), ([39], [39]), ([92, 117, 123, 49, 70, 54, 48, 48, 125], [128512]), ([40], [40]), ([47, 47], [47, 47]), ([92, 39], [39]), ([92, 114], [13])]
noncomputable def opsT : List (List Nat) := [[46, 46, 60], [46, 46, 46], [61, 61, 61], [33, 61, 61], [61, 61], [33, 61], [60, 61], [62, 61], [38, 38], [124, 124], [63, 63], [43, 61], [45, 61], [42, 61], [47, 61], [37, 61], [61], [60], [62], [43], [45], [42], [47], [37], [33], [63], [38]]
noncomputable def punctsT : List (List Nat) := [[40], [41], [91], [93], [123], [125], [44], [59], [58], [46], [45, 62]]
noncomputable def gapsT : List (List Nat) := [[], [32], [], [32, 32], [9], [10], [47, 42, 32, 97, 32, 47, 42, 32, 98, 32, 42, 47, 32, 99, 32, 42, 47], [47, 47, 32, 120, 32, 34, 32, 121, 10], [47, 42, 32, 10, 32, 42, 47], [10, 10], [32, 10, 32], []]
noncomputable def illsT : List (List Nat) := [[34, 97, 98, 10], [34, 92, 113, 34], [34, 92, 117, 123, 49, 49, 48, 48, 48, 48, 125, 34], [34, 92, 117, 123, 68, 56, 48, 48, 125, 34], [34, 92, 117, 52, 49, 34], [34, 92, 117, 123, 125, 34], [49, 97], [48, 120], [48, 98, 50], [48, 111, 57, 95], [35], [64], [46, 46, 32], [36, 120], [34, 92, 40, 97, 10], [34, 92, 40, 40, 97, 41, 34], [96], [126], [53, 95, 120], [34, 92], [94]]
noncomputable def pairT (p : List Nat × List Nat) : AV := .tup [.str (S p.1), .str (S p.2)]
noncomputable def numT (p : List Nat × Nat) : AV := .tup [.str (S p.1), .int p.2]
noncomputable def strT (p : List Nat) : AV := .str (S p)
section
variable {d : Dt} {sc : Scope} {b : Nat} {σ : St} {X : Int → St → Prop} {p : Pos}
theorem pe_words (hl : sc.names.lookup ("_law_words" : Str) = some .globalImplicit := by rfl) : PE (CC d) sc b (.Name "_law_words" p) σ (.tup (words.map pairT)) X :=
  ae_gtup (v := .ref 249) rfl (fun hX => by
    refine .tup (hX 249 _ rfl) ?_
    repeat first | exact .nil | refine .cons (.tup (hX _ _ rfl) (.cons (.str _ _) (.cons (.str _ _) .nil))) ?_) ⟨rfl, rfl⟩ hl
theorem pe_signs (hl : sc.names.lookup ("_law_signs" : Str) = some .globalImplicit := by rfl) : PE (CC d) sc b (.Name "_law_signs" p) σ (.tup (signs.map pairT)) X :=
  ae_gtup (v := .ref 277) rfl (fun hX => by
    refine .tup (hX 277 _ rfl) ?_
    repeat first | exact .nil | refine .cons (.tup (hX _ _ rfl) (.cons (.str _ _) (.cons (.str _ _) .nil))) ?_) ⟨rfl, rfl⟩ hl
theorem pe_numbers (hl : sc.names.lookup ("_law_numbers" : Str) = some .globalImplicit := by rfl) : PE (CC d) sc b (.Name "_law_numbers" p) σ (.tup (numbers.map numT)) X :=
  ae_gtup (v := .ref 262) rfl (fun hX => by
    refine .tup (hX 262 _ rfl) ?_
    repeat first | exact .nil | refine .cons (.tup (hX _ _ rfl) (.cons (.str _ _) (.cons (.int _ _) .nil))) ?_) ⟨rfl, rfl⟩ hl
theorem pe_ops (hl : sc.names.lookup ("_law_ops" : Str) = some .globalImplicit := by rfl) : PE (CC d) sc b (.Name "_law_ops" p) σ (.tup (opsT.map strT)) X :=
  ae_gtup (v := .ref 250) rfl (fun hX => by
    refine .tup (hX 250 _ rfl) ?_
    repeat first | exact .nil | refine .cons (.str _ _) ?_) ⟨rfl, rfl⟩ hl
theorem pe_puncts (hl : sc.names.lookup ("_law_puncts" : Str) = some .globalImplicit := by rfl) : PE (CC d) sc b (.Name "_law_puncts" p) σ (.tup (punctsT.map strT)) X :=
  ae_gtup (v := .ref 251) rfl (fun hX => by
    refine .tup (hX 251 _ rfl) ?_
    repeat first | exact .nil | refine .cons (.str _ _) ?_) ⟨rfl, rfl⟩ hl
theorem pe_gaps (hl : sc.names.lookup ("_law_gaps" : Str) = some .globalImplicit := by rfl) : PE (CC d) sc b (.Name "_law_gaps" p) σ (.tup (gapsT.map strT)) X :=
  ae_gtup (v := .ref 278) rfl (fun hX => by
    refine .tup (hX 278 _ rfl) ?_
    repeat first | exact .nil | refine .cons (.str _ _) ?_) ⟨rfl, rfl⟩ hl
theorem pe_ills (hl : sc.names.lookup ("_law_ills" : Str) = some .globalImplicit := by rfl) : PE (CC d) sc b (.Name "_law_ills" p) σ (.tup (illsT.map strT)) X :=
  ae_gtup (v := .ref 279) rfl (fun hX => by
    refine .tup (hX 279 _ rfl) ?_
    repeat first | exact .nil | refine .cons (.str _ _) ?_) ⟨rfl, rfl⟩ hl
end
section
variable {d : Dt} {H : AHeap} {X : Int → AHeap → Prop} {Q : AV → AHeap → Prop} {w cl : Addr} {cells : List Int}
theorem subR_tup {c : Cx} {σ : St} {Q : AV → St → Prop} {as : List AV} {i : Nat} {a : AV} (ha : as[i]? = some a) (hz : i < 2 ^ 61) (q : Q a σ) : SubR c (.tup as) (.int (i : Nat)) σ Q := by
  have hl := (List.getElem?_eq_some_iff.mp ha).1
  refine ⟨i, a, ?_, ha, by exact linI [] [_] (.a (.n (-4611686018427387904)) (.n 1)) (.c (.v 0)) []  rfl, by exact linI [] [_] (.a (.c (.v 0)) (.n 1)) (.n 4611686018427387904) [((.c (.a (.v 0) (.n 1))), (.c (.n 2305843009213693952)))] (Int.ofNat_le.mpr hz) rfl, q⟩
  unfold seqIndex?
  dsimp only
  rw [if_neg (by omega : ¬ ((i : Int) < 0)), if_pos (by rw [Bool.and_eq_true, decide_eq_true_eq, decide_eq_true_eq]; omega), Int.toNat_natCast]
/-- _law_pick(well, menu) -/
theorem c_pick {as : List AV} (h : Well H w cl cells) (h0 : 0 < as.length) (hz : as.length < 2 ^ 40) (q : ∀ a ∈ as, ∀ H', Well H' w cl cells → Kp H H' w → Q a H') : AC (CC d) 2 (.ref 293) [.ref w, .tup as] H Q X := by
  refine ac_fnL (ns := ["well", "menu"]) (by kernel_rfl) (fun _ _ => by show _ = _; kernel_rfl) (by kernel_rfl) ?_
  refine as_consL ?_
  intro Kq
  refine a1_return ?_
  refine ae_sub (ae_local rfl (ae_fn (fa := 286) (by kernel_rfl) (by kernel_rfl) (aes_cons (ae_local rfl (aes_cons (ae_bi (bi_len d) bo_len (aes_cons (ae_local rfl (aes_nil (acw_len_tup (by exact lin [_] (.a (.v 0) (.n 1)) (.n 4611686018427387904) [((.a (.v 0) (.n 1)), (.n 1099511627776))] hz rfl) ?_))))))))))
  refine aes_nil ((c_draw h h0 fun k H' hk W K => ?_).to (by decide))
  exact subR_tup (a := as[k]) (List.getElem?_eq_getElem hk) (by exact lin [_, _] (.a (.v 1) (.n 1)) (.n 2305843009213693952) [((.a (.v 0) (.n 1)), (.n 1099511627776)), ((.a (.v 1) (.n 1)), (.v 0))] hz hk rfl) (q _ (List.getElem_mem hk) H' W K)
end
mutual
inductive Pc where
  | mk (kind text : List Nat) (value : Int) (parts : PPs)
inductive PPs where
  | nil
  | txt (x : List Nat) (r : PPs)
  | pcs (l : Pcs) (r : PPs)
inductive Pcs where
  | nil
  | cons (a : Pc) (r : Pcs)
end
mutual
/-- a piece stands in the heap, made after H0 -/
inductive PcN (H0 H : AHeap) : Pc → AV → Prop
  | mk {kind text : List Nat} {value : Int} {parts : PPs} {P : Addr} {avs : List AV} : H0 P = none → H P = some (.list avs) → PPsN H0 H parts avs → PcN H0 H (.mk kind text value parts) (.tup [.str (S kind), .str (S text), .int value, .ref P])
inductive PPsN (H0 H : AHeap) : PPs → List AV → Prop
  | nil : PPsN H0 H .nil []
  | txt {x : List Nat} {r : PPs} {as : List AV} : PPsN H0 H r as → PPsN H0 H (.txt x r) (.str (S x) :: as)
  | pcs {l : Addr} {ts : Pcs} {ks : List AV} {r : PPs} {as : List AV} : H0 l = none → H l = some (.list ks) → PcsN H0 H ts ks → PPsN H0 H r as → PPsN H0 H (.pcs ts r) (.ref l :: as)
inductive PcsN (H0 H : AHeap) : Pcs → List AV → Prop
  | nil : PcsN H0 H .nil []
  | cons {a : Pc} {k : AV} {ts : Pcs} {ks : List AV} : PcN H0 H a k → PcsN H0 H ts ks → PcsN H0 H (.cons a ts) (k :: ks)
end
theorem PcN.mono {H0 H H0' H' : AHeap} (h : ∀ a o, H0 a = none → H a = some o → H0' a = none ∧ H' a = some o) : ∀ {a : Pc} {v : AV}, PcN H0 H a v → PcN H0' H' a v := fun t =>
  PcN.rec (motive_1 := fun a v _ => PcN H0' H' a v) (motive_2 := fun a v _ => PPsN H0' H' a v) (motive_3 := fun a v _ => PcsN H0' H' a v)
    (fun h1 h2 _ i => .mk (h _ _ h1 h2).1 (h _ _ h1 h2).2 i)
    .nil (fun _ i => .txt i) (fun h1 h2 _ _ i j => .pcs (h _ _ h1 h2).1 (h _ _ h1 h2).2 i j) .nil (fun _ _ i j => .cons i j) t
theorem PcsN.mono {H0 H H0' H' : AHeap} (h : ∀ a o, H0 a = none → H a = some o → H0' a = none ∧ H' a = some o) : ∀ {a : Pcs} {v : List AV}, PcsN H0 H a v → PcsN H0' H' a v := fun t =>
  PcsN.rec (motive_1 := fun _ _ _ => True) (motive_2 := fun _ _ _ => True) (motive_3 := fun a v _ => PcsN H0' H' a v)
    (fun _ _ _ _ => trivial) trivial (fun _ _ => trivial) (fun _ _ _ _ _ _ => trivial) .nil (fun a _ _ j => .cons (a.mono h) j) t
theorem PPsN.mono {H0 H H0' H' : AHeap} (h : ∀ a o, H0 a = none → H a = some o → H0' a = none ∧ H' a = some o) : ∀ {a : PPs} {v : List AV}, PPsN H0 H a v → PPsN H0' H' a v := fun t =>
  PPsN.rec (motive_1 := fun _ _ _ => True) (motive_2 := fun a v _ => PPsN H0' H' a v) (motive_3 := fun _ _ _ => True)
    (fun _ _ _ _ => trivial) .nil (fun _ i => .txt i) (fun h1 h2 l _ _ j => .pcs (h _ _ h1 h2).1 (h _ _ h1 h2).2 (l.mono h) j) trivial (fun _ _ _ _ => trivial) t
noncomputable def Pcs.app : Pcs → Pcs → Pcs
  | .nil, b => b
  | .cons a r, b => .cons a (r.app b)
theorem PcsN.app {H0 H : AHeap} : ∀ {a b : Pcs} {v w : List AV}, PcsN H0 H a v → PcsN H0 H b w → PcsN H0 H (a.app b) (v ++ w) := fun {a b v w} t u =>
  PcsN.rec (motive_1 := fun _ _ _ => True) (motive_2 := fun _ _ _ => True) (motive_3 := fun a v _ => PcsN H0 H (a.app b) (v ++ w))
    (fun _ _ _ _ => trivial) trivial (fun _ _ => trivial) (fun _ _ _ _ _ _ => trivial) u (fun a _ _ j => .cons a j) t
noncomputable def PPs.app : PPs → PPs → PPs
  | .nil, b => b
  | .txt x r, b => .txt x (r.app b)
  | .pcs l r, b => .pcs l (r.app b)
theorem PPsN.app {H0 H : AHeap} : ∀ {a b : PPs} {v w : List AV}, PPsN H0 H a v → PPsN H0 H b w → PPsN H0 H (a.app b) (v ++ w) := fun {a b v w} t u =>
  PPsN.rec (motive_1 := fun _ _ _ => True) (motive_2 := fun a v _ => PPsN H0 H (a.app b) (v ++ w)) (motive_3 := fun _ _ _ => True)
    (fun _ _ _ _ => trivial) u (fun _ i => .txt i) (fun h1 h2 l _ _ j => .pcs h1 h2 l j) trivial (fun _ _ _ _ => trivial) t
noncomputable def Pc.text : Pc → List Nat | .mk _ x _ _ => x
noncomputable def Pc.kind : Pc → List Nat | .mk k _ _ _ => k
noncomputable def wordPc (p : List Nat × List Nat) : Pc := .mk p.2 p.1 0 .nil
noncomputable def numPc (p : List Nat × Nat) : Pc := .mk k_int p.1 p.2 .nil
noncomputable def opPc (o : List Nat) : Pc := .mk k_op o 0 .nil
noncomputable def punPc (o : List Nat) : Pc := .mk k_punct o 0 .nil
mutual
/-- what _law_small may give -/
inductive GS : Nat → Pc → Prop
  | word {n : Nat} {p : List Nat × List Nat} : p ∈ words → GS n (wordPc p)
  | num {n : Nat} {p : List Nat × Nat} : p ∈ numbers → GS n (numPc p)
  | str {n : Nat} {p : Pc} : GStr (n + 1) p → GS (n + 1) p
/-- the inside of a string that _law_string may build: its text, its parts, the last part -/
inductive GB : Nat → List Nat → PPs → List Nat → Prop
  | nil {n : Nat} : GB n [] .nil []
  | raw {n : Nat} {x : List Nat} {ps : PPs} {pl : List Nat} {p : List Nat × List Nat} : GB n x ps pl → p ∈ signs → GB n (x ++ p.1) ps (pl ++ p.2)
  | inn {n : Nat} {x : List Nat} {ps : PPs} {pl y : List Nat} {rows : Pcs} : GB (n + 1) x ps pl → GI n y rows → GB (n + 1) (x ++ ([92, 40] ++ y ++ [41])) (ps.app (.txt pl (.pcs rows .nil))) []
/-- what _law_inner may give -/
inductive GI : Nat → List Nat → Pcs → Prop
  | one {n : Nat} {p : Pc} : GS n p → GI n p.text (.cons p .nil)
  | plus {n : Nat} {p q : Pc} : GS n p → GS n q → GI n ([32] ++ p.text ++ [32, 43, 32] ++ q.text) (.cons p (.cons (opPc [43]) (.cons q .nil)))
  | call {n : Nat} {p : Pc} : GS n p → GI n ([102, 40] ++ p.text ++ [41]) (.cons (.mk k_name [102] 0 .nil) (.cons (punPc [40]) (.cons p (.cons (punPc [41]) .nil))))
  | nest {n : Nat} {p : Pc} : GS n p → GI n ([40, 40] ++ p.text ++ [41, 32, 41]) (.cons (punPc [40]) (.cons (punPc [40]) (.cons p (.cons (punPc [41]) (.cons (punPc [41]) .nil)))))
inductive GStr : Nat → Pc → Prop
  | mk {n : Nat} {x : List Nat} {ps : PPs} {pl : List Nat} : GB n x ps pl → GStr n (.mk k_string (34 :: (x ++ [34])) 0 (ps.app (.txt pl .nil)))
end
/-- how long a text may be -/
noncomputable def LS : Nat → Nat
  | 0 => 20
  | n + 1 => 3 * (2 * LS n + 20) + 2
end Mine
end

section
open PySem PySem.W PySem.Calls PyProof.Rows Builtin.ObjectAttr
set_option maxHeartbeats 4000000
namespace Mine
theorem LS_ge : ∀ n, 20 ≤ LS n
  | 0 => Nat.le_refl _
  | n + 1 => by have := LS_ge n; unfold LS; exact lin [_] (.n 20) (.a (.m 3 (.a (.m 2 (.v 0)) (.n 20))) (.n 2)) []  rfl
noncomputable def PSm (d : Dt) (n : Nat) : Prop := ∀ (H : AHeap) (X : Int → AHeap → Prop) (Q : AV → AHeap → Prop) (w cl : Addr) (cells : List Int), Well H w cl cells →
  (∀ p a H', GS n p → p.text.length ≤ LS n → Well H' w cl cells → Kp H H' w → PcN H H' p a → Q a H') → AC (CC d) (3 * n + 3) (.ref 314) [.ref w, .int n] H Q X
noncomputable def PIn (d : Dt) (n : Nat) : Prop := ∀ (H : AHeap) (X : Int → AHeap → Prop) (Q : AV → AHeap → Prop) (w cl : Addr) (cells : List Int), Well H w cl cells →
  (∀ y rows l ks H', GI n y rows → y.length ≤ 2 * LS n + 10 → Well H' w cl cells → Kp H H' w → H l = none → H' l = some (.list ks) → PcsN H H' rows ks → Q (.tup [.str (S y), .ref l]) H') → AC (CC d) (3 * n + 4) (.ref 307) [.ref w, .int n] H Q X
noncomputable def PSt (d : Dt) (n : Nat) : Prop := ∀ (H : AHeap) (X : Int → AHeap → Prop) (Q : AV → AHeap → Prop) (w cl : Addr) (cells : List Int), Well H w cl cells →
  (∀ p a H', GStr n p → p.text.length ≤ LS n → Well H' w cl cells → Kp H H' w → PcN H H' p a → Q a H') → AC (CC d) (3 * n + 2) (.ref 300) [.ref w, .int n] H Q X
theorem Well.is (h : Well H w cl cells) : H w ≠ none := by refine xl_EEA h.hw fun _ _ e _ => ?_; rw [e]; simp
theorem Well.kp {H H' : AHeap} {w cl : Addr} {cells : List Int} (h : Well H w cl cells) {P : Addr} (hP : H P = none) {o : AO} : Well (H.set P o) w cl cells := by
  refine xl_EEAA h.hw fun a m e m0 m1 => ?_
  exact ⟨(AHeap.set_ne _ _ (ne_of h.hc hP)).trans h.hc, ⟨a, m, (AHeap.set_ne _ _ (ne_of e hP)).trans e, m0, m1⟩, h.nn, h.len, h.ne⟩
theorem PcN.go {H0 H H' : AHeap} {w : Addr} {p : Pc} {a : AV} (h : PcN H0 H p a) (hw : H0 w ≠ none) (k : Kp H H' w) : PcN H0 H' p a :=
  h.mono fun a o h0 e => ⟨h0, k a o e fun z => hw (by rw [← z]; exact h0)⟩
theorem PcN.base {H0 H1 H : AHeap} {w : Addr} {p : Pc} {a : AV} (h : PcN H1 H p a) (hw : H1 w ≠ none) (k : Kp H0 H1 w) : PcN H0 H p a :=
  h.mono fun a o h0 e => ⟨kp_none k hw h0, e⟩
section
variable {d : Dt} {H : AHeap} {X : Int → AHeap → Prop} {Q : AV → AHeap → Prop} {w cl : Addr} {cells : List Int}
theorem small_c (d : Dt) (n : Nat) (hS : ∀ m, n = m + 1 → PSt d n) : PSm d n := by
  intro H X Q w cl cells h q
  obtain ⟨b, hb⟩ : ∃ b, b = 3 * n + 2 := ⟨_, rfl⟩
  rw [show 3 * n + 3 = b + 1 by exact Nat.le_antisymm (lin [_, _] (.a (.m 3 (.v 1)) (.n 3)) (.a (.v 0) (.n 1)) [((.a (.m 3 (.v 1)) (.n 2)), (.v 0))] (Nat.le_of_eq (Eq.symm hb)) rfl) (lin [_, _] (.a (.v 0) (.n 1)) (.a (.m 3 (.v 1)) (.n 3)) [((.v 0), (.a (.m 3 (.v 1)) (.n 2)))] (Nat.le_of_eq hb) rfl)]
  refine ac_fnL (ns := ["well", "deep"]) (by kernel_rfl) (fun _ _ => by show _ = _; kernel_rfl) (by kernel_rfl) ?_
  refine as_consL ?_
  intro Kq
  refine a1_assign (ae_fn (fa := 286) (by kernel_rfl) (by kernel_rfl) (aes_cons (ae_local rfl (aes_cons (ae_int (aes_nil ((c_draw (n := 4) h (by decide) fun k H1 hk W K => ?_).to (by exact lin [_, _] (.n 1) (.v 0) [((.a (.m 3 (.v 1)) (.n 2)), (.v 0))] (Nat.le_of_eq (Eq.symm hb)) rfl))))))))
  refine at_name ?_
  have hw1 : H1 w ≠ none := W.is
  refine as_consL ?_
  intro Kq
  refine a1_if (ab_of (z := decide (k = 0) && decide (0 < n)) (PB.as (pb_and (pb_cmp (pe_local rfl) pe_int rfl) fun _ => pb_and (pb_cmp (pe_local rfl) pe_int rfl) fun _ => pb_and_nil) ?_) ?_)
  · refine (congr (congrArg and (show ((k : Int) == 0) = decide (k = 0) by rw [Bool.eq_iff_iff, beq_iff_eq, decide_eq_true_eq]; omega)) (congrArg (· && true) (show decide ((0 : Int) < (n : Int)) = decide (0 < n) by rw [Bool.eq_iff_iff, decide_eq_true_eq, decide_eq_true_eq]; omega))).trans (by rw [Bool.and_true])
  cases z1 : (decide (k = 0) && decide (0 < n)) with
  | true =>
    obtain ⟨m, rfl⟩ : ∃ m, n = m + 1 := by
      have := of_decide_eq_true (Bool.and_eq_true_iff.mp z1).2
      exact ⟨n - 1, by omega⟩
    refine as_consL ?_
    intro Kq
    refine a1_return (ae_fn (fa := 300) (by kernel_rfl) (by kernel_rfl) (aes_cons (ae_local rfl (aes_cons (ae_local rfl (aes_nil (AC.to (b := 3 * (m + 1) + 2) (by exact lin [_, _] (.a (.m 3 (.a (.v 1) (.n 1))) (.n 2)) (.v 0) [((.a (.m 3 (.a (.v 1) (.n 1))) (.n 2)), (.v 0))] (Nat.le_of_eq (Eq.symm hb)) rfl) ?_)))))))
    exact hS m rfl H1 _ _ w cl cells W fun p a H' g hl W' K' N => q p a H' (.str g) hl W' (K.trans K') (N.base hw1 K)
  | false =>
    refine as_nil (as_consL ?_)
    intro Kq
    refine a1_if (ab_of (z := decide (k < 3)) (PB.as (pb_cmp (pe_local rfl) pe_int rfl) (decide_eq_decide.mpr (by omega))) ?_)
    by_cases z2 : k < 3
    · rw [decide_eq_true z2]
      refine as_consL ?_
      intro Kq
      refine a1_assign (ae_fn (fa := 293) (by kernel_rfl) (by kernel_rfl) (aes_cons (ae_local rfl (aes_cons (ae_of pe_words (aes_nil ((c_pick W (by rw [List.length_map]; decide) (by rw [List.length_map]; decide) fun a ha H2 W2 K2 => ?_).to (by exact lin [_, _] (.n 2) (.v 0) [((.a (.m 3 (.v 1)) (.n 2)), (.v 0))] (Nat.le_of_eq (Eq.symm hb)) rfl))))))))
      refine xl_EA (List.mem_map.mp ha) fun p hp zr1 => ?_; subst zr1
      refine at_tuple (as := [.str (S p.1), .str (S p.2)]) (ats_cons (at_name (ats_cons (at_name (ats_nil ?_)))))
      refine as_consL ?_
      intro Kq
      refine a1_return (ae_tuple (aes_cons (ae_local rfl (aes_cons (ae_local rfl (aes_cons (ae_int (aes_cons (ae_list (aes_nil ⟨Nat.le_of_ble_eq_true rfl, fun P hP => aes_nil ⟨Nat.le_of_ble_eq_true rfl, ?_⟩⟩))))))))))
      have kk := K.trans K2
      have hP2 : H2 P = none := hP
      refine q (wordPc p) _ _ (.word hp) ?_ (W2.kp (H' := H2) hP2) (kk.new hP2 _) (.mk (kp_none kk W2.is hP2) (AHeap.set_self ..) .nil)
      have := LS_ge n
      exact Nat.le_trans ((show ∀ p ∈ words, p.1.length ≤ 20 by decide) p hp) this
    · rw [decide_eq_false z2]
      refine as_nil (as_consL ?_)
      intro Kq
      refine a1_assign (ae_fn (fa := 293) (by kernel_rfl) (by kernel_rfl) (aes_cons (ae_local rfl (aes_cons (ae_of pe_numbers (aes_nil ((c_pick W (by rw [List.length_map]; decide) (by rw [List.length_map]; decide) fun a ha H2 W2 K2 => ?_).to (by exact lin [_, _] (.n 2) (.v 0) [((.a (.m 3 (.v 1)) (.n 2)), (.v 0))] (Nat.le_of_eq (Eq.symm hb)) rfl))))))))
      refine xl_EA (List.mem_map.mp ha) fun p hp zr2 => ?_; subst zr2
      refine at_tuple (as := [.str (S p.1), .int p.2]) (ats_cons (at_name (ats_cons (at_name (ats_nil ?_)))))
      refine as_consL ?_
      intro Kq
      refine a1_return (ae_tuple (aes_cons (ae_str (aes_cons (ae_local rfl (aes_cons (ae_local rfl (aes_cons (ae_list (aes_nil ⟨Nat.le_of_ble_eq_true rfl, fun P hP => aes_nil ⟨Nat.le_of_ble_eq_true rfl, ?_⟩⟩))))))))))
      have kk := K.trans K2
      have hP2 : H2 P = none := hP
      refine q (numPc p) _ _ (.num hp) ?_ (W2.kp (H' := H2) hP2) (kk.new hP2 _) (.mk (kp_none kk W2.is hP2) (AHeap.set_self ..) .nil)
      have := LS_ge n
      exact Nat.le_trans ((show ∀ p ∈ numbers, p.1.length ≤ 20 by decide) p hp) this
end
end Mine
end

section
open PySem PySem.W PySem.Calls PyProof.Rows Builtin.ObjectAttr
set_option maxHeartbeats 4000000
namespace Mine
theorem PcN.new {H0 H : AHeap} {p : Pc} {a : AV} (h : PcN H0 H p a) {l : Addr} (hl : H l = none) {o : AO} : PcN H0 (H.set l o) p a :=
  h.mono fun a o h0 e => ⟨h0, (AHeap.set_ne _ _ (ne_of e hl)).trans e⟩
theorem PcN.tup {H0 H : AHeap} {p : Pc} {a : AV} (h : PcN H0 H p a) : ∃ v P, a = .tup [.str (S p.kind), .str (S p.text), .int v, .ref P] := by
  cases h; exact ⟨_, _, rfl⟩
/-- the well stands, and nothing else has changed -/
structure Gw (H H' : AHeap) (w cl : Addr) (cells : List Int) : Prop where
  well : Well H' w cl cells
  kp : Kp H H' w
theorem Gw.new {H H' : AHeap} {w cl : Addr} {cells : List Int} (h : Gw H H' w cl cells) {l : Addr} (hl : H' l = none) {o : AO} : Gw H (H'.set l o) w cl cells := ⟨h.well.kp (H' := H') hl, h.kp.new hl o⟩
theorem Gw.none {H H' : AHeap} {w cl : Addr} {cells : List Int} (h : Gw H H' w cl cells) {l : Addr} (hl : H' l = none) : H l = none := kp_none h.kp h.well.is hl
section
variable {c : Cx} {sc : Scope} {b : Nat} {σ : St} {X : Int → St → Prop}
theorem pe_cat {l r : Expr} {p : Pos} {x y : List Nat} (h1 : PE c sc b l σ (.str (S x)) X) (h2 : PE c sc b r σ (.str (S y)) X) (hz : x.length + y.length ≤ 1000000) : PE c sc b (.BinOp l .Add r p) σ (.str (S (x ++ y))) X :=
  pe_bin h1 h2 ⟨by rw [S_len, S_len, sizeLine_eq]; exact lin [_, _] (.a (.v 0) (.v 1)) (.n 16777216) [((.a (.v 0) (.v 1)), (.n 1000000))] hz rfl, congrArg AV.str (S_append x y), rfl⟩
theorem pe_item1 {v : Str} {p p1 p2 : Pos} {kk : Nat} {H0 : AHeap} {q : Pc} {a : AV} (hv : σ.m.lookup v = some a) (hN : PcN H0 σ.H q a) (hl : sc.names.lookup v = some .local := by rfl) (hd : (v == ("__debug__" : Str)) = false := by decide)
    (hs : ∀ o i, subscripted (.Constant (.int 1) kk p1) false o i = operate [o, i] (getItem o i) := by intro _ _; rfl) : PE c sc b (.Subscript (.Name v p) (.Constant (.int 1) kk p1) p2) σ (.str (S q.text)) X := by
  refine xl_EE hN.tup fun w P zr1 => ?_; subst zr1
  exact ae_sub (ae_local hv (ae_int (subR_tup (i := 1) rfl (by decide) ⟨rfl, rfl⟩)) hl hd) hs
theorem ae_pc {k t : Str} {v : Int} {n1 n2 n3 k0 : Nat} {p1 p2 p3 p4 p : Pos} {Q : AV → St → Prop} (h : ∀ P, σ.H P = none → Q (.tup [.str k, .str t, .int v, .ref P]) ⟨σ.m, σ.H.set P (.list [])⟩) :
    AE c sc b (.Tuple [.Constant (.str k) n1 p1, .Constant (.str t) n2 p2, .Constant (.int v) n3 p3, .List [] p4] k0 p) σ Q X :=
  ae_tuple (aes_cons (ae_str (aes_cons (ae_str (aes_cons (ae_int (aes_cons (ae_list (aes_nil ⟨Nat.le_of_ble_eq_true rfl, fun P hP => aes_nil ⟨Nat.le_of_ble_eq_true rfl, h P hP⟩⟩)))))))))
end
theorem pcN_of {H0 H : AHeap} {P : Addr} (h : H P = none) (h0 : H0 P = none) {k t : List Nat} {v : Int} : PcN H0 (H.set P (.list [])) (.mk k t v .nil) (.tup [.str (S k), .str (S t), .int v, .ref P]) := .mk h0 (AHeap.set_self ..) .nil
theorem inner_c (d : Dt) (n : Nat) (hn : LS n ≤ 100000) (hS : PSm d n) : PIn d n := by
  intro H X Q w cl cells h q
  obtain ⟨b, hb⟩ : ∃ b, b = 3 * n + 3 := ⟨_, rfl⟩
  rw [show 3 * n + 4 = b + 1 by exact Nat.le_antisymm (lin [_, _] (.a (.m 3 (.v 1)) (.n 4)) (.a (.v 0) (.n 1)) [((.a (.m 3 (.v 1)) (.n 3)), (.v 0))] (Nat.le_of_eq (Eq.symm hb)) rfl) (lin [_, _] (.a (.v 0) (.n 1)) (.a (.m 3 (.v 1)) (.n 4)) [((.v 0), (.a (.m 3 (.v 1)) (.n 3)))] (Nat.le_of_eq hb) rfl)]
  refine ac_fnL (ns := ["well", "deep"]) (by kernel_rfl) (fun _ _ => by show _ = _; kernel_rfl) (by kernel_rfl) ?_
  refine as_consL ?_
  intro Kq
  refine a1_swap2 (x := "first") (y := "other") (fun env he => by cases env; cases he; rfl) ?_
  refine ae_tuple (aes_cons ?_)
  refine ae_fn (fa := 314) (by kernel_rfl) (by kernel_rfl) (aes_cons (ae_local rfl (aes_cons (ae_local rfl (aes_nil (AC.to (b := 3 * n + 3) (by exact lin [_, _] (.a (.m 3 (.v 1)) (.n 3)) (.v 0) [((.a (.m 3 (.v 1)) (.n 3)), (.v 0))] (Nat.le_of_eq (Eq.symm hb)) rfl) ?_))))))
  refine hS H _ _ w cl cells h fun p a H1 gp lp W1 K1 N1 => ?_
  refine aes_cons ?_
  refine ae_fn (fa := 314) (by kernel_rfl) (by kernel_rfl) (aes_cons (ae_local rfl (aes_cons (ae_local rfl (aes_nil (AC.to (b := 3 * n + 3) (by exact lin [_, _] (.a (.m 3 (.v 1)) (.n 3)) (.v 0) [((.a (.m 3 (.v 1)) (.n 3)), (.v 0))] (Nat.le_of_eq (Eq.symm hb)) rfl) ?_))))))
  refine hS H1 _ _ w cl cells W1 fun p' a' H2 gp' lp' W2 K2 N2 => ?_
  refine aes_nil ⟨Nat.le_of_ble_eq_true rfl, _, _, rfl, ?_⟩
  have hw := h.is
  have N1' := N1.go hw K2
  have N2' := N2.base W1.is K1
  have G2 : Gw H H2 w cl cells := ⟨W2, K1.trans K2⟩
  refine as_consL ?_
  intro Kq
  refine a1_assign (ae_fn (fa := 286) (by kernel_rfl) (by kernel_rfl) (aes_cons (ae_local rfl (aes_cons (ae_int (aes_nil ((c_draw (n := 4) W2 (by decide) fun k H3 hk W3 K3 => ?_).to (by exact lin [_, _] (.n 1) (.v 0) [((.a (.m 3 (.v 1)) (.n 3)), (.v 0))] (Nat.le_of_eq (Eq.symm hb)) rfl))))))))
  refine at_name ?_
  have A1 : PcN H H3 p a := N1'.go hw K3
  have A2 : PcN H H3 p' a' := N2'.go hw K3
  have G3 : Gw H H3 w cl cells := ⟨W3, G2.kp.trans K3⟩
  clear N1 N2 N1' N2' G2 K1 K2 K3 W1 W2 W3
  have lp2 : p.text.length ≤ 100000 := Nat.le_trans lp hn
  have lp2' : p'.text.length ≤ 100000 := Nat.le_trans lp' hn
  have is : ∀ j : Nat, ((k : Int) == (j : Nat)) = decide (k = j) := fun j => by rw [Bool.eq_iff_iff, beq_iff_eq, decide_eq_true_eq]; omega
  refine as_consL ?_
  intro Kq
  refine a1_if (ab_of (PB.as (pb_cmp (pe_local rfl) pe_int rfl) (is 0)) ?_)
  by_cases z0 : k = 0
  · rw [decide_eq_true z0]
    refine as_consL ?_
    intro Kq
    refine a1_return (ae_tuple (aes_cons (ae_of (pe_item1 rfl A1) (aes_cons (ae_list (aes_cons (ae_local rfl (aes_nil ⟨Nat.le_of_ble_eq_true rfl, fun l hl => aes_nil ⟨Nat.le_of_ble_eq_true rfl, ?_⟩⟩))))))))
    have hl3 : H3 l = none := hl
    have G4 := G3.new (o := .list [a]) hl3
    exact q _ _ l _ _ (.one gp) (by exact lin [_, _] (.v 0) (.a (.m 2 (.v 1)) (.n 10)) [((.v 0), (.v 1))] lp rfl) G4.well G4.kp (G3.none hl3) (AHeap.set_self ..) (.cons (A1.new hl3) .nil)
  rw [decide_eq_false z0]
  refine as_nil (as_consL ?_)
  intro Kq
  refine a1_if (ab_of (PB.as (pb_cmp (pe_local rfl) pe_int rfl) (is 1)) ?_)
  by_cases z1 : k = 1
  · rw [decide_eq_true z1]
    refine as_consL ?_
    intro Kq
    refine a1_return (ae_tuple (aes_cons (ae_of (pe_cat (pe_cat (pe_cat (x := [32]) pe_str (pe_item1 rfl A1) (by simp only [List.length_singleton]; exact lin [_] (.a (.n 1) (.v 0)) (.n 1000000) [((.v 0), (.n 100000))] lp2 rfl)) (y := [32, 43, 32]) pe_str (by simp only [List.length_append, List.length_singleton, List.length_cons, List.length_nil]; exact lin [_] (.a (.a (.n 1) (.v 0)) (.n 3)) (.n 1000000) [((.v 0), (.n 100000))] lp2 rfl)) (pe_item1 rfl A2) (by simp only [List.length_append, List.length_singleton, List.length_cons, List.length_nil]; exact lin [_, _] (.a (.a (.a (.n 1) (.v 0)) (.n 3)) (.v 1)) (.n 1000000) [((.v 0), (.n 100000)), ((.v 1), (.n 100000))] lp2 lp2' rfl)) ?_)))
    refine aes_cons (ae_list (aes_cons (ae_local rfl (aes_cons (ae_pc fun P hP => aes_cons (ae_local rfl (aes_nil ⟨Nat.le_of_ble_eq_true rfl, fun l hl => aes_nil ⟨Nat.le_of_ble_eq_true rfl, ?_⟩⟩)))))))
    have hP3 : H3 P = none := hP
    have G4 := G3.new (o := .list []) hP3
    have hl4 : (H3.set P (.list [])) l = none := hl
    have G5 := G4.new (o := .list [a, .tup [.str (S k_op), .str (S [43]), .int 0, .ref P], a']) hl4
    refine q _ _ l _ _ (.plus gp gp') ?_ G5.well G5.kp (G4.none hl4) (AHeap.set_self ..) (.cons ((A1.new hP3).new hl4) (.cons ((pcN_of hP3 (G3.none hP3)).new hl4) (.cons ((A2.new hP3).new hl4) .nil)))
    simp only [List.length_append, List.length_singleton, List.length_cons, List.length_nil]; exact lin [_, _, _] (.a (.a (.a (.n 1) (.v 0)) (.n 3)) (.v 2)) (.a (.m 2 (.v 1)) (.n 10)) [((.v 0), (.v 1)), ((.v 2), (.v 1))] lp lp' rfl
  rw [decide_eq_false z1]
  refine as_nil (as_consL ?_)
  intro Kq
  refine a1_swap2 (x := "left") (y := "right") (fun env he => by cases env; cases he; rfl) ?_
  refine ae_tuple (aes_cons (ae_pc fun P hP => aes_cons (ae_pc fun P' hP' => aes_nil ⟨Nat.le_of_ble_eq_true rfl, _, _, rfl, ?_⟩)))
  have hP3 : H3 P = none := hP
  have G4 := G3.new (o := .list []) hP3
  have hP4 : (H3.set P (.list [])) P' = none := hP'
  have G5 := G4.new (o := .list []) hP4
  have B1 := (A1.new (o := .list []) hP3).new (o := .list []) hP4
  have B2 := (pcN_of (k := k_punct) (t := [40]) (v := 0) hP3 (G3.none hP3)).new (o := .list []) hP4
  have B3 := (pcN_of (k := k_punct) (t := [41]) (v := 0) hP4 (G4.none hP4))
  generalize hH5 : (H3.set P (.list [])).set P' (.list []) = H5 at G5 B1 B2 B3
  refine as_consL ?_
  intro Kq
  refine a1_if (ab_of (PB.as (pb_cmp (pe_local rfl) pe_int rfl) (is 2)) ?_)
  by_cases z2 : k = 2
  · rw [decide_eq_true z2]
    refine as_consL ?_
    intro Kq
    refine a1_return (ae_tuple (aes_cons (ae_of (pe_cat (pe_cat (x := [102, 40]) pe_str (pe_item1 rfl B1) (by simp only [List.length_singleton, List.length_cons, List.length_nil]; exact lin [_] (.a (.n 2) (.v 0)) (.n 1000000) [((.v 0), (.n 100000))] lp2 rfl)) (y := [41]) pe_str (by simp only [List.length_append, List.length_singleton, List.length_cons, List.length_nil]; exact lin [_] (.a (.a (.n 2) (.v 0)) (.n 1)) (.n 1000000) [((.v 0), (.n 100000))] lp2 rfl)) ?_)))
    refine aes_cons (ae_list (aes_cons (ae_pc fun P2 hP2 => aes_cons (ae_local rfl (aes_cons (ae_local rfl (aes_cons (ae_local rfl (aes_nil ⟨Nat.le_of_ble_eq_true rfl, fun l hl => aes_nil ⟨Nat.le_of_ble_eq_true rfl, ?_⟩⟩)))))))))
    have hP5 : H5 P2 = none := hP2
    have G6 := G5.new (o := .list []) hP5
    have hl6 : (H5.set P2 (.list [])) l = none := hl
    have G7 := G6.new (o := .list [.tup [.str (S k_name), .str (S [102]), .int 0, .ref P2], .tup [.str (S k_punct), .str (S [40]), .int 0, .ref P], a, .tup [.str (S k_punct), .str (S [41]), .int 0, .ref P']]) hl6
    refine q _ _ l _ _ (.call gp) ?_ G7.well G7.kp (G6.none hl6) (AHeap.set_self ..) (.cons ((pcN_of hP5 (G5.none hP5)).new hl6) (.cons ((B2.new hP5).new hl6) (.cons ((B1.new hP5).new hl6) (.cons ((B3.new hP5).new hl6) .nil))))
    simp only [List.length_append, List.length_singleton, List.length_cons, List.length_nil]; exact lin [_, _] (.a (.a (.n 2) (.v 0)) (.n 1)) (.a (.m 2 (.v 1)) (.n 10)) [((.v 0), (.v 1))] lp rfl
  rw [decide_eq_false z2]
  refine as_nil (as_consL ?_)
  intro Kq
  refine a1_return (ae_tuple (aes_cons (ae_of (pe_cat (pe_cat (x := [40, 40]) pe_str (pe_item1 rfl B1) (by simp only [List.length_singleton, List.length_cons, List.length_nil]; exact lin [_] (.a (.n 2) (.v 0)) (.n 1000000) [((.v 0), (.n 100000))] lp2 rfl)) (y := [41, 32, 41]) pe_str (by simp only [List.length_append, List.length_singleton, List.length_cons, List.length_nil]; exact lin [_] (.a (.a (.n 2) (.v 0)) (.n 3)) (.n 1000000) [((.v 0), (.n 100000))] lp2 rfl)) ?_)))
  refine aes_cons (ae_list (aes_cons (ae_local rfl (aes_cons (ae_local rfl (aes_cons (ae_local rfl (aes_cons (ae_local rfl (aes_cons (ae_local rfl (aes_nil ⟨Nat.le_of_ble_eq_true rfl, fun l hl => aes_nil ⟨Nat.le_of_ble_eq_true rfl, ?_⟩⟩))))))))))))
  have hl5 : H5 l = none := hl
  have G6 := G5.new (o := .list [.tup [.str (S k_punct), .str (S [40]), .int 0, .ref P], .tup [.str (S k_punct), .str (S [40]), .int 0, .ref P], a, .tup [.str (S k_punct), .str (S [41]), .int 0, .ref P'], .tup [.str (S k_punct), .str (S [41]), .int 0, .ref P']]) hl5
  refine q _ _ l _ _ (.nest gp) ?_ G6.well G6.kp (G5.none hl5) (AHeap.set_self ..) (.cons (B2.new hl5) (.cons (B2.new hl5) (.cons (B1.new hl5) (.cons (B3.new hl5) (.cons (B3.new hl5) .nil)))))
  simp only [List.length_append, List.length_singleton, List.length_cons, List.length_nil]; exact lin [_, _] (.a (.a (.n 2) (.v 0)) (.n 3)) (.a (.m 2 (.v 1)) (.n 10)) [((.v 0), (.v 1))] lp rfl
end Mine
end

section
open PySem PySem.W PySem.Calls PyProof.Rows Builtin.ObjectAttr
set_option maxHeartbeats 4000000
namespace Mine
theorem bi_range (d : Dt) : nsIn (CC d).K mainGlobals "range" = some none := by kernel_rfl
theorem bo_range : bootBuiltins "range" = some (.type "range") := by kernel_rfl
theorem ae_range {d : Dt} {sc : Scope} {b : Nat} {σ : St} {X : Int → St → Prop} {p : Pos} {Q : AV → St → Prop} (h : Q (.ty "range") σ) (hl : sc.names.lookup ("range" : Str) = some .globalImplicit := by rfl) : AE (CC d) sc b (.Name "range" p) σ Q X :=
  ae_builtin (a := .ty "range") (v := .type "range") (bi_range d) bo_range (fun _ => .ty _) h (by decide) hl
theorem PPsN.go {H0 H H' : AHeap} {p : PPs} {a : List AV} (h : PPsN H0 H p a) (k : ∀ a o, H0 a = none → H a = some o → H' a = some o) : PPsN H0 H' p a :=
  h.mono fun a o h0 e => ⟨h0, k a o h0 e⟩
theorem string_c (d : Dt) (n : Nat) (hn : LS (n + 1) ≤ 100000) (hI : PIn d n) : PSt d (n + 1) := by
  intro H X Q w cl cells h q
  obtain ⟨b, hb⟩ : ∃ b, b = 3 * n + 4 := ⟨_, rfl⟩
  rw [show 3 * (n + 1) + 2 = b + 1 by exact Nat.le_antisymm (lin [_, _] (.a (.m 3 (.a (.v 1) (.n 1))) (.n 2)) (.a (.v 0) (.n 1)) [((.a (.m 3 (.v 1)) (.n 4)), (.v 0))] (Nat.le_of_eq (Eq.symm hb)) rfl) (lin [_, _] (.a (.v 0) (.n 1)) (.a (.m 3 (.a (.v 1) (.n 1))) (.n 2)) [((.v 0), (.a (.m 3 (.v 1)) (.n 4)))] (Nat.le_of_eq hb) rfl)]
  obtain ⟨B, hB⟩ : ∃ B, B = 2 * LS n + 20 := ⟨_, rfl⟩
  have hLS : LS (n + 1) = 3 * B + 2 := by rw [hB]; rfl
  refine ac_fnL (ns := ["well", "deep"]) (by kernel_rfl) (fun _ _ => by show _ = _; kernel_rfl) (by kernel_rfl) ?_
  refine as_consL ?_
  intro Kq
  refine a1_swap3 (x := "text") (y := "parts") (z := "plain") (fun env he => by cases env; cases he; rfl) ?_
  refine ae_tuple (aes_cons (ae_str (aes_cons (ae_list (aes_nil ⟨Nat.le_of_ble_eq_true rfl, fun P1 hP1 => ?_⟩)))))
  refine aes_cons (ae_str (aes_nil ⟨Nat.le_of_ble_eq_true rfl, _, _, _, rfl, ?_⟩))
  have hP0 : H P1 = none := hP1
  have W1 : Well (H.set P1 (.list [])) w cl cells := Well.kp (H' := H) h hP0
  have hPw : P1 ≠ w := fun e => h.is (e ▸ hP0)
  have hP1s : (H.set P1 (.list [])) P1 = some (.list []) := AHeap.set_self ..
  have K1 : Kp H (H.set P1 (.list [])) w := (Kp.refl H w).new hP0 _
  refine as_consL ?_
  intro Kq
  refine a1_for (asrc_range (ae_range ⟨rfl, ?_⟩))
  refine ae_fn (fa := 286) (by kernel_rfl) (by kernel_rfl) (aes_cons (ae_local rfl (aes_cons (ae_int (aes_nil ((c_draw (n := 4) W1 (by decide) fun k H2 hk W2 K2 => ?_).to (by exact lin [_, _] (.n 1) (.v 0) [((.a (.m 3 (.v 1)) (.n 4)), (.v 0))] (Nat.le_of_eq (Eq.symm hb)) rfl)))))))
  refine ⟨(k : Int), rfl, by exact linI [] [_] (.a (.c (.v 0)) (.n 1)) (.n 1099511627776) [((.c (.a (.v 0) (.n 1))), (.c (.n 4)))] (Int.ofNat_le.mpr hk) rfl, by exact linI [] [_] (.a (.n (-1099511627776)) (.n 1)) (.c (.v 0)) []  rfl, trivial, ?_⟩
  rw [Int.toNat_natCast]
  have hP2 : H2 P1 = some (.list []) := K2 P1 _ hP1s hPw
  have K12 : Kp H H2 w := K1.trans K2
  have hw2 : H2 w ≠ none := W2.is
  have hP2n : H2 P1 ≠ none := by rw [hP2]; simp
  have kall : ∀ {Hc : AHeap}, Kp2 H2 Hc w P1 → Kp H Hc w := fun hk a o e n => hk a o (K12 a o e n) n (ne_of e hP0)
  refine turns_ind (β := Nat) (γ := List Nat × PPs × List Nat × List AV × AHeap × List (Str × AV)) (fun i => AV.int i) (fun g => ⟨g.2.2.2.2.2, g.2.2.2.2.1⟩)
    (fun ys g => GB (n + 1) g.1 g.2.1 g.2.2.1 ∧ Well g.2.2.2.2.1 w cl cells ∧ Kp2 H2 g.2.2.2.2.1 w P1 ∧ g.2.2.2.2.1 P1 = some (.list g.2.2.2.1) ∧ PPsN H2 g.2.2.2.2.1 g.2.1 g.2.2.2.1 ∧ g.1.length + ys.length * B ≤ 3 * B ∧ g.2.2.1.length + 2 * ys.length ≤ 6 ∧ g.2.2.2.1.length + 2 * ys.length ≤ 6 ∧
      g.2.2.2.2.2.lookup ("well" : Str) = some (AV.ref w) ∧ g.2.2.2.2.2.lookup ("deep" : Str) = some (AV.int ((n + 1 : Nat) : Int)) ∧ g.2.2.2.2.2.lookup ("text" : Str) = some (.str (S (34 :: g.1))) ∧ g.2.2.2.2.2.lookup ("parts" : Str) = some (AV.ref P1) ∧ g.2.2.2.2.2.lookup ("plain" : Str) = some (.str (S g.2.2.1)))
    (tup6 fun x ps pl avs Hc m hg => ?_) (fun i ys => tup6 fun x ps pl avs Hc m hg ih => ?_) (List.range k) ([], .nil, [], [], H2, _) ⟨.nil, W2, Kp2.refl H2 w P1, hP2, .nil, ?_, by simp; exact lin [_] (.m 2 (.v 0)) (.n 6) [((.a (.v 0) (.n 1)), (.n 4)), ((.a (.v 0) (.n 1)), (.n 4))] hk hk rfl, by simp; exact lin [_] (.m 2 (.v 0)) (.n 6) [((.a (.v 0) (.n 1)), (.n 4)), ((.a (.v 0) (.n 1)), (.n 4))] hk hk rfl, rfl, rfl, rfl, rfl, rfl⟩
  rotate_left 2
  · simp only [List.length_nil, List.length_range]
    have := Nat.mul_le_mul_right B (show k ≤ 3 by exact lin [_] (.v 0) (.n 3) [((.a (.v 0) (.n 1)), (.n 4))] hk rfl)
    omega
  · refine xl_AAAAAAAAAAAA hg fun gb W kp p1 pn xl pll al m1 m2 m3 m4 m5 => ?_; try clear hg
    dsimp only at gb W kp p1 pn xl pll al m1 m2 m3 m4 m5
    simp only [List.length_nil, Nat.zero_mul, Nat.add_zero, Nat.mul_zero] at xl pll al
    refine as_consL ?_
    intro Kq
    refine a1_return (ae_tuple (aes_cons (ae_str (aes_cons (ae_of (pe_cat (y := [34]) (pe_local m3) pe_str (by simp only [List.length_cons, List.length_nil]; omega)) (aes_cons (ae_int ?_)))))))
    refine aes_cons (ae_bin2 (ae_local m4 (ae_list (aes_cons (ae_local m5 (aes_nil ⟨Nat.le_of_ble_eq_true rfl, fun l hl => ?_⟩))))))
    have hlc : Hc l = none := hl
    refine ⟨avs, [.str (S pl)], (AHeap.set_ne _ _ (ne_of p1 hlc)).trans p1, AHeap.set_self .., by simp only [List.length_singleton]; exact lin [_] (.a (.v 0) (.n 1)) (.n 1000000) [((.v 0), (.n 6))] al rfl, fun pp hpp => aes_nil ⟨Nat.le_of_ble_eq_true rfl, ?_⟩⟩
    have hppc : (Hc.set l (.list [.str (S pl)])) pp = none := hpp
    have W4 : Well ((Hc.set l (.list [.str (S pl)])).set pp (.list (avs ++ [.str (S pl)]))) w cl cells := Well.kp (H' := H) (Well.kp (H' := H) W hlc) hppc
    have Kz : ∀ a o, Hc a = some o → ((Hc.set l (.list [.str (S pl)])).set pp (.list (avs ++ [.str (S pl)]))) a = some o := fun a o e => by
      have e1 := (AHeap.set_ne _ (.list [.str (S pl)]) (ne_of e hlc)).trans e
      exact (AHeap.set_ne _ _ (ne_of e1 hppc)).trans e1
    have hpp0 : H pp = none := by
      cases e : H pp with
      | none => rfl
      | some o =>
        by_cases z : pp = w
        · subst z; exact absurd hppc (Well.kp (H' := H) W hlc).is
        · have e1 := kall kp pp o e z
          have e2 := (AHeap.set_ne _ (.list [.str (S pl)]) (ne_of e1 hlc)).trans e1
          rw [hppc] at e2; injection e2
    refine q (.mk k_string (34 :: (x ++ [34])) 0 (ps.app (.txt pl .nil))) _ _ (.mk gb) ?_ W4 (fun a o e n => Kz a o (kall kp a o e n)) (.mk hpp0 (AHeap.set_self ..) (PPsN.app (pn.mono fun a o h0 e => ⟨kp_none K12 hw2 h0, Kz a o e⟩) (.txt .nil)))
    show (34 :: (x ++ [34])).length ≤ _
    simp only [List.length_cons, List.length_append, List.length_nil]; omega
  · refine xl_AAAAAAAAAAAA hg fun gb W kp p1 pn xl pll al m1 m2 m3 m4 m5 => ?_; try clear hg
    dsimp only at gb W kp p1 pn xl pll al m1 m2 m3 m4 m5
    simp only [List.length_cons] at xl pll al
    rw [Nat.add_mul, Nat.one_mul] at xl
    refine at_name ?_
    have n1 : ∀ {v : AV}, (fput m "turn" v).lookup ("well" : Str) = some (.ref w) := look_ne m1
    have n2 : ∀ {v : AV}, (fput m "turn" v).lookup ("deep" : Str) = some (.int ((n + 1 : Nat) : Int)) := look_ne m2
    have n3 : ∀ {v : AV}, (fput m "turn" v).lookup ("text" : Str) = some (.str (S (34 :: x))) := look_ne m3
    have n4 : ∀ {v : AV}, (fput m "turn" v).lookup ("parts" : Str) = some (.ref P1) := look_ne m4
    have n5 : ∀ {v : AV}, (fput m "turn" v).lookup ("plain" : Str) = some (.str (S pl)) := look_ne m5
    refine as_consL ?_
    intro Kq
    refine a1_if (ab_and (ab_of (z := true) (PB.as (pb_cmp (pe_local n2) pe_int rfl) (decide_eq_true (by exact linI [] [_] (.a (.n 0) (.n 1)) (.c (.a (.v 0) (.n 1))) []  rfl))) ?_))
    refine ab_and (ab_cmp2 ?_)
    refine ae_fn (fa := 286) (by kernel_rfl) (by kernel_rfl) (aes_cons (ae_local n1 (aes_cons (ae_int (aes_nil ((c_draw (n := 3) W (by decide) fun k3 H3 hk3 W3 K3 => ?_).to (by exact lin [_, _] (.n 1) (.v 0) [((.a (.m 3 (.v 1)) (.n 4)), (.v 0))] (Nat.le_of_eq (Eq.symm hb)) rfl)))))))
    refine ae_int ⟨decide (k3 = 0), (show some ((k3 : Int) == 0) = _ by congr 1; rw [Bool.eq_iff_iff, beq_iff_eq, decide_eq_true_eq]; omega), ?_⟩
    have kp3 : Kp2 H2 H3 w P1 := fun a o e n m => K3 a o (kp a o e n m) n
    have p13 : H3 P1 = some (.list avs) := K3 P1 _ p1 hPw
    have pn3 : PPsN H2 H3 ps avs := pn.go fun a o h0 e => K3 a o e fun z => hw2 (by rw [← z]; exact h0)
    by_cases z3 : k3 = 0
    · rw [decide_eq_true z3]
      refine ab_and_nil ?_
      refine as_consL ?_
      intro Kq
      refine a1_assign (ae_fn (fa := 307) (by kernel_rfl) (by kernel_rfl) (aes_cons (ae_local n1 (aes_cons (ae_of (pe_bin (r' := .int (n : Int)) (pe_local n2) pe_int ⟨congrArg AV.int (by exact Int.le_antisymm (linI [] [_] (.s (.c (.a (.v 0) (.n 1))) (.n 1)) (.c (.v 0)) []  rfl) (linI [] [_] (.c (.v 0)) (.s (.c (.a (.v 0) (.n 1))) (.n 1)) []  rfl)), rfl⟩) (aes_nil (AC.to (b := 3 * n + 4) (by exact lin [_, _] (.a (.m 3 (.v 1)) (.n 4)) (.v 0) [((.a (.m 3 (.v 1)) (.n 4)), (.v 0))] (Nat.le_of_eq (Eq.symm hb)) rfl) ?_)))))))
      refine hI H3 _ _ w cl cells W3 fun y rows l ks H4 gi yl W4 K4 hl hlk rn => ?_
      refine at_tuple (ats_cons (at_name (ats_cons (at_name (ats_nil ?_)))))
      have o1 : ∀ {v u t : AV}, (fput (fput (fput m "turn" v) "inner" u) "rows" t).lookup ("well" : Str) = some (.ref w) := look_ne (look_ne n1)
      have o2 : ∀ {v u t : AV}, (fput (fput (fput m "turn" v) "inner" u) "rows" t).lookup ("deep" : Str) = some (.int ((n + 1 : Nat) : Int)) := look_ne (look_ne n2)
      have o3 : ∀ {v u t : AV}, (fput (fput (fput m "turn" v) "inner" u) "rows" t).lookup ("text" : Str) = some (.str (S (34 :: x))) := look_ne (look_ne n3)
      have o4 : ∀ {v u t : AV}, (fput (fput (fput m "turn" v) "inner" u) "rows" t).lookup ("parts" : Str) = some (.ref P1) := look_ne (look_ne n4)
      have o5 : ∀ {v u t : AV}, (fput (fput (fput m "turn" v) "inner" u) "rows" t).lookup ("plain" : Str) = some (.str (S pl)) := look_ne (look_ne n5)
      have o6 : ∀ {v u t : AV}, (fput (fput (fput m "turn" v) "inner" u) "rows" t).lookup ("inner" : Str) = some u := look_ne look_eq
      have o7 : ∀ {v u t : AV}, (fput (fput (fput m "turn" v) "inner" u) "rows" t).lookup ("rows" : Str) = some t := look_eq
      refine as_consL ?_
      intro Kq
      refine a1_assign (ae_of (pe_cat (y := [41]) (pe_cat (pe_cat (y := [92, 40]) (pe_local o3) pe_str (by simp only [List.length_cons, List.length_nil]; omega)) (pe_local o6) (by simp only [List.length_cons, List.length_append, List.length_nil]; omega)) pe_str (by simp only [List.length_cons, List.length_append, List.length_nil]; omega)) (at_name ?_))
      have p14 : H4 P1 = some (.list avs) := K4 P1 _ p13 hPw
      refine as_consL ?_
      intro Kq
      refine a1_expr (ae_meth (ae_local (look_ne o4) ⟨.bi "list.extend", [.ref P1], mr_list p14 PySem.F.slot_list_extend PySem.F.type_list_extend, rfl, aes_cons (ae_list (aes_cons (ae_local (look_ne o5) (aes_cons (ae_local (look_ne o7) (aes_nil ⟨Nat.le_of_ble_eq_true rfl, fun l2 hl2 => ?_⟩))))))⟩))
      have hl2' : H4 l2 = none := hl2
      refine aes_nil (acw_extend (as := avs) (bs := [.str (S pl), .ref l]) ((AHeap.set_ne _ _ (ne_of p14 hl2')).trans p14) (AHeap.set_self ..) (by omega) (Nat.le_of_ble_eq_true rfl) ?_)
      have Kl : ∀ a o, H4 a = some o → a ≠ P1 → ((AHeap.set H4 l2 (.list [.str (S pl), .ref l])).set P1 (.list (avs ++ [.str (S pl), .ref l]))) a = some o := fun a o e n => by
        rw [AHeap.set_ne _ _ n, AHeap.set_ne _ _ (ne_of e hl2')]; exact e
      have g2 : ∀ {a : Addr}, H3 a = none → H2 a = none := fun {a} e => none_back (x := w) (L := P1) (H := H2) (H' := H3) (Option.ne_none_iff_exists'.mp hw2).choose_spec hP2 kp3 e W3.is (by rw [p13]; simp)
      have lP1 : l ≠ P1 := fun z => by rw [z, p13] at hl; injection hl
      have sub : ∀ a, H2 a = none → a ≠ P1 := fun a e z => by rw [z, hP2] at e; injection e
      have subw : ∀ a, H2 a = none → a ≠ w := fun a e z => hw2 (by rw [← z]; exact e)
      have W5 : Well ((AHeap.set H4 l2 (.list [.str (S pl), .ref l])).set P1 (.list (avs ++ [.str (S pl), .ref l]))) w cl cells := by
        refine xl_EEAA W4.hw fun at' mix e i1 i2 => ?_
        have hclP : cl ≠ P1 := fun z => by
          have := W1.hc; rw [z, hP1s] at this
          have q1 : cells.map AV.int = [] := by cases this' : cells.map AV.int with | nil => rfl | cons a r => rw [this'] at this; cases this
          have := h.hc; rw [z, hP0] at this; injection this
        exact ⟨Kl _ _ W4.hc hclP, ⟨at', mix, Kl _ _ e hPw.symm, i1, i2⟩, h.nn, h.len, h.ne⟩
      refine as_consL ?_
      intro Kq
      refine a1_assign (ae_str (at_name (as_nil (as_nil ⟨trivial, ?_⟩))))
      refine ih (x ++ ([92, 40] ++ y ++ [41]), ps.app (.txt pl (.pcs rows .nil)), [], avs ++ [.str (S pl), .ref l], _, _) ⟨.inn gb gi, W5, fun a o e n m => Kl a o (K4 a o (kp3 a o e n m) n) m, AHeap.set_self .., PPsN.app (pn3.go fun a o h0 e => Kl a o (K4 a o e (subw a h0)) (sub a h0)) (.txt (.pcs (g2 hl) (Kl _ _ hlk lP1) (rn.mono fun a o h0 e => ⟨g2 h0, Kl a o e (sub a (g2 h0))⟩) .nil)), ?_, ?_, ?_, look_ne (look_ne o1), look_ne (look_ne o2), ?_, look_ne (look_ne o4), look_eq⟩
      · simp only [List.length_cons, List.length_append, List.length_nil]; exact lin [_, _, _, _, _] (.a (.a (.v 2) (.a (.a (.n 2) (.v 4)) (.n 1))) (.v 3)) (.m 3 (.v 0)) [((.a (.m 2 (.v 1)) (.n 20)), (.v 0)), ((.a (.v 2) (.a (.v 3) (.v 0))), (.m 3 (.v 0))), ((.v 4), (.a (.m 2 (.v 1)) (.n 10)))] (Nat.le_of_eq (Eq.symm hB)) xl yl rfl
      · simp only [List.length_nil]; exact lin [_, _] (.a (.n 0) (.m 2 (.v 1))) (.n 6) [((.a (.v 0) (.m 2 (.a (.v 1) (.n 1)))), (.n 6))] pll rfl
      · simp only [List.length_cons, List.length_append, List.length_nil]; exact lin [_, _] (.a (.a (.v 0) (.n 2)) (.m 2 (.v 1))) (.n 6) [((.a (.v 0) (.m 2 (.a (.v 1) (.n 1)))), (.n 6))] al rfl
      · refine (look_ne look_eq).trans (congrArg some (congrArg AV.str (congrArg S ?_)))
        simp
    · rw [decide_eq_false z3]
      refine as_consL ?_
      intro Kq
      refine a1_assign (ae_fn (fa := 293) (by kernel_rfl) (by kernel_rfl) (aes_cons (ae_local n1 (aes_cons (ae_of pe_signs (aes_nil ((c_pick W3 (by rw [List.length_map]; decide) (by rw [List.length_map]; decide) fun a ha H4 W4 K4 => ?_).to (by exact lin [_, _] (.n 2) (.v 0) [((.a (.m 3 (.v 1)) (.n 4)), (.v 0))] (Nat.le_of_eq (Eq.symm hb)) rfl))))))))
      refine xl_EA (List.mem_map.mp ha) fun p hp zr1 => ?_; subst zr1
      have hpl := (show ∀ p ∈ signs, p.1.length ≤ 9 ∧ p.2.length ≤ 2 by decide) p hp
      refine at_tuple (as := [.str (S p.1), .str (S p.2)]) (ats_cons (at_name (ats_cons (at_name (ats_nil ?_)))))
      have o1 : ∀ {v u t : AV}, (fput (fput (fput m "turn" v) "raw" u) "sign" t).lookup ("well" : Str) = some (.ref w) := look_ne (look_ne n1)
      have o2 : ∀ {v u t : AV}, (fput (fput (fput m "turn" v) "raw" u) "sign" t).lookup ("deep" : Str) = some (.int ((n + 1 : Nat) : Int)) := look_ne (look_ne n2)
      have o3 : ∀ {v u t : AV}, (fput (fput (fput m "turn" v) "raw" u) "sign" t).lookup ("text" : Str) = some (.str (S (34 :: x))) := look_ne (look_ne n3)
      have o4 : ∀ {v u t : AV}, (fput (fput (fput m "turn" v) "raw" u) "sign" t).lookup ("parts" : Str) = some (.ref P1) := look_ne (look_ne n4)
      have o5 : ∀ {v u t : AV}, (fput (fput (fput m "turn" v) "raw" u) "sign" t).lookup ("plain" : Str) = some (.str (S pl)) := look_ne (look_ne n5)
      have o6 : ∀ {v u t : AV}, (fput (fput (fput m "turn" v) "raw" u) "sign" t).lookup ("raw" : Str) = some u := look_ne look_eq
      have o7 : ∀ {v u t : AV}, (fput (fput (fput m "turn" v) "raw" u) "sign" t).lookup ("sign" : Str) = some t := look_eq
      refine as_consL ?_
      intro Kq
      refine a1_swap2 (x := "text") (y := "plain") (fun env he => by cases env; cases he; rfl) ?_
      refine ae_tuple (aes_cons (ae_of (pe_cat (pe_local o3) (pe_local o6) (by simp only [List.length_cons]; omega)) (aes_cons (ae_of (pe_cat (pe_local o5) (pe_local o7) (by omega)) (aes_nil ⟨Nat.le_of_ble_eq_true rfl, _, _, rfl, as_nil (as_nil ⟨trivial, ?_⟩)⟩)))))
      refine ih (x ++ p.1, ps, pl ++ p.2, avs, _, _) ⟨.raw gb hp, W4, fun a o e n m => K4 a o (kp3 a o e n m) n, K4 _ _ p13 hPw, pn3.go fun a o h0 e => K4 a o e fun z => hw2 (by rw [← z]; exact h0), ?_, ?_, ?_, look_ne (look_ne o1), look_ne (look_ne o2), look_eq, look_ne (look_ne o4), look_ne look_eq⟩
      · simp only [List.length_append]; omega
      · simp only [List.length_append]; omega
      · show avs.length + 2 * ys.length ≤ 6; exact lin [_, _] (.a (.v 0) (.m 2 (.v 1))) (.n 6) [((.a (.v 0) (.m 2 (.a (.v 1) (.n 1)))), (.n 6))] al rfl
theorem LS1 : LS 1 ≤ 100000 := by decide
theorem LS2 : LS 2 ≤ 100000 := by decide
theorem small0 (d : Dt) : PSm d 0 := small_c d 0 fun m e => nomatch e
theorem string1 (d : Dt) : PSt d 1 := string_c d 0 LS1 (inner_c d 0 (by decide) (small0 d))
theorem small1 (d : Dt) : PSm d 1 := small_c d 1 fun m e => string1 d
theorem string2 (d : Dt) : PSt d 2 := string_c d 1 LS2 (inner_c d 1 (by decide) (small1 d))
end Mine
end

section
open PySem PySem.W PySem.Calls PyProof.Rows Builtin.ObjectAttr
set_option maxHeartbeats 4000000
namespace Mine
/-- what _law_piece may give -/
inductive GP : Pc → Prop
  | small {p : Pc} : GS 0 p → GP p
  | op {o : List Nat} : o ∈ opsT → GP (opPc o)
  | pun {o : List Nat} : o ∈ punctsT → GP (punPc o)
  | str {p : Pc} : GStr 2 p → GP p
noncomputable def isW (k : List Nat) : Bool := k == k_name || k == k_keyword || k == k_int
noncomputable def isDA (x : List Nat) : Bool := x == [46] || x == [45, 62]
noncomputable def signOf (p : Pc) : Bool := p.kind == k_op || isDA p.text
noncomputable def isEQ (x : List Nat) : Bool := x == [33] || x == [63]
noncomputable def gapOf (p q : Pc) (g : List Nat) : List Nat :=
  if g == [] && ((isW p.kind && isW q.kind) || (signOf p && signOf q && !(isEQ p.text && q.text == [46]))) then [32]
  else if p.kind == k_op && g.take 1 == [47] then 32 :: g else g
section
variable {c : Cx} {sc : Scope} {b : Nat} {σ : St} {X : Int → St → Prop}
theorem pe_item0p {v : Str} {p p1 p2 : Pos} {kk : Nat} {H0 H : AHeap} {q : Pc} {a : AV} (hv : σ.m.lookup v = some a) (hN : PcN H0 H q a) (hl : sc.names.lookup v = some .local := by rfl) (hd : (v == ("__debug__" : Str)) = false := by decide)
    (hs : ∀ o i, subscripted (.Constant (.int 0) kk p1) false o i = operate [o, i] (getItem o i) := by intro _ _; rfl) : PE c sc b (.Subscript (.Name v p) (.Constant (.int 0) kk p1) p2) σ (.str (S q.kind)) X := by
  refine xl_EE hN.tup fun w P zr1 => ?_; subst zr1
  exact ae_sub (ae_local hv (ae_int (subR_tup (i := 0) rfl (by decide) ⟨rfl, rfl⟩)) hl hd) hs
theorem pe_item1p {v : Str} {p p1 p2 : Pos} {kk : Nat} {H0 H : AHeap} {q : Pc} {a : AV} (hv : σ.m.lookup v = some a) (hN : PcN H0 H q a) (hl : sc.names.lookup v = some .local := by rfl) (hd : (v == ("__debug__" : Str)) = false := by decide)
    (hs : ∀ o i, subscripted (.Constant (.int 1) kk p1) false o i = operate [o, i] (getItem o i) := by intro _ _; rfl) : PE c sc b (.Subscript (.Name v p) (.Constant (.int 1) kk p1) p2) σ (.str (S q.text)) X := by
  refine xl_EE hN.tup fun w P zr2 => ?_; subst zr2
  exact ae_sub (ae_local hv (ae_int (subR_tup (i := 1) rfl (by decide) ⟨rfl, rfl⟩)) hl hd) hs
theorem pe_tuple3 {x y z : Str} {k k1 k2 k3 : Nat} {p p1 p2 p3 : Pos} : PE c sc b (.Tuple [.Constant (.str x) k1 p1, .Constant (.str y) k2 p2, .Constant (.str z) k3 p3] k p) σ (.tup [.str x, .str y, .str z]) X :=
  ae_tuple (aes_cons (ae_str (aes_cons (ae_str (aes_cons (ae_str (aes_nil ⟨Nat.le_of_ble_eq_true rfl, rfl, rfl⟩)))))))
theorem pb_var {v : Str} {p : Pos} {z : Bool} (hv : σ.m.lookup v = some (.bool z)) (hl : sc.names.lookup v = some .local := by rfl) (hd : (v == ("__debug__" : Str)) = false := by decide) (he : ∀ env whole, isTrue (.Name v p) env whole = (do let u ← whole; standAt (Expr.Name v p).pos; holding [u] (truthy u)) := by intro _ _; rfl) : PB c sc b (.Name v p) σ z X :=
  ab_val (ae_local hv ⟨z, rfl, rfl, rfl⟩ hl hd) he
end
theorem contains3 (l a b c : List Nat) : (([S a, S b, S c] : List Str).contains (S l)) = (l == a || l == b || l == c) := by
  simp only [List.contains_cons, S_eq, List.contains_nil, Bool.or_false, Bool.or_assoc]
section
variable {d : Dt} {H : AHeap} {X : Int → AHeap → Prop} {Q : AV → AHeap → Prop} {w cl : Addr} {cells : List Int}
/-- _law_piece(well) -/
theorem c_piece (h : Well H w cl cells) (q : ∀ p a H', GP p → p.text.length ≤ LS 2 → Well H' w cl cells → Kp H H' w → PcN H H' p a → Q a H') : AC (CC d) 9 (.ref 321) [.ref w] H Q X := by
  refine ac_fnL (ns := ["well"]) (by kernel_rfl) (fun _ => by show _ = _; kernel_rfl) (by kernel_rfl) ?_
  refine as_consL ?_
  intro Kq
  refine a1_assign (ae_fn (fa := 286) (by kernel_rfl) (by kernel_rfl) (aes_cons (ae_local rfl (aes_cons (ae_int (aes_nil ((c_draw (n := 8) h (by decide) fun k H1 hk W K => ?_).to (by decide))))))))
  refine at_name ?_
  have hw1 : H1 w ≠ none := W.is
  have is : ∀ j : Nat, decide ((k : Int) < (j : Nat)) = decide (k < j) := fun j => by rw [Bool.eq_iff_iff, decide_eq_true_eq, decide_eq_true_eq]; omega
  refine as_consL ?_
  intro Kq
  refine a1_if (ab_of (PB.as (pb_cmp (pe_local rfl) pe_int rfl) (is 3)) ?_)
  by_cases z1 : k < 3
  · rw [decide_eq_true z1]
    refine as_consL ?_
    intro Kq
    refine a1_return (ae_fn (fa := 314) (by kernel_rfl) (by kernel_rfl) (aes_cons (ae_local rfl (aes_cons (ae_int (aes_nil (AC.to (b := 3 * 0 + 3) (by decide) ?_)))))))
    exact small0 d H1 _ _ w cl cells W fun p a H' g hl W' K' N => q p a H' (.small g) (Nat.le_trans hl (by decide)) W' (K.trans K') (N.base hw1 K)
  rw [decide_eq_false z1]
  refine as_nil (as_consL ?_)
  intro Kq
  refine a1_if (ab_of (PB.as (pb_cmp (pe_local rfl) pe_int rfl) (is 5)) ?_)
  by_cases z2 : k < 5
  · rw [decide_eq_true z2]
    refine as_consL ?_
    intro Kq
    refine a1_return (ae_tuple (aes_cons (ae_str (aes_cons ?_))))
    refine ae_fn (fa := 293) (by kernel_rfl) (by kernel_rfl) (aes_cons (ae_local rfl (aes_cons (ae_of pe_ops (aes_nil ((c_pick W (by rw [List.length_map]; decide) (by rw [List.length_map]; decide) fun a ha H2 W2 K2 => ?_).to (by decide)))))))
    refine xl_EA (List.mem_map.mp ha) fun o ho zr3 => ?_; subst zr3
    refine aes_cons (ae_int (aes_cons (ae_list (aes_nil ⟨Nat.le_of_ble_eq_true rfl, fun P hP => aes_nil ⟨Nat.le_of_ble_eq_true rfl, ?_⟩⟩))))
    have hP2 : H2 P = none := hP
    have kk := K.trans K2
    refine q (opPc o) _ _ (.op ho) ?_ (Well.kp (H' := H2) W2 hP2) (kk.new hP2 _) (.mk (kp_none kk W2.is hP2) (AHeap.set_self ..) .nil)
    exact Nat.le_trans ((show ∀ p ∈ opsT, p.length ≤ 20 by decide) o ho) (LS_ge 2)
  rw [decide_eq_false z2]
  refine as_nil (as_consL ?_)
  intro Kq
  refine a1_if (ab_of (PB.as (pb_cmp (pe_local rfl) pe_int rfl) (is 7)) ?_)
  by_cases z3 : k < 7
  · rw [decide_eq_true z3]
    refine as_consL ?_
    intro Kq
    refine a1_return (ae_tuple (aes_cons (ae_str (aes_cons ?_))))
    refine ae_fn (fa := 293) (by kernel_rfl) (by kernel_rfl) (aes_cons (ae_local rfl (aes_cons (ae_of pe_puncts (aes_nil ((c_pick W (by rw [List.length_map]; decide) (by rw [List.length_map]; decide) fun a ha H2 W2 K2 => ?_).to (by decide)))))))
    refine xl_EA (List.mem_map.mp ha) fun o ho zr4 => ?_; subst zr4
    refine aes_cons (ae_int (aes_cons (ae_list (aes_nil ⟨Nat.le_of_ble_eq_true rfl, fun P hP => aes_nil ⟨Nat.le_of_ble_eq_true rfl, ?_⟩⟩))))
    have hP2 : H2 P = none := hP
    have kk := K.trans K2
    refine q (punPc o) _ _ (.pun ho) ?_ (Well.kp (H' := H2) W2 hP2) (kk.new hP2 _) (.mk (kp_none kk W2.is hP2) (AHeap.set_self ..) .nil)
    exact Nat.le_trans ((show ∀ p ∈ punctsT, p.length ≤ 20 by decide) o ho) (LS_ge 2)
  rw [decide_eq_false z3]
  refine as_nil (as_consL ?_)
  intro Kq
  refine a1_return (ae_fn (fa := 300) (by kernel_rfl) (by kernel_rfl) (aes_cons (ae_local rfl (aes_cons (ae_int (aes_nil (AC.to (b := 3 * 2 + 2) (by decide) ?_)))))))
  exact string2 d H1 _ _ w cl cells W fun p a H' g hl W' K' N => q p a H' (.str g) hl W' (K.trans K') (N.base hw1 K)
/-- _law_gap(well, before, after) -/
theorem c_gap {H0 : AHeap} {p p' : Pc} {a a' : AV} (h : Well H w cl cells) (N : PcN H0 H p a) (N' : PcN H0 H p' a') (q : ∀ g H', g ∈ gapsT → Well H' w cl cells → Kp H H' w → Q (.str (S (gapOf p p' g))) H') : AC (CC d) 3 (.ref 328) [.ref w, a, a'] H Q X := by
  refine ac_fnL (ns := ["well", "before", "after"]) (by kernel_rfl) (fun _ _ _ => by show _ = _; kernel_rfl) (by kernel_rfl) ?_
  refine as_consL ?_
  intro Kq
  refine a1_assign (ae_fn (fa := 293) (by kernel_rfl) (by kernel_rfl) (aes_cons (ae_local rfl (aes_cons (ae_of pe_gaps (aes_nil ((c_pick h (by rw [List.length_map]; decide) (by rw [List.length_map]; decide) fun av ha H2 W2 K2 => ?_).to (by decide))))))))
  refine xl_EA (List.mem_map.mp ha) fun g hg zr5 => ?_; subst zr5
  refine at_name ?_
  have q' := q g H2 hg W2 K2
  have gl : g.length ≤ 20 := (show ∀ p ∈ gapsT, p.length ≤ 20 by decide) g hg
  refine as_consL ?_
  intro Kq
  refine a1_swap2 (x := "is_word") (y := "is_next") (fun env he => by cases env; cases he; rfl) ?_
  have w3 : ∀ l : List Nat, (([S k_name, S k_keyword, S k_int] : List Str).contains (S l)) = isW l := fun l => contains3 l k_name k_keyword k_int
  refine ae_tuple (aes_cons (ae_of (PE.as (pe_cmp (pe_item0p rfl N) pe_tuple3 ⟨[S k_name, S k_keyword, S k_int], rfl, rfl⟩) (congrArg AV.bool (w3 p.kind))) (aes_cons (ae_of (PE.as (pe_cmp (pe_item0p rfl N') pe_tuple3 ⟨[S k_name, S k_keyword, S k_int], rfl, rfl⟩) (congrArg AV.bool (w3 p'.kind))) (aes_nil ⟨Nat.le_of_ble_eq_true rfl, _, _, rfl, ?_⟩)))))
  refine as_consL ?_
  intro Kq
  refine a1_swap2 (x := "is_sign") (y := "runs_on") (fun env he => by cases env; cases he; rfl) ?_
  have sg : ∀ p : Pc, ((S p.kind == ("op" : Str)) || (([S [46], S [45, 62]] : List Str).contains (S p.text))) = signOf p := fun p => congr (congrArg or (S_eq p.kind k_op)) (contains2 p.text [46] [45, 62])
  refine ae_tuple (aes_cons (ae_of (PE.as (pe_or (pe_cmp (pe_item0p rfl N) pe_str rfl) fun _ => ae_boolop1 (pe_cmp (pe_item1p rfl N) pe_tuple2 ⟨[S [46], S [45, 62]], rfl, rfl⟩)) (congrArg AV.bool (sg p))) (aes_cons (ae_of (PE.as (pe_or (pe_cmp (pe_item0p rfl N') pe_str rfl) fun _ => ae_boolop1 (pe_cmp (pe_item1p rfl N') pe_tuple2 ⟨[S [46], S [45, 62]], rfl, rfl⟩)) (congrArg AV.bool (sg p'))) (aes_nil ⟨Nat.le_of_ble_eq_true rfl, _, _, rfl, ?_⟩)))))
  have pf : ((([S [33], S [63]] : List Str).contains (S p.text)) && (S p'.text == ("." : Str))) = (isEQ p.text && p'.text == [46]) := congr (congrArg and (contains2 p.text [33] [63])) (S_eq p'.text [46])
  refine as_consL ?_
  intro Kq
  refine a1_assign (ae_of (PE.as (pe_and (pe_cmp (pe_item1p rfl N) pe_tuple2 ⟨[S [33], S [63]], rfl, rfl⟩) fun _ => ae_boolop1 (pe_cmp (pe_item1p rfl N') pe_str rfl)) (congrArg AV.bool pf)) (at_name ?_))
  unfold gapOf at q'
  refine as_consL ?_
  intro Kq
  refine a1_if (ab_of (z := g == [] && ((isW p.kind && isW p'.kind) || (signOf p && signOf p' && !(isEQ p.text && p'.text == [46])))) (PB.as (pb_and (pb_cmp (pe_local rfl) pe_str rfl) fun _ => pb_and (pb_or (pb_and (pb_var rfl) fun _ => pb_and (pb_var rfl) fun _ => pb_and_nil) fun _ => pb_or (pb_and (pb_var rfl) fun _ => pb_and (pb_var rfl) fun _ => pb_and (pb_not (pb_var rfl)) fun _ => pb_and_nil) fun _ => pb_or_nil) fun _ => pb_and_nil) ?_) ?_)
  · refine (congrArg (and · _) (S_eq g [])).trans ?_
    simp only [Bool.and_true, Bool.or_false, Bool.and_assoc]
  cases z1 : (g == [] && ((isW p.kind && isW p'.kind) || (signOf p && signOf p' && !(isEQ p.text && p'.text == [46])))) with
  | true =>
    rw [if_pos z1] at q'
    exact as_cons (a1_return (ae_str q'))
  | false =>
    rw [if_neg (by rw [z1]; simp)] at q'
    refine as_nil (as_consL ?_)
    intro Kq
    refine a1_return (ae_if (ab_of (z := p.kind == k_op && g.take 1 == [47]) (PB.as (pb_and (pb_cmp (pe_item0p rfl N) pe_str rfl) fun _ => pb_and (pb_cmp (a := .str (S (g.take 1))) (ae_slice (ae_of (pe_local rfl) ⟨_, rfl, by rw [S_len]; exact Nat.le_trans gl (by decide), ae_int ⟨_, rfl, congrArg AV.str (slice_to (by decide)), rfl⟩⟩)) pe_str rfl) fun _ => pb_and_nil) ?_) ?_))
    · exact congr (congrArg and (S_eq p.kind k_op)) ((Bool.and_true _).trans (S_eq (g.take 1) [47]))
    · cases z2 : (p.kind == k_op && g.take 1 == [47]) with
      | true =>
        rw [if_pos z2] at q'
        exact ae_of (pe_cat (x := [32]) pe_str (pe_local rfl) (by simp only [List.length_singleton]; exact lin [_] (.a (.n 1) (.v 0)) (.n 1000000) [((.v 0), (.n 20))] gl rfl)) q'
      | false =>
        rw [if_neg (by rw [z2]; simp)] at q'
        exact ae_local rfl q'
end
end Mine
end

section
open PySem PySem.W PySem.Calls PyProof.Rows Builtin.ObjectAttr
set_option maxHeartbeats 4000000
namespace Mine
mutual
/-- a token tells a piece -/
inductive Same : Tk → Pc → Prop
  | mk {kind text : List Nat} {line value : Int} {first l r : Bool} {parts : Pts} {pp : PPs} : SameP parts pp → Same (.mk kind text line first l r value parts) (.mk kind text value pp)
inductive SameP : Pts → PPs → Prop
  | nil : SameP .nil .nil
  | txt {x : List Nat} {r : Pts} {s : PPs} : SameP r s → SameP (.txt x r) (.txt x s)
  | toks {ts : Tks} {ps : Pcs} {r : Pts} {s : PPs} : SameT ts ps → SameP r s → SameP (.toks ts r) (.pcs ps s)
inductive SameT : Tks → Pcs → Prop
  | nil {a : Tk} : a.kind = k_end → SameT (.cons a .nil) .nil
  | cons {a : Tk} {p : Pc} {ts : Tks} {ps : Pcs} : Same a p → SameT ts ps → SameT (.cons a ts) (.cons p ps)
end
theorem bi_zip (d : Dt) : nsIn (CC d).K mainGlobals "zip" = some none := by kernel_rfl
theorem bo_zip : bootBuiltins "zip" = some (.type "zip") := by kernel_rfl
theorem bi_str (d : Dt) : nsIn (CC d).K mainGlobals "str" = some none := by kernel_rfl
theorem bo_str : bootBuiltins "str" = some (.type "str") := by kernel_rfl
theorem bi_isi (d : Dt) : nsIn (CC d).K mainGlobals "isinstance" = some none := by kernel_rfl
theorem bo_isi : bootBuiltins "isinstance" = some (.builtin "isinstance") := by kernel_rfl
theorem ae_zipn {d : Dt} {sc : Scope} {b : Nat} {σ : St} {X : Int → St → Prop} {p : Pos} {Q : AV → St → Prop} (h : Q (.ty "zip") σ) (hl : sc.names.lookup ("zip" : Str) = some .globalImplicit := by rfl) : AE (CC d) sc b (.Name "zip" p) σ Q X :=
  ae_builtin (a := .ty "zip") (v := .type "zip") (bi_zip d) bo_zip (fun _ => .ty _) h (by decide) hl
theorem ae_strn {d : Dt} {sc : Scope} {b : Nat} {σ : St} {X : Int → St → Prop} {p : Pos} {Q : AV → St → Prop} (h : Q (.ty "str") σ) (hl : sc.names.lookup ("str" : Str) = some .globalImplicit := by rfl) : AE (CC d) sc b (.Name "str" p) σ Q X :=
  ae_builtin (a := .ty "str") (v := .type "str") (bi_str d) bo_str (fun _ => .ty _) h (by decide) hl
noncomputable def Tks.len : Tks → Nat | .nil => 0 | .cons _ r => r.len + 1
noncomputable def Pcs.len : Pcs → Nat | .nil => 0 | .cons _ r => r.len + 1
noncomputable def Pts.len : Pts → Nat | .nil => 0 | .txt _ r => r.len + 1 | .toks _ r => r.len + 1
noncomputable def PPs.len : PPs → Nat | .nil => 0 | .txt _ r => r.len + 1 | .pcs _ r => r.len + 1
theorem ToksN.len {H0 H : AHeap} : ∀ {ts : Tks} {ks : List AV}, ToksN H0 H ts ks → ks.length = ts.len := fun t =>
  ToksN.rec (motive_1 := fun _ _ _ => True) (motive_2 := fun _ _ _ => True) (motive_3 := fun ts ks _ => ks.length = ts.len)
    (fun _ _ _ _ _ _ => trivial) trivial (fun _ _ => trivial) (fun _ _ _ _ _ _ => trivial) rfl (fun _ _ _ j => congrArg Nat.succ j) t
theorem PcsN.len {H0 H : AHeap} : ∀ {ts : Pcs} {ks : List AV}, PcsN H0 H ts ks → ks.length = ts.len := fun t =>
  PcsN.rec (motive_1 := fun _ _ _ => True) (motive_2 := fun _ _ _ => True) (motive_3 := fun ts ks _ => ks.length = ts.len)
    (fun _ _ _ _ => trivial) trivial (fun _ _ => trivial) (fun _ _ _ _ _ _ => trivial) rfl (fun _ _ _ j => congrArg Nat.succ j) t
theorem PtsN.len {H0 H : AHeap} : ∀ {ts : Pts} {ks : List AV}, PtsN H0 H ts ks → ks.length = ts.len := fun t =>
  PtsN.rec (motive_1 := fun _ _ _ => True) (motive_2 := fun ts ks _ => ks.length = ts.len) (motive_3 := fun _ _ _ => True)
    (fun _ _ _ _ _ _ => trivial) rfl (fun _ i => congrArg Nat.succ i) (fun _ _ _ _ _ j => congrArg Nat.succ j) trivial (fun _ _ _ _ => trivial) t
theorem PPsN.len {H0 H : AHeap} : ∀ {ts : PPs} {ks : List AV}, PPsN H0 H ts ks → ks.length = ts.len := fun t =>
  PPsN.rec (motive_1 := fun _ _ _ => True) (motive_2 := fun ts ks _ => ks.length = ts.len) (motive_3 := fun _ _ _ => True)
    (fun _ _ _ _ => trivial) rfl (fun _ i => congrArg Nat.succ i) (fun _ _ _ _ _ j => congrArg Nat.succ j) trivial (fun _ _ _ _ => trivial) t
theorem SameT.len : ∀ {ts : Tks} {ps : Pcs}, SameT ts ps → ts.len = ps.len + 1 := fun t =>
  SameT.rec (motive_1 := fun _ _ _ => True) (motive_2 := fun _ _ _ => True) (motive_3 := fun ts ps _ => ts.len = ps.len + 1)
    (fun _ _ => trivial) trivial (fun _ _ => trivial) (fun _ _ _ _ => trivial) (fun _ => rfl) (fun _ _ _ j => congrArg Nat.succ j) t
theorem SameP.len : ∀ {ts : Pts} {ps : PPs}, SameP ts ps → ts.len = ps.len := fun t =>
  SameP.rec (motive_1 := fun _ _ _ => True) (motive_2 := fun ts ps _ => ts.len = ps.len) (motive_3 := fun _ _ _ => True)
    (fun _ _ => trivial) rfl (fun _ i => congrArg Nat.succ i) (fun _ _ _ j => congrArg Nat.succ j) (fun _ => trivial) (fun _ _ _ _ => trivial) t
theorem Grow.new {H H' : AHeap} (h : Grow H H') {l : Addr} (hl : H' l = none) (o : AO) : Grow H (H'.set l o) := fun a o' e => (AHeap.set_ne _ _ (ne_of (h a o' e) hl)).trans (h a o' e)
/-- the last token of a row is an end -/
theorem ToksN.inv {H0 H : AHeap} {a : Tk} {r : Tks} {ks : List AV} (h : ToksN H0 H (.cons a r) ks) : ∃ k ks', ks = k :: ks' ∧ TokN H0 H a k ∧ ToksN H0 H r ks' := by
  cases h with
  | cons h1 h2 => exact ⟨_, _, rfl, h1, h2⟩
theorem SameT.last {H0 H : AHeap} : ∀ {ts : Tks} {ps : Pcs} {ks : List AV}, SameT ts ps → ToksN H0 H ts ks → ∃ k a, ks[ps.len]? = some k ∧ TokN H0 H a k ∧ a.kind = k_end := fun {ts ps ks} t =>
  SameT.rec (motive_1 := fun _ _ _ => True) (motive_2 := fun _ _ _ => True) (motive_3 := fun ts ps _ => ∀ ks, ToksN H0 H ts ks → ∃ k a, ks[ps.len]? = some k ∧ TokN H0 H a k ∧ a.kind = k_end)
    (fun _ _ => trivial) trivial (fun _ _ => trivial) (fun _ _ _ _ => trivial) (fun e ks h => by
      refine xl_EEAA h.inv fun k ks' e1 h1 _ => ?_
      subst e1
      exact ⟨k, _, rfl, h1, e⟩)
    (fun _ _ _ j ks h => by
      refine xl_EEAA h.inv fun k ks' e1 h1 h2 => ?_
      subst e1
      exact j ks' h2) t ks
mutual
/-- how deep a piece is, and how long its rows -/
inductive FitC : Nat → Pc → Prop
  | mk {n : Nat} {k t : List Nat} {v : Int} {ps : PPs} : ps.len ≤ 100000 → FitP n ps → FitC n (.mk k t v ps)
inductive FitP : Nat → PPs → Prop
  | nil {n : Nat} : FitP n .nil
  | txt {n : Nat} {x : List Nat} {r : PPs} : FitP n r → FitP n (.txt x r)
  | pcs {n : Nat} {l : Pcs} {r : PPs} : l.len ≤ 1000 → FitS n l → FitP (n + 1) r → FitP (n + 1) (.pcs l r)
inductive FitS : Nat → Pcs → Prop
  | nil {n : Nat} : FitS n .nil
  | cons {n : Nat} {a : Pc} {r : Pcs} : FitC n a → FitS n r → FitS n (.cons a r)
end
theorem PPs.app_len : ∀ (a b : PPs), (a.app b).len = a.len + b.len := fun a b =>
  PPs.rec (motive_1 := fun _ => True) (motive_2 := fun a => (a.app b).len = a.len + b.len) (motive_3 := fun _ => True)
    (fun _ _ _ _ _ => trivial) (Nat.zero_add _).symm (fun _ _ i => (congrArg Nat.succ i).trans (Nat.succ_add _ _).symm) (fun _ _ _ i => (congrArg Nat.succ i).trans (Nat.succ_add _ _).symm) trivial (fun _ _ _ _ => trivial) a
theorem FitP.app {n : Nat} : ∀ {a b : PPs}, FitP n a → FitP n b → FitP n (a.app b) := fun {a b} t u =>
  FitP.rec (motive_1 := fun _ _ _ => True) (motive_2 := fun n a _ => FitP n b → FitP n (a.app b)) (motive_3 := fun _ _ _ => True)
    (fun _ _ _ => trivial) (fun u => u) (fun _ i u => .txt (i u)) (fun h1 h2 _ _ j u => .pcs h1 h2 (j u)) trivial (fun _ _ _ _ => trivial) t u
theorem fit_le1 {a b n : Nat} (h : a + b ≤ n) : a ≤ n := Nat.le_trans (Nat.le_add_right _ _) h
theorem fit_le2 {a b n : Nat} (h : a + b ≤ n) : b ≤ n := Nat.le_trans (Nat.le_add_left _ _) h
theorem GS.fit : ∀ {n : Nat} {p : Pc}, GS n p → p.text.length ≤ 100000 → FitC n p := fun {n p} t =>
  GS.rec (motive_1 := fun n p _ => p.text.length ≤ 100000 → FitC n p) (motive_2 := fun n x ps _ _ => x.length ≤ 100000 → ps.len ≤ x.length ∧ FitP n ps)
    (motive_3 := fun n y rows _ => y.length ≤ 100000 → rows.len ≤ 5 ∧ FitS n rows) (motive_4 := fun n p _ => p.text.length ≤ 100000 → FitC n p)
    (fun _ _ => .mk (Nat.zero_le _) .nil) (fun _ _ => .mk (Nat.zero_le _) .nil) (fun _ i => i)
    (fun _ => ⟨Nat.zero_le _, .nil⟩)
    (fun _ _ i z => by
      rw [List.length_append] at z ⊢
      exact ⟨Nat.le_trans (i (fit_le1 z)).1 (Nat.le_add_right _ _), (i (fit_le1 z)).2⟩)
    (fun _ _ i j z => by
      rw [List.length_append] at z ⊢
      have z2 := fit_le2 z
      rw [List.length_append, List.length_append] at z2
      have h1 := i (fit_le1 z)
      have h2 := j (fit_le2 (fit_le1 z2))
      refine ⟨?_, h1.2.app (.txt (.pcs (Nat.le_trans h2.1 (by decide)) h2.2 .nil))⟩
      rw [PPs.app_len]
      refine Nat.add_le_add h1.1 ?_
      rw [List.length_append, List.length_append]
      exact Nat.le_trans (Nat.le_add_right 2 _) (Nat.le_add_right _ _))
    (fun _ i z => ⟨Nat.le_of_ble_eq_true rfl, .cons (i z) .nil⟩)
    (fun _ _ i j z => by
      rw [List.length_append, List.length_append, List.length_append] at z
      exact ⟨Nat.le_of_ble_eq_true rfl, .cons (i (fit_le2 (fit_le1 (fit_le1 z)))) (.cons (.mk (Nat.zero_le _) .nil) (.cons (j (fit_le2 z)) .nil))⟩)
    (fun _ i z => by
      rw [List.length_append, List.length_append] at z
      exact ⟨Nat.le_of_ble_eq_true rfl, .cons (.mk (Nat.zero_le _) .nil) (.cons (.mk (Nat.zero_le _) .nil) (.cons (i (fit_le2 (fit_le1 z))) (.cons (.mk (Nat.zero_le _) .nil) .nil)))⟩)
    (fun _ i z => by
      rw [List.length_append, List.length_append] at z
      exact ⟨Nat.le_of_ble_eq_true rfl, .cons (.mk (Nat.zero_le _) .nil) (.cons (.mk (Nat.zero_le _) .nil) (.cons (i (fit_le2 (fit_le1 z))) (.cons (.mk (Nat.zero_le _) .nil) (.cons (.mk (Nat.zero_le _) .nil) .nil))))⟩)
    (fun {n x ps pl} _ i z => by
      have z' : (34 :: (x ++ [34]) : List Nat).length ≤ 100000 := z
      rw [List.length_cons, List.length_append] at z'
      have h1 := i (fit_le1 (fit_le1 z'))
      refine .mk ?_ (h1.2.app (.txt .nil))
      rw [PPs.app_len]
      exact Nat.le_trans (Nat.add_le_add_right h1.1 1) (fit_le1 z')) t
/-- _law_is_same says yes -/
noncomputable def PSame (d : Dt) (n : Nat) : Prop := ∀ (H H0 H1 : AHeap) (X : Int → AHeap → Prop) (Q : AV → AHeap → Prop) (a : Tk) (p : Pc) (k v : AV), Same a p → FitC n p → TokN H0 H a k → PcN H1 H p v → (∀ H', Grow H H' → Q (.bool true) H') → AC (CC d) (n + 2) (.ref 347) [k, v] H Q X
theorem zip_map {α β γ : Type} (f : α → β → γ) (as : List α) : ∀ bs : List β, List.zipWith f as bs = (as.zip bs).map fun p => f p.1 p.2 :=
  List.rec (motive := fun as => ∀ bs : List β, List.zipWith f as bs = (as.zip bs).map fun p => f p.1 p.2) (fun _ => rfl) (fun a _ ih bs => List.rec (motive := fun bs => List.zipWith f (a :: _) bs = ((a :: _).zip bs).map fun p => f p.1 p.2) rfl (fun b bs _ => congrArg (f a b :: ·) (ih bs)) bs) as
theorem cturns_ind {c : Cx} {sc : Scope} {b : Nat} {tgt elt : Expr} {ifs : List Expr} {P : AHeap → Prop} {Q : List AV → St → Prop} {β γ : Type} (f : β → AV) (σ : γ → St) (I : List β → γ → Prop)
    (done : ∀ g, I [] g → Q [] (σ g))
    (step : ∀ y ys g, I (y :: ys) g → (∀ g', I ys g' → ACTurns c sc b tgt ifs elt P Q (ys.map f) [] (σ g')) → AT c sc b tgt (f y) (σ g) (fun σ₁ => ATests c sc b (fun _ _ => False) (fun z σ₂ => if z then AE c sc b elt σ₂ (fun v σ₃ => P σ₃.H ∧ ACTurns c sc b tgt ifs elt P Q (ys.map f) ([] ++ [v]) σ₃) (fun _ _ => False)
      else P σ₂.H ∧ ACTurns c sc b tgt ifs elt P Q (ys.map f) [] σ₂) ifs σ₁) (fun _ _ => False)) : ∀ (ys : List β) (g : γ), I ys g → ACTurns c sc b tgt ifs elt P Q (ys.map f) [] (σ g)
  | [], g, h => done g h
  | y :: ys, g, h => step y ys g h fun g' h' => cturns_ind f σ I done step ys g' h'
theorem last_at {n : Nat} : ((-1 : Int) + ((n + 1 : Nat) : Int)).toNat = n := by
  rw [Int.natCast_add, Int.add_comm]; exact congrArg Int.toNat (Int.add_sub_cancel (n : Int) 1)
/-- the parts that are yet to be compared -/
noncomputable def RowOk (H0 H1 H : AHeap) (n : Nat) (ys : List (AV × AV)) : Prop := ∃ parts pp as bs, ys = as.zip bs ∧ SameP parts pp ∧ PtsN H0 H parts bs ∧ PPsN H1 H pp as ∧ FitP n pp
noncomputable def RowsOk (H0 H1 H : AHeap) (n : Nat) (ys : List (AV × AV)) : Prop := ∃ ts ps as bs, ys = as.zip bs ∧ SameT ts ps ∧ ToksN H0 H ts as ∧ PcsN H1 H ps bs ∧ FitS n ps
noncomputable def RowIn (H0 H1 H : AHeap) (n : Nat) (lp lt : Addr) (ks ks' : List AV) : Prop := ∃ m, n = m + 1 ∧ H lt = some (.list ks) ∧ H lp = some (.list ks') ∧ ks.length = ks'.length + 1 ∧ ks'.length ≤ 1000 ∧ RowsOk H0 H1 H m (ks.zip ks') ∧
  ∃ (k : Addr) (fs : List (Str × AV)), ks[ks'.length]? = some (.ref k) ∧ H k = some (.inst 71 fs) ∧ fs.lookup ("kind" : Str) = some (.str (S k_end))
@[elab_as_elim] theorem RowOk.inv {H0 H1 H : AHeap} {n : Nat} {y : AV × AV} {ys : List (AV × AV)} {G : AV × AV → Prop} (h : RowOk H0 H1 H n (y :: ys)) (k1 : ∀ x : List Nat, RowOk H0 H1 H n ys → G (.str (S x), .str (S x)))
    (k2 : ∀ lp lt ks ks', RowIn H0 H1 H n lp lt ks ks' → RowOk H0 H1 H n ys → G (.ref lp, .ref lt)) : G y := by
  refine xl_EEEEAAAA h fun parts pp as bs e sp pn pn' fp => ?_; clear h
  cases sp with
  | nil => cases pn; cases pn'; cases e
  | txt sp =>
    cases pn with
    | txt pn =>
    cases pn' with
    | txt pn' =>
    cases fp with
    | txt fp =>
    cases e
    exact k1 _ ⟨_, _, _, _, rfl, sp, pn, pn', fp⟩
  | toks st sp =>
    cases pn with
    | toks i1 i2 i3 pn =>
    cases pn' with
    | pcs j1 j2 j3 pn' =>
    cases fp with
    | pcs f1 f2 fp =>
    cases e
    refine k2 _ _ _ _ ⟨_, rfl, i2, j2, by rw [i3.len, j3.len, st.len], by rw [j3.len]; exact f1, ⟨_, _, _, _, rfl, st, i3, j3, f2⟩, ?_⟩ ⟨_, _, _, _, rfl, sp, pn, pn', fp⟩
    refine xl_EEAA (st.last i3) fun k2 a2 e2 tn2 ke => ?_
    cases tn2 with
    | @mk kind2 _ _ _ _ _ _ _ _ _ _ b1 b2 b3 b4 b5 =>
    have hk2 : kind2 = k_end := ke
    subst hk2
    exact ⟨_, _, j3.len ▸ e2, b3, rfl⟩
@[elab_as_elim] theorem RowsOk.inv {H0 H1 H : AHeap} {n : Nat} {y : AV × AV} {ys : List (AV × AV)} {G : AV × AV → Prop} (h : RowsOk H0 H1 H n (y :: ys))
    (k : ∀ a p kk pk, Same a p → FitC n p → TokN H0 H a kk → PcN H1 H p pk → RowsOk H0 H1 H n ys → G (kk, pk)) : G y := by
  refine xl_EEEEAAAA h fun ts ps as bs e st i3 j3 f2 => ?_; clear h
  cases st with
  | nil => cases j3; rw [List.zip_nil_right] at e; cases e
  | cons s1 st =>
    cases i3 with
    | cons t1 i3 =>
    cases j3 with
    | cons p1 j3 =>
    cases f2 with
    | cons f1 f2 =>
    cases e
    exact k _ _ _ _ s1 f1 t1 p1 ⟨_, _, _, _, rfl, st, i3, j3, f2⟩
theorem same_inv {H0 H1 H : AHeap} {n : Nat} {a : Tk} {p : Pc} {k v : AV} {G : AV → AV → Prop} (hs : Same a p) (hfit : FitC n p) (N : TokN H0 H a k) (N1 : PcN H1 H p v)
    (q : ∀ kind text line value first l r k0 P avs P' avs', H k0 = some (.inst 71 (tokFs kind text line first l r value P)) → H P = some (.list avs) → H P' = some (.list avs') → avs.length = avs'.length → avs'.length ≤ 100000 → RowOk H0 H1 H n (avs'.zip avs) → G (.ref k0) (.tup [.str (S kind), .str (S text), .int value, .ref P'])) : G k v := by
  cases hs with
  | mk sp =>
  cases hfit with
  | mk fl fp =>
  cases N with
  | mk k0 P0 hk hP pn =>
  cases N1 with
  | mk P0' hP' pn' =>
  exact q _ _ _ _ _ _ _ _ _ _ _ _ hk hP hP' (by rw [pn.len, pn'.len, sp.len]) (by rw [pn'.len]; exact fl) ⟨_, _, _, _, rfl, sp, pn, pn', fp⟩
theorem RowOk.grow {H0 H1 H H' : AHeap} {n : Nat} {ys : List (AV × AV)} (g : Grow H H') (h : RowOk H0 H1 H n ys) : RowOk H0 H1 H' n ys :=
  xl_EEEEAAAA h fun parts pp as bs e sp pn pn' fp => ⟨parts, pp, as, bs, e, sp, pn.mono fun a o h0 e => ⟨h0, g a o e⟩, pn'.mono fun a o h0 e => ⟨h0, g a o e⟩, fp⟩
theorem same_step (d : Dt) (n : Nat) (ih : ∀ m, n = m + 1 → PSame d m) : PSame d n := by
  intro H H0 H1 X Q a p k v hs hfit N N1 q
  refine same_inv (G := fun k v => AC (CC d) (n + 2) (.ref 347) [k, v] H Q X) hs hfit N N1 fun kind text line value first l r k P avs P' avs' hk hP hP' hlen hl' hrow => ?_
  clear hs hfit N N1
  refine ac_fnL (ns := ["token", "piece"]) (by kernel_rfl) (fun _ _ => by show _ = _; kernel_rfl) (by kernel_rfl) ?_
  refine as_consL ?_
  intro Kq
  refine a1_assign (ae_local rfl (at_tuple (ats_cons (at_name (ats_cons (at_name (ats_cons (at_name (ats_cons (at_name (ats_nil ?_)))))))))))
  refine as_consL ?_
  intro Kq
  refine a1_if (ab_cmp2 ?_)
  refine ae_tuple (aes_cons (ae_fld rfl hk (okTok d) rfl (aes_cons (ae_fld rfl hk (okTok d) rfl (aes_cons (ae_fld rfl hk (okTok d) rfl (aes_cons ?_)))))))
  refine ae_bi (bi_len d) bo_len (aes_cons (ae_fld rfl hk (okTok d) rfl (aes_nil (acw_len_list hP (Nat.lt_of_le_of_lt (hlen ▸ hl') (by decide)) (aes_nil ⟨Nat.le_of_ble_eq_true rfl, ?_⟩)))))
  refine ae_tuple (aes_cons (ae_local rfl (aes_cons (ae_local rfl (aes_cons (ae_local rfl (aes_cons ?_)))))))
  refine ae_bi (bi_len d) bo_len (aes_cons (ae_local rfl (aes_nil (acw_len_list hP' (Nat.lt_of_le_of_lt hl' (by decide)) (aes_nil ⟨Nat.le_of_ble_eq_true rfl, false, ?_, ?_⟩)))))
  · rw [hlen]
    show eqT _ _ = some true
    exact eqT_of (eqZ_c eqS_str (eqZ_c eqS_str (eqZ_c eqS_int (eqZ_c eqS_int rfl)))) rfl rfl
  refine as_nil (as_consL ?_)
  intro Kq
  refine a1_for (asrc_zip (ae_zipn ⟨rfl, ae_local rfl (ae_fld rfl hk (okTok d) rfl ⟨P', P, avs', avs, rfl, rfl, hP', hP, ⟨hP', hP⟩, ?_⟩)⟩))
  rw [zip_map]
  refine turns_ind (β := AV × AV) (γ := AHeap × List (Str × AV)) (fun y => AV.tup [y.1, y.2]) (fun g => ⟨g.2, g.1⟩)
    (fun ys g => Grow H g.1 ∧ RowOk H0 H1 H n ys)
    (fun g hg => ?_) (fun y ys g hg ih2 => ?_) (avs'.zip avs) (H, _) ⟨Grow.refl H, hrow⟩
  · exact as_cons (a1_return (ae_bool (q _ hg.1)))
  clear hrow
  have gr := hg.1
  have hPP := And.intro (gr _ _ hP') (gr _ _ hP)
  refine RowOk.inv hg.2 (fun x hrow => ?_) (fun lp lt ks ks' rin hrow => ?_)
  · refine at_tuple (as := [.str (S x), .str (S x)]) (ats_cons (at_name (ats_cons (at_name (ats_nil ?_)))))
    refine as_consL ?_
    intro Kq
    refine a1_if (ab_val (ae_bi (bi_isi d) bo_isi (aes_cons (ae_local (look_ne look_eq) (aes_cons (ae_strn (aes_nil (acw_isi_str_str ⟨_, rfl, ?_⟩))))))))
    refine as_consL ?_
    intro Kq
    refine a1_if (ab_of (z := false) (PB.as (pb_cmp (pe_local (look_ne look_eq)) (pe_local look_eq) rfl) (by simp)) ?_)
    exact as_nil (as_nil (as_nil ⟨hPP, ih2 (_, _) ⟨gr, hrow⟩⟩))
  · refine xl_EAAAAAA rin fun m' en i2 j2 hks hks' rows hend => ?_
    clear rin
    have t2 := gr _ _ i2
    have p2 := gr _ _ j2
    refine at_tuple (as := [.ref lp, .ref lt]) (ats_cons (at_name (ats_cons (at_name (ats_nil ?_)))))
    have n1 : ∀ {m : List (Str × AV)} {u v : AV}, (fput (fput m "mine" u) "its" v).lookup ("mine" : Str) = some u := look_ne look_eq
    refine as_consL ?_
    intro Kq
    refine a1_if (ab_val (ae_bi (bi_isi d) bo_isi (aes_cons (ae_local n1 (aes_cons (ae_strn (aes_nil (acw_isi_list p2 (.inl rfl) ⟨_, rfl, ?_⟩))))))))
    refine as_consL ?_
    intro Kq
    have hk1 : ks.length ≤ 1001 := Nat.le_trans (Nat.le_of_eq hks) (Nat.succ_le_succ hks')
    refine a1_if (ab_or (ab_cmp2 (ae_bi (bi_len d) bo_len (aes_cons (ae_local look_eq (aes_nil (acw_len_list t2 (Nat.lt_of_le_of_lt hk1 (by decide)) ?_)))))))
    refine ae_bin (ae_bi (bi_len d) bo_len (aes_cons (ae_local n1 (aes_nil (acw_len_list p2 (Nat.lt_of_le_of_lt hks' (by decide)) (ae_int ⟨false, ?_, ?_⟩))))))
    · show some (((ks.length : Nat) : Int) != ((ks'.length : Nat) : Int) + 1) = some false
      rw [hks]; simp
    refine ab_or (ab_cmp2 (ae_attr (ae_sub (ae_local look_eq (ae_neg (ae_int ⟨_, rfl, ?_⟩))))))
    refine xl_EEAA hend fun kk2 fs2 hkl b3 b4 => ?_
    refine ⟨ks, .ref kk2, t2, by decide, by decide, .inr ⟨by decide, by exact linI [] [_, _] (.g (.c (.v 0))) (.g (.n 1)) [((.c (.a (.v 1) (.n 1))), (.c (.v 0)))] (Int.ofNat_le.mpr (Nat.le_of_eq (Eq.symm hks))) rfl, by rw [show ((-1 : Int) + (ks.length : Nat)).toNat = ks'.length by rw [hks]; exact last_at]; exact hkl⟩, kk2, 71, _, _, rfl, gr _ _ b3, b4, okFld_field (okTok d) (by decide), rfl, ae_str ⟨false, ?_, ab_or_nil ?_⟩⟩
    · exact congrArg some ((congrArg not (S_eq k_end k_end)).trans rfl)
    refine as_consL ?_
    intro Kq
    refine a1_if (ab_cmp2 (ae_listcomp (asrc_zip (ae_zipn ⟨rfl, ae_local look_eq (ae_local n1 ⟨lt, lp, ks, ks', rfl, rfl, t2, p2, ⟨t2, p2⟩, ?_, ?_⟩)⟩))))
    · rw [List.length_zipWith]; exact Nat.le_trans (Nat.min_le_right _ _) (Nat.le_trans hks' (by decide))
    rw [zip_map (fun a b => AV.tup [a, b]) ks ks']
    refine cturns_ind (β := AV × AV) (γ := AHeap × List (Str × AV)) (fun y => AV.tup [y.1, y.2]) (fun g => ⟨g.2, g.1⟩)
      (fun ys g2 => Grow g.1 g2.1 ∧ RowsOk H0 H1 H m' ys)
      (fun g2 hg2 => ?_) (fun y ys g2 hg2 ih3 => ?_) (ks.zip ks') (g.1, []) ⟨Grow.refl _, rows⟩
    · intro l hl
      refine ae_list (aes_nil ⟨Nat.le_of_ble_eq_true rfl, fun l' hl' => ⟨false, ⟨[], ?_, AHeap.set_self .., rfl⟩, ?_⟩⟩)
      · have : (g2.1.set l (.list [])) l = some (.list []) := AHeap.set_self ..
        exact (AHeap.set_ne _ _ (ne_of this hl')).trans this
      · have gr3 : Grow H ((g2.1.set l (.list [])).set l' (.list [])) := ((gr.trans hg2.1).new hl _).new hl' _
        exact as_nil (as_nil (as_nil (as_nil ⟨⟨gr3 _ _ hP', gr3 _ _ hP⟩, ih2 (_, _) ⟨gr3, hrow⟩⟩)))
    refine RowsOk.inv hg2.2 fun a p kk pk s1 f1 t1 p1 rows => ?_
    have grd : Grow H g2.1 := gr.trans hg2.1
    refine at_tuple (as := [kk, pk]) (ats_cons (at_name (ats_cons (at_name (ats_nil ?_)))))
    refine ab_not (ab_val (ae_fn (fa := 347) (by kernel_rfl) (by kernel_rfl) (aes_cons (ae_local (look_ne look_eq) (aes_cons (ae_local look_eq (aes_nil (AC.to (b := m' + 2) (Nat.le_of_eq (congrArg Nat.succ en.symm)) ?_))))))))
    exact ih m' en g2.1 H0 H1 _ _ a p kk pk s1 f1 (t1.mono fun a o h0 e => ⟨h0, grd a o e⟩) (p1.mono fun a o h0 e => ⟨h0, grd a o e⟩) fun H' g' => ⟨true, rfl, ⟨g' _ _ (hg2.1 _ _ t2), g' _ _ (hg2.1 _ _ p2)⟩, ih3 (_, _) ⟨hg2.1.trans g', rows⟩⟩
theorem same_all (d : Dt) : ∀ n, PSame d n
  | 0 => same_step d 0 fun m e => nomatch e
  | n + 1 => same_step d (n + 1) fun m e => by cases e; exact same_all d n
end Mine
end

section
open PySem PySem.W PySem.Calls PyProof.Rows Builtin.ObjectAttr
set_option maxHeartbeats 4000000
namespace Mine
/-- the rows that a text runs over -/
noncomputable def nls : List Nat → Int
  | [] => 0
  | c :: r => nl c + nls r
theorem nls_app : ∀ (a b : List Nat), nls (a ++ b) = nls a + nls b
  | [], b => by simp [nls]
  | c :: a, b => by rw [List.cons_append, nls, nls, nls_app a b]; exact Int.le_antisymm (linI [_, _, _] [] (.a (.v 0) (.a (.v 1) (.v 2))) (.a (.a (.v 0) (.v 1)) (.v 2)) []  rfl) (linI [_, _, _] [] (.a (.a (.v 0) (.v 1)) (.v 2)) (.a (.v 0) (.a (.v 1) (.v 2))) []  rfl)
theorem count_nl (l : List Nat) : Txt.count (S l) (S [10]) = nls l := by
  refine (count_cnt (S l) 10).trans ?_
  show cnt 10 l = nls l
  induction l with
  | nil => rfl
  | cons c r ih => rw [cnt_cons, nls, ih]; rfl
/-- pieces in a row -/
inductive PL (H0 H : AHeap) : List Pc → List AV → Prop
  | nil : PL H0 H [] []
  | cons {p : Pc} {a : AV} {ps : List Pc} {as : List AV} : PcN H0 H p a → PL H0 H ps as → PL H0 H (p :: ps) (a :: as)
theorem PL.len {H0 H : AHeap} {ps : List Pc} {as : List AV} (h : PL H0 H ps as) : as.length = ps.length := by
  induction h with
  | nil => rfl
  | cons _ _ ih => simp [ih]
theorem PL.get {H0 H : AHeap} {ps : List Pc} {as : List AV} (h : PL H0 H ps as) : ∀ {i : Nat} {p : Pc}, ps[i]? = some p → ∃ a, as[i]? = some a ∧ PcN H0 H p a := by
  induction h with
  | nil => exact fun e => nomatch e
  | @cons p0 a0 ps as h1 _ ih =>
    intro i p e
    rcases i with _ | i
    · have e : some p0 = some p := e
      injection e with e
      exact ⟨a0, rfl, e ▸ h1⟩
    · have e : ps[i]? = some p := e
      exact xl_EA (ih e) fun a h1 h2 => ⟨a, h1, h2⟩
theorem PL.mono {H0 H H0' H' : AHeap} (k : ∀ a o, H0 a = none → H a = some o → H0' a = none ∧ H' a = some o) {ps : List Pc} {as : List AV} (h : PL H0 H ps as) : PL H0' H' ps as := by
  induction h with
  | nil => exact .nil
  | cons h _ ih => exact .cons (h.mono k) ih
theorem PL.app {H0 H : AHeap} {a b : List Pc} {v w : List AV} (h : PL H0 H a v) (h' : PL H0 H b w) : PL H0 H (a ++ b) (v ++ w) := by
  induction h with
  | nil => exact h'
  | cons h _ ih => exact .cons h ih
/-- tokens in a row -/
inductive TL (H0 H : AHeap) : List Tk → List AV → Prop
  | nil : TL H0 H [] []
  | cons {p : Tk} {a : AV} {ps : List Tk} {as : List AV} : TokN H0 H p a → TL H0 H ps as → TL H0 H (p :: ps) (a :: as)
theorem TL.mono {H0 H H0' H' : AHeap} (k : ∀ a o, H0 a = none → H a = some o → H0' a = none ∧ H' a = some o) {ps : List Tk} {as : List AV} (h : TL H0 H ps as) : TL H0' H' ps as := by
  induction h with
  | nil => exact .nil
  | cons h _ ih => exact .cons (h.mono k) ih
noncomputable def Tks.list : Tks → List Tk
  | .nil => []
  | .cons a r => a :: r.list
theorem ToksN.tl {H0 H : AHeap} {ts : Tks} {ks : List AV} (t : ToksN H0 H ts ks) : TL H0 H ts.list ks :=
  ToksN.rec (motive_1 := fun _ _ _ => True) (motive_2 := fun _ _ _ => True) (motive_3 := fun ts ks _ => TL H0 H ts.list ks) (fun _ _ _ _ _ _ => trivial) trivial (fun _ _ => trivial) (fun _ _ _ _ _ _ => trivial) .nil (fun h _ _ j => .cons h j) t
noncomputable def Tk.line : Tk → Int | .mk _ _ l _ _ _ _ _ => l
noncomputable def Tk.first : Tk → Bool | .mk _ _ _ f _ _ _ _ => f
noncomputable def Tk.left : Tk → Bool | .mk _ _ _ _ l _ _ _ => l
noncomputable def Tk.right : Tk → Bool | .mk _ _ _ _ _ r _ _ => r
noncomputable def opens : List (List Nat) := [[40], [91], [123], [44], [59], [58], [45, 62]]
noncomputable def closes : List (List Nat) := [[41], [93], [125], [44], [59], [58]]
noncomputable def txAt (ps : List Pc) (i : Nat) : List Nat := (ps[i]?.map Pc.text).getD []
noncomputable def gpAt (gs : List (List Nat)) (i : Nat) : List Nat := gs[i]?.getD []
noncomputable def leftOf (ps : List Pc) (gs : List (List Nat)) (at' : Nat) : Bool := at' == 0 || gpAt gs (at' - 1) != [] || opens.contains (txAt ps (at' - 1))
noncomputable def rightOf (ps : List Pc) (gs : List (List Nat)) (at' : Nat) : Bool := at' + 1 == ps.length || gpAt gs at' != [] || closes.contains (txAt ps (at' + 1)) || (txAt ps (at' + 1) == [46] && isEQ (txAt ps at'))
theorem containsS (l : List Nat) : ∀ xs : List (List Nat), ((xs.map S).contains (S l)) = xs.contains l
  | [] => rfl
  | x :: xs => by rw [List.map_cons, List.contains_cons, List.contains_cons, S_eq, containsS l xs]
section
variable {c : Cx} {sc : Scope} {b : Nat} {σ : St} {X : Int → St → Prop}
theorem pe_get {v : Str} {p p' : Pos} {e : Expr} {l : Addr} {as : List AV} {i : Nat} {j : Int} {a : AV} (hv : σ.m.lookup v = some (.ref l)) (hl : σ.H l = some (.list as)) (he : PE c sc b e σ (.int j) X) (hj : j = (i : Nat)) (ha : as[i]? = some a) (hz : as.length ≤ 1000000) (hloc : sc.names.lookup v = some .local := by rfl) (hd : (v == ("__debug__" : Str)) = false := by decide)
    (hs : ∀ o k, subscripted e false o k = operate [o, k] (getItem o k) := by intro _ _; rfl) : PE c sc b (.Subscript (.Name v p) e p') σ a X := by
  have := (List.getElem?_eq_some_iff.mp ha).1
  exact ae_sub (ae_local hv (ae_of he ⟨as, a, hl, by exact linI [_] [_] (.a (.n (-4611686018427387904)) (.n 1)) (.v 0) [((.c (.v 0)), (.v 0))] (Int.le_of_eq (Eq.symm hj)) rfl, by exact linI [_] [_, _] (.a (.v 0) (.n 1)) (.n 4611686018427387904) [((.v 0), (.c (.v 0))), ((.c (.v 1)), (.c (.n 1000000))), ((.c (.a (.v 0) (.n 1))), (.c (.v 1)))] (Int.le_of_eq hj) (Int.ofNat_le.mpr hz) (Int.ofNat_le.mpr this) rfl, .inl ⟨by exact linI [_] [_] (.n 0) (.v 0) [((.c (.v 0)), (.v 0))] (Int.le_of_eq (Eq.symm hj)) rfl, by rw [hj]; simpa using ha⟩, rfl, rfl⟩) hloc hd) hs
theorem pe_sub1 {o : Expr} {p1 p2 : Pos} {kk : Nat} {H0 H : AHeap} {q : Pc} {a : AV} (ho : PE c sc b o σ a X) (hN : PcN H0 H q a)
    (hs : ∀ o i, subscripted (.Constant (.int 1) kk p1) false o i = operate [o, i] (getItem o i) := by intro _ _; rfl) : PE c sc b (.Subscript o (.Constant (.int 1) kk p1) p2) σ (.str (S q.text)) X := by
  refine xl_EE hN.tup fun w P zr1 => ?_; subst zr1
  exact ae_sub (ae_of ho (ae_int (subR_tup (i := 1) rfl (by decide) ⟨rfl, rfl⟩))) hs
end
theorem tx_get {ps : List Pc} {i : Nat} {p : Pc} (h : ps[i]? = some p) : txAt ps i = p.text := by unfold txAt; rw [h]; rfl
theorem gp_get {gs : List (List Nat)} {i : Nat} {g : List Nat} (h : gs[i]? = some g) : gpAt gs i = g := by unfold gpAt; rw [h]; rfl
theorem beq_nn {a b : Nat} : ((a : Int) == (b : Int)) = (a == b) := by
  rw [Bool.eq_iff_iff, beq_iff_eq, beq_iff_eq, Int.natCast_inj]
theorem get_is {α : Type} {l : List α} {i : Nat} (h : i < l.length) : ∃ a, l[i]? = some a := ⟨_, List.getElem?_eq_getElem h⟩
section
variable {d : Dt} {H H1 : AHeap} {X : Int → AHeap → Prop} {Q : AV → AHeap → Prop} {lp lg : Addr} {ps : List Pc} {gs : List (List Nat)} {as : List AV}
/-- _law_left(pieces, gaps, at) -/
theorem c_lleft {at' : Nat} (hp : H lp = some (.list as)) (hN : PL H1 H ps as) (hg : H lg = some (.list (gs.map strT))) (hz : ps.length ≤ 1000) (he : gs.length = ps.length) (ha : at' < ps.length) (q : Q (.bool (leftOf ps gs at')) H) : AC (CC d) 1 (.ref 335) [.ref lp, .ref lg, .int at'] H Q X := by
  refine ac_fnL (ns := ["pieces", "gaps", "at"]) (by kernel_rfl) (fun _ _ _ => by show _ = _; kernel_rfl) (by kernel_rfl) ?_
  have hl := hN.len
  have gl : (gs.map strT).length ≤ 1000000 := by rw [List.length_map, he]; exact Nat.le_trans hz (by decide)
  unfold leftOf at q
  refine as_consL ?_
  intro Kq
  refine a1_if (ab_of (z := at' == 0 || gpAt gs (at' - 1) != []) (PB.as (pb_or (z := at' == 0) (PB.as (pb_cmp (pe_local rfl) pe_int rfl) (beq_nn (b := 0))) fun h0 => pb_or (z := gpAt gs (at' - 1) != []) ?_ fun _ => pb_or_nil) (by rw [Bool.or_false])) ?_)
  · have h0' : at' ≠ 0 := by simpa using h0
    obtain ⟨g, eg⟩ := get_is (l := gs) (i := at' - 1) (he ▸ Nat.lt_of_le_of_lt (Nat.sub_le _ _) ha)
    rw [gp_get eg]
    exact PB.as (pb_cmp (a := .str (S g)) (pe_get (i := at' - 1) rfl hg (pe_bin (pe_local rfl) pe_int ⟨rfl, rfl⟩) (Int.ofNat_sub (Nat.pos_of_ne_zero h0')).symm (by rw [List.getElem?_map, eg]; rfl) gl) pe_str rfl) (congrArg not (S_eq g []))
  cases z : (at' == 0 || gpAt gs (at' - 1) != []) with
  | true =>
    rw [z] at q
    exact as_cons (a1_return (ae_bool q))
  | false =>
    rw [z, Bool.false_or] at q
    have h0' : at' ≠ 0 := by simpa using (Bool.or_eq_false_iff.mp z).1
    obtain ⟨p, ep⟩ := get_is (l := ps) (i := at' - 1) (Nat.lt_of_le_of_lt (Nat.sub_le _ _) ha)
    refine xl_EA (hN.get ep) fun a ea na => ?_
    rw [tx_get ep] at q
    refine as_nil (as_consL ?_)
    intro Kq
    refine a1_return (ae_of (PE.as (pe_cmp (pe_sub1 (pe_get (i := at' - 1) rfl hp (pe_bin (pe_local rfl) pe_int ⟨rfl, rfl⟩) (Int.ofNat_sub (Nat.pos_of_ne_zero h0')).symm ea (by rw [hl]; exact Nat.le_trans hz (by decide))) na) (a' := .tup ((opens.map S).map .str)) ?_ ⟨opens.map S, rfl, rfl⟩) ?_) q)
    · exact ae_tuple (aes_cons (ae_str (aes_cons (ae_str (aes_cons (ae_str (aes_cons (ae_str (aes_cons (ae_str (aes_cons (ae_str (aes_cons (ae_str (aes_nil ⟨Nat.le_of_ble_eq_true rfl, rfl, rfl⟩)))))))))))))))
    · exact congrArg AV.bool (containsS _ _)
/-- _law_right(pieces, gaps, at) -/
theorem c_lright {at' : Nat} (hp : H lp = some (.list as)) (hN : PL H1 H ps as) (hg : H lg = some (.list (gs.map strT))) (hz : ps.length ≤ 1000) (he : gs.length = ps.length) (ha : at' < ps.length) (q : Q (.bool (rightOf ps gs at')) H) : AC (CC d) 1 (.ref 342) [.ref lp, .ref lg, .int at'] H Q X := by
  refine ac_fnL (ns := ["pieces", "gaps", "at"]) (by kernel_rfl) (fun _ _ _ => by show _ = _; kernel_rfl) (by kernel_rfl) ?_
  have hl := hN.len
  have gl : (gs.map strT).length ≤ 1000000 := by rw [List.length_map, he]; exact Nat.le_trans hz (by decide)
  unfold rightOf at q
  obtain ⟨g, eg⟩ := get_is (l := gs) (i := at') (he ▸ ha)
  refine as_consL ?_
  intro Kq
  refine a1_if (ab_of (z := at' + 1 == ps.length || gpAt gs at' != []) (PB.as (pb_or (z := at' + 1 == ps.length) (PB.as (pb_cmp (pe_bin (pe_local rfl) pe_int ⟨rfl, rfl⟩) (ae_bi (bi_len d) bo_len (aes_cons (ae_local rfl (aes_nil (acw_len_list hp (by rw [hl]; exact Nat.lt_of_le_of_lt hz (by decide)) ⟨rfl, rfl⟩))))) rfl) (by rw [hl]; exact beq_nn (a := at' + 1))) fun h0 => pb_or (z := gpAt gs at' != []) ?_ fun _ => pb_or_nil) (by rw [Bool.or_false])) ?_)
  · rw [gp_get eg]
    exact PB.as (pb_cmp (a := .str (S g)) (pe_get (i := at') rfl hg (pe_local rfl) rfl (by rw [List.getElem?_map, eg]; rfl) gl) pe_str rfl) (congrArg not (S_eq g []))
  cases z : (at' + 1 == ps.length || gpAt gs at' != []) with
  | true =>
    rw [z] at q
    exact as_cons (a1_return (ae_bool q))
  | false =>
    rw [z, Bool.false_or] at q
    have h0' : at' + 1 ≠ ps.length := by simpa using (Bool.or_eq_false_iff.mp z).1
    obtain ⟨p, ep⟩ := get_is (l := ps) (i := at' + 1) (Nat.lt_of_le_of_ne ha h0')
    refine xl_EA (hN.get ep) fun a ea na => ?_
    obtain ⟨p', ep'⟩ := get_is (l := ps) (i := at') (by exact lin [_, _] (.a (.v 0) (.n 1)) (.v 1) [((.a (.v 0) (.n 1)), (.v 1))] ha rfl)
    refine xl_EA (hN.get ep') fun a' ea' na' => ?_
    rw [tx_get ep, tx_get ep'] at q
    refine as_nil (as_consL ?_)
    intro Kq
    refine a1_assign (ae_of (pe_sub1 (pe_get (i := at' + 1) rfl hp (pe_bin (pe_local rfl) pe_int ⟨rfl, rfl⟩) rfl ea (by rw [hl]; exact Nat.le_trans hz (by decide))) na) (at_name ?_))
    refine as_consL ?_
    intro Kq
    refine a1_return (ae_of (PE.as (pe_or (pe_cmp (pe_local rfl) (a' := .tup ((closes.map S).map .str)) ?_ ⟨closes.map S, rfl, rfl⟩) fun _ => ae_boolop1 (pe_and (pe_cmp (pe_local rfl) pe_str rfl) fun _ => ae_boolop1 (pe_cmp (pe_sub1 (pe_get (i := at') rfl hp (pe_local rfl) rfl ea' (by rw [hl]; exact Nat.le_trans hz (by decide))) na') pe_tuple2 ⟨[S [33], S [63]], rfl, rfl⟩))) ?_) q)
    · exact ae_tuple (aes_cons (ae_str (aes_cons (ae_str (aes_cons (ae_str (aes_cons (ae_str (aes_cons (ae_str (aes_cons (ae_str (aes_nil ⟨Nat.le_of_ble_eq_true rfl, rfl, rfl⟩)))))))))))))
    · exact congrArg AV.bool (congr (congrArg or (containsS p.text closes)) (congr (congrArg and (S_eq p.text [46])) (contains2 p'.text [33] [63])))
/-- _law_side(is_left, is_right, text) -/
theorem c_side {l r : Bool} {text : List Nat} (q : Q (.str (S (place l r text))) H) : AC (CC d) 1 (.ref 354) [.bool l, .bool r, .str (S text)] H Q X := by
  refine ac_fnL (ns := ["is_left", "is_right", "text"]) (by kernel_rfl) (fun _ _ _ => by show _ = _; kernel_rfl) (by kernel_rfl) ?_
  unfold place at q
  refine as_consL ?_
  intro Kq
  refine a1_if (ab_of (z := l && !r) (PB.as (pb_and (pb_var rfl) fun _ => pb_and (pb_not (pb_var rfl)) fun _ => pb_and_nil) (by rw [Bool.and_true])) ?_)
  cases z1 : (l && !r) with
  | true =>
    refine as_consL ?_
    intro Kq
    refine a1_return (ae_str ?_)
    revert q z1; cases l <;> cases r <;> intro z q <;> first | exact z | injection q
  | false =>
    refine as_nil (as_consL ?_)
    intro Kq
    refine a1_if (ab_of (z := (r && !l) || (isEQ text && !l)) (PB.as (pb_or (pb_and (pb_var rfl) fun _ => pb_and (pb_not (pb_var rfl)) fun _ => pb_and_nil) fun _ => pb_or (pb_and (pb_cmp (pe_local rfl) pe_tuple2 ⟨[S [33], S [63]], rfl, rfl⟩) fun _ => pb_and (pb_not (pb_var rfl)) fun _ => pb_and_nil) fun _ => pb_or_nil) ?_) ?_)
    · simp only [Bool.and_true, Bool.or_false]
      exact congrArg (fun z => (r && !l) || (z && !l)) (contains2 text [33] [63])
    unfold isEQ
    cases z2 : ((r && !l) || ((text == [33] || text == [63]) && !l)) with
    | true =>
      refine as_consL ?_
      intro Kq
      refine a1_return (ae_str ?_)
      revert q z1 z2; cases l <;> cases r <;> cases (text == [33] || text == [63]) <;> intro z q z' <;> first | exact z | exact absurd q (by decide) | exact absurd z' (by decide)
    | false =>
      refine as_nil (as_consL ?_)
      intro Kq
      refine a1_return (ae_str ?_)
      revert q z1 z2; cases l <;> cases r <;> cases (text == [33] || text == [63]) <;> intro z q z' <;> first | exact z | exact absurd q (by decide) | exact absurd z' (by decide)
end
end Mine
end

section
open PySem PySem.W PySem.Calls PyProof.Rows Builtin.ObjectAttr
set_option maxHeartbeats 4000000
namespace Mine
/-- the tokens tell the pieces, from place at' on -/
inductive Right (ps0 : List Pc) (gs0 : List (List Nat)) : Nat → Int → Int → List Tk → List Pc → Prop
  | nil {at' : Nat} {row last : Int} {a : Tk} : a.kind = k_end → a.line = row → a.first = true → Right ps0 gs0 at' row last [a] []
  | cons {at' : Nat} {row last : Int} {a : Tk} {ts : List Tk} {p : Pc} {ps : List Pc} : Same a p → a.line = row → a.first = (row != last) → (p.kind = k_op → a.left = leftOf ps0 gs0 at' ∧ a.right = rightOf ps0 gs0 at') →
      Right ps0 gs0 (at' + 1) (row + nls (gpAt gs0 at')) row ts ps → Right ps0 gs0 at' row last (a :: ts) (p :: ps)
theorem Right.len {ps0 : List Pc} {gs0 : List (List Nat)} {at' : Nat} {row last : Int} {ts : List Tk} {ps : List Pc} (h : Right ps0 gs0 at' row last ts ps) : ts.length = ps.length + 1 := by
  induction h with
  | nil => rfl
  | cons _ _ _ _ _ ih => simp [ih]
theorem TL.len {H0 H : AHeap} {ps : List Tk} {as : List AV} (h : TL H0 H ps as) : as.length = ps.length := by
  induction h with
  | nil => rfl
  | cons _ _ ih => simp [ih]
noncomputable def enumFrom : Nat → List AV → List (Nat × AV)
  | _, [] => []
  | n, a :: r => (n, a) :: enumFrom (n + 1) r
theorem enum_is (as : List AV) : enumOf as = (enumFrom 0 as).map fun y => AV.tup [.int y.1, y.2] := by
  have key : ∀ (as : List AV) (n : Nat), as.mapIdx (fun i a => AV.tup [.int ((i + n : Nat) : Int), a]) = (enumFrom n as).map fun y => AV.tup [.int y.1, y.2] := by
    intro as
    induction as with
    | nil => intro n; rfl
    | cons a r ih =>
      intro n
      rw [List.mapIdx_cons, enumFrom, List.map_cons, ← ih (n + 1)]
      simp only [Nat.zero_add, Nat.add_assoc, Nat.add_comm 1 n]
  exact key as 0
theorem bi_enum (d : Dt) : nsIn (CC d).K mainGlobals "enumerate" = some none := by kernel_rfl
theorem bo_enum : bootBuiltins "enumerate" = some (.type "enumerate") := by kernel_rfl
theorem ae_enumn {d : Dt} {sc : Scope} {b : Nat} {σ : St} {X : Int → St → Prop} {p : Pos} {Q : AV → St → Prop} (h : Q (.ty "enumerate") σ) (hl : sc.names.lookup ("enumerate" : Str) = some .globalImplicit := by rfl) : AE (CC d) sc b (.Name "enumerate" p) σ Q X :=
  ae_builtin (a := .ty "enumerate") (v := .type "enumerate") (bi_enum d) bo_enum (fun _ => .ty _) h (by decide) hl
theorem drop_cons {α : Type} {l : List α} {n : Nat} {a : α} {r : List α} (h : l.drop n = a :: r) : l[n]? = some a ∧ l.drop (n + 1) = r := by
  have hl : n < l.length := by
    cases Nat.lt_or_ge n l.length with
    | inl h => exact h
    | inr h' => rw [List.drop_eq_nil_of_le h'] at h; injection h
  rw [List.drop_eq_getElem_cons hl] at h
  injection h with h1 h2
  exact ⟨by rw [List.getElem?_eq_getElem hl, h1], h2⟩
theorem eqT2 {a b : AV} {a' b' : AV} (h1 : eqS a a' = some true) (h2 : eqS b b' = some true) : eqT [a, b] [a', b'] = some true := eqT_of (eqZ_c h1 (eqZ_c h2 rfl)) rfl rfl
theorem eqT3 {a b c : AV} {a' b' c' : AV} (h1 : eqS a a' = some true) (h2 : eqS b b' = some true) (h3 : eqS c c' = some true) : eqT [a, b, c] [a', b', c'] = some true := eqT_of (eqZ_c h1 (eqZ_c h2 (eqZ_c h3 rfl))) rfl rfl
section
variable {d : Dt} {H H0 H1 : AHeap} {X : Int → AHeap → Prop} {Q : AV → AHeap → Prop} {lt lp lg : Addr} {ts : List Tk} {ps : List Pc} {gs : List (List Nat)} {ks as : List AV} {first : Int}
theorem TokN.ex {H0 H : AHeap} {a : Tk} {k : AV} (t : TokN H0 H a k) : ∃ x v P, k = .ref x ∧ H x = some (.inst 71 (tokFs a.kind a.text a.line a.first a.left a.right v P)) := by
  cases t with
  | mk _ _ h _ _ => exact ⟨_, _, _, rfl, h⟩
theorem Same.tx {a : Tk} {p : Pc} (h : Same a p) : a.text = p.text ∧ a.kind = p.kind := by cases h; exact ⟨rfl, rfl⟩
noncomputable def ArI (H0 H1 H : AHeap) (ps : List Pc) (gs : List (List Nat)) (ks as : List AV) (ys : List (Nat × AV)) (at' : Nat) (row last : Int) : Prop :=
  ∃ ts' ps', ys = enumFrom at' (as.drop at') ∧ Right ps gs at' row last ts' ps' ∧ TL H0 H ts' (ks.drop at') ∧ PL H1 H ps' (as.drop at') ∧ ∀ p ∈ ps', FitC 2 p
theorem TL.inv {a : Tk} {ts : List Tk} {ks : List AV} {n : Nat} (h : TL H0 H (a :: ts) (ks.drop n)) : ∃ k, ks[n]? = some k ∧ TokN H0 H a k ∧ TL H0 H ts (ks.drop (n + 1)) := by
  rcases hd : ks.drop n with _ | ⟨k, r⟩
  · rw [hd] at h; cases h
  · rw [hd] at h
    cases h with
    | cons h1 h2 => exact ⟨k, (drop_cons hd).1, h1, (drop_cons hd).2 ▸ h2⟩
theorem PL.inv {p : Pc} {ps : List Pc} {as : List AV} {n : Nat} (h : PL H1 H (p :: ps) (as.drop n)) : ∃ a, as[n]? = some a ∧ as.drop n = a :: as.drop (n + 1) ∧ PcN H1 H p a ∧ PL H1 H ps (as.drop (n + 1)) := by
  rcases hd : as.drop n with _ | ⟨a, r⟩
  · rw [hd] at h; cases h
  · rw [hd] at h
    cases h with
    | cons h1 h2 => exact ⟨a, (drop_cons hd).1, (drop_cons hd).2 ▸ rfl, h1, (drop_cons hd).2 ▸ h2⟩
theorem PL.emp {ps : List Pc} {as : List AV} {n : Nat} (h : PL H1 H ps (as.drop n)) (e : [] = enumFrom n (as.drop n)) : ps = [] := by
  rcases hd : as.drop n with _ | ⟨a, r⟩
  · rw [hd] at h; cases h; rfl
  · rw [hd] at e; injection e
theorem ar_end {at' : Nat} {row last : Int} (h : ArI H0 H1 H ps gs ks as [] at' row last) : ∃ k fs, ks.length = at' + 1 ∧ ks[at']? = some (.ref k) ∧ H k = some (.inst 71 fs) ∧ fs.lookup ("kind" : Str) = some (.str (S k_end)) ∧ fs.lookup ("line" : Str) = some (.int row) ∧ fs.lookup ("is_first" : Str) = some (.bool true) := by
  refine xl_EEAAAA h fun ts' ps' e R T N _ => ?_
  rw [N.emp e] at R
  cases R with
  | @nil _ _ _ a hk hl hf =>
  refine xl_EAA T.inv fun k ek tn T => ?_
  refine xl_EEEA tn.ex fun x v P e3 e4 => ?_
  rw [e3] at ek
  refine ⟨x, _, ?_, ek, e4, congrArg (fun z => some (AV.str (S z))) hk, congrArg (fun z => some (AV.int z)) hl, congrArg (fun z => some (AV.bool z)) hf⟩
  have h1 := (List.getElem?_eq_some_iff.mp ek).1
  have := T.len
  rw [List.length_drop] at this
  exact Nat.le_antisymm (Nat.le_of_sub_eq_zero this) h1
@[elab_as_elim] theorem ar_step {at' : Nat} {row last : Int} {y : Nat × AV} {ys : List (Nat × AV)} {G : Nat × AV → Prop} (h : ArI H0 H1 H ps gs ks as (y :: ys) at' row last) (hpl : as.length = ps.length) (he : gs.length = ps.length)
    (q : ∀ a k tk p g, at' < ps.length → gs[at']? = some g → ks[at']? = some k → Same tk p → FitC 2 p → TokN H0 H tk k → PcN H1 H p a → tk.line = row → tk.first = (row != last) → (p.kind = k_op → tk.left = leftOf ps gs at' ∧ tk.right = rightOf ps gs at') → ArI H0 H1 H ps gs ks as ys (at' + 1) (row + nls g) row → G (at', a)) : G y := by
  refine xl_EEAAAA h fun ts' ps' e R T N fit => ?_; clear h
  rcases ps' with _ | ⟨p, ps'⟩
  · rcases hd : as.drop at' with _ | ⟨a, r⟩
    · rw [hd] at e; injection e
    · rw [hd] at N; cases N
  refine xl_EAAA N.inv fun a ea ed pn N => ?_
  rw [ed] at e
  cases e
  cases R with
  | @cons _ _ _ tk ts' _ _ hS hl hf hs R =>
  refine xl_EAA T.inv fun k ek tn T => ?_
  have hat : at' < ps.length := hpl ▸ (List.getElem?_eq_some_iff.mp ea).1
  obtain ⟨g, eg⟩ := get_is (l := gs) (i := at') (he ▸ hat)
  rw [gp_get eg] at R
  exact q a k tk p g hat eg ek hS (fit p (.head _)) tn pn hl hf hs ⟨ts', ps', rfl, R, T, N, fun p hp => fit p (.tail _ hp)⟩
noncomputable def ArN (m : List (Str × AV)) (lt lp lg : Addr) (row last : Int) : Prop := m.lookup ("tokens" : Str) = some (AV.ref lt) ∧ m.lookup ("pieces" : Str) = some (AV.ref lp) ∧ m.lookup ("gaps" : Str) = some (AV.ref lg) ∧ m.lookup ("row" : Str) = some (.int row) ∧ m.lookup ("last" : Str) = some (.int last)
theorem tup5 {α β γ δ ε : Type} {P : α × β × γ × δ × ε → Prop} (h : ∀ a b c d e, P (a, b, c, d, e)) : ∀ g, P g := fun g => h g.1 g.2.1 g.2.2.1 g.2.2.2.1 g.2.2.2.2
/-- _law_are_right(tokens, pieces, gaps, first) -/
theorem c_are (hR : Right ps gs 0 first 0 ts ps) (ht : H lt = some (.list ks)) (hT : TL H0 H ts ks) (hp : H lp = some (.list as)) (hN : PL H1 H ps as) (hg : H lg = some (.list (gs.map strT))) (he : gs.length = ps.length) (hz : ps.length ≤ 1000) (hfit : ∀ p ∈ ps, FitC 2 p)
    (q : ∀ H', Grow H H' → Q (.bool true) H') : AC (CC d) 5 (.ref 361) [.ref lt, .ref lp, .ref lg, .int first] H Q X := by
  refine ac_fnL (ns := ["tokens", "pieces", "gaps", "first"]) (by kernel_rfl) (fun _ _ _ _ => by show _ = _; kernel_rfl) (by kernel_rfl) ?_
  have hkl := hT.len
  have hpl := hN.len
  have hrl := hR.len
  refine as_consL ?_
  intro Kq
  refine a1_swap2 (x := "row") (y := "last") (fun env he => by cases env; cases he; rfl) ?_
  refine ae_tuple (aes_cons (ae_local rfl (aes_cons (ae_int (aes_nil ⟨Nat.le_of_ble_eq_true rfl, _, _, rfl, ?_⟩)))))
  refine as_consL ?_
  intro Kq
  refine a1_if (ab_of (z := false) (PB.as (pb_cmp (ae_bi (bi_len d) bo_len (aes_cons (ae_local rfl (aes_nil (acw_len_list ht (Nat.lt_of_le_of_lt (Nat.le_trans (Nat.le_of_eq (hkl.trans hrl)) (Nat.succ_le_succ hz)) (by decide)) ⟨rfl, rfl⟩))))) (pe_bin (ae_bi (bi_len d) bo_len (aes_cons (ae_local rfl (aes_nil (acw_len_list hp (Nat.lt_of_le_of_lt (Nat.le_trans (Nat.le_of_eq hpl) hz) (by decide)) ⟨rfl, rfl⟩))))) pe_int ⟨rfl, rfl⟩) rfl) ?_) ?_)
  · rw [hkl, hrl, hpl]
    simp
  refine as_nil (as_consL ?_)
  intro Kq
  refine a1_for (asrc_enum (ae_enumn ⟨rfl, ae_local rfl ⟨lp, as, rfl, hp, hp, ?_⟩⟩))
  rw [enum_is]
  refine turns_ind (β := Nat × AV) (γ := Nat × Int × Int × AHeap × List (Str × AV)) (fun y => AV.tup [.int y.1, y.2]) (fun g => ⟨g.2.2.2.2, g.2.2.2.1⟩)
    (fun ys g => ArI H0 H1 H ps gs ks as ys g.1 g.2.1 g.2.2.1 ∧ Grow H g.2.2.2.1 ∧ ArN g.2.2.2.2 lt lp lg g.2.1 g.2.2.1)
    (tup5 fun at' row last Hc m hg => ?_) (fun y ys => tup5 fun at' row last Hc m hg ih => ?_) (enumFrom 0 as) (0, first, 0, H, _) ⟨⟨ts, ps, rfl, hR, hT, hN, hfit⟩, Grow.refl H, rfl, rfl, rfl, rfl, rfl⟩
  · refine xl_AAAAAA hg fun AI gr m1 m2 m3 m4 m5 => ?_
    dsimp only at AI gr m1 m2 m3 m4 m5
    refine xl_EEAAAAA (ar_end AI) fun k fs kl ek b3 fk flx ff => ?_
    have b3' := gr _ _ b3
    have ht' := gr _ _ ht
    have kz : ks.length ≤ 1001 := Nat.le_trans (Nat.le_of_eq (hkl.trans hrl)) (Nat.succ_le_succ hz)
    have sub : ∀ {Q : AV → St → Prop}, Q (.ref k) ⟨m, Hc⟩ → SubR (CC d) (.ref lt) (.int (-1)) ⟨m, Hc⟩ Q := fun q => ⟨ks, .ref k, ht', by decide, by decide, .inr ⟨by decide, Int.neg_le_neg (Int.ofNat_le.mpr (kl ▸ Nat.succ_le_succ (Nat.zero_le at'))), by rw [kl, neg_at]; exact ek⟩, q⟩
    refine as_consL ?_
    intro Kq
    refine a1_return (ae_cmp2 (ae_tuple (aes_cons ?_)))
    refine ae_attr (ae_sub (ae_local m1 (ae_neg (ae_int ⟨_, rfl, sub ⟨k, 71, _, _, rfl, b3', fk, okFld_field (okTok d) (by decide), rfl, aes_cons ?_⟩⟩))))
    refine ae_attr (ae_sub (ae_local m1 (ae_neg (ae_int ⟨_, rfl, sub ⟨k, 71, _, _, rfl, b3', flx, okFld_field (okTok d) (by decide), rfl, aes_cons ?_⟩⟩))))
    refine ae_attr (ae_sub (ae_local m1 (ae_neg (ae_int ⟨_, rfl, sub ⟨k, 71, _, _, rfl, b3', ff, okFld_field (okTok d) (by decide), rfl, aes_nil ⟨Nat.le_of_ble_eq_true rfl, ?_⟩⟩⟩))))
    refine ae_tuple (aes_cons (ae_str (aes_cons (ae_local m4 (aes_cons (ae_bool (aes_nil ⟨Nat.le_of_ble_eq_true rfl, true, ?_, q Hc gr⟩)))))))
    exact eqT3 eqS_str eqS_int rfl
  · refine xl_AAAAAA hg fun AI gr m1 m2 m3 m4 m5 => ?_; clear hg
    dsimp only at AI gr m1 m2 m3 m4 m5
    refine ar_step AI hpl he fun a k tk p g hat eg ek hS fitp tn pn hl hf hs AI2 => ?_
    clear AI
    refine at_tuple (as := [.int at', a]) (ats_cons (at_name (ats_cons (at_name (ats_nil ?_)))))
    have n1 : ∀ {u v : AV}, (fput (fput m "at" u) "piece" v).lookup ("tokens" : Str) = some (.ref lt) := look_ne (look_ne m1)
    have n2 : ∀ {u v : AV}, (fput (fput m "at" u) "piece" v).lookup ("pieces" : Str) = some (.ref lp) := look_ne (look_ne m2)
    have n3 : ∀ {u v : AV}, (fput (fput m "at" u) "piece" v).lookup ("gaps" : Str) = some (.ref lg) := look_ne (look_ne m3)
    have n4 : ∀ {u v : AV}, (fput (fput m "at" u) "piece" v).lookup ("row" : Str) = some (.int row) := look_ne (look_ne m4)
    have n5 : ∀ {u v : AV}, (fput (fput m "at" u) "piece" v).lookup ("last" : Str) = some (.int last) := look_ne (look_ne m5)
    have n6 : ∀ {u v : AV}, (fput (fput m "at" u) "piece" v).lookup ("at" : Str) = some u := look_ne look_eq
    have n7 : ∀ {u v : AV}, (fput (fput m "at" u) "piece" v).lookup ("piece" : Str) = some v := look_eq
    have tnc : TokN H0 Hc tk k := tn.mono fun a o h0 e => ⟨h0, gr a o e⟩
    have pnc : PcN H1 Hc p a := pn.mono fun a o h0 e => ⟨h0, gr a o e⟩
    refine as_consL ?_
    intro Kq
    refine a1_assign (ae_of (pe_get (i := at') n1 (gr _ _ ht) (pe_local n6) rfl ek (Nat.le_trans (Nat.le_of_eq (hkl.trans hrl)) (Nat.le_trans (Nat.succ_le_succ hz) (by decide)))) (at_name ?_))
    refine as_consL ?_
    intro Kq
    refine a1_if (ab_or (ab_not (ab_val (ae_fn (fa := 347) (by kernel_rfl) (by kernel_rfl) (aes_cons (ae_local look_eq (aes_cons (ae_local (look_ne n7) (aes_nil (AC.to (b := 2 + 2) (by decide) ?_))))))))))
    refine same_all d 2 Hc H0 H1 _ _ tk p k a hS fitp tnc pnc fun Hd g2 => ⟨true, rfl, ?_⟩
    have grd : Grow H Hd := gr.trans g2
    have tnd : TokN H0 Hd tk k := tnc.mono fun a o h0 e => ⟨h0, g2 a o e⟩
    have pnd : PcN H1 Hd p a := pnc.mono fun a o h0 e => ⟨h0, g2 a o e⟩
    refine xl_EEEA tnd.ex fun kx kv P ekx b3 => ?_
    rw [ekx]
    refine ab_or (ab_cmp2 (ae_tuple (aes_cons (ae_fld look_eq b3 (okTok d) rfl (aes_cons (ae_fld look_eq b3 (okTok d) rfl (aes_nil ⟨Nat.le_of_ble_eq_true rfl, ?_⟩)))))))
    refine ae_tuple (aes_cons (ae_local (look_ne n4) (aes_cons (ae_of (pe_cmp (pe_local (look_ne n4)) (pe_local (look_ne n5)) rfl) (aes_nil ⟨Nat.le_of_ble_eq_true rfl, false, ?_, ab_or_nil ?_⟩)))))
    · rw [hl, hf]; exact eqT2 eqS_int (congrArg some (beq_self_eq_true _))
    refine as_nil ?_
    refine as_seq (fun σ' => σ'.H = Hd ∧ σ'.m.lookup ("tokens" : Str) = some (.ref lt) ∧ σ'.m.lookup ("pieces" : Str) = some (.ref lp) ∧ σ'.m.lookup ("gaps" : Str) = some (.ref lg) ∧ σ'.m.lookup ("row" : Str) = some (.int row) ∧ σ'.m.lookup ("at" : Str) = some (.int at')) ?_ ?_
    · refine a1_if (ab_of (z := p.kind == k_op) (PB.as (pb_cmp (pe_item0p (look_ne n7) pnd) pe_str rfl) (S_eq p.kind k_op)) ?_)
      cases zk : p.kind == k_op with
      | false => exact as_nil ⟨rfl, rfl, look_ne n1, look_ne n2, look_ne n3, look_ne n4, look_ne n6⟩
      | true =>
        obtain ⟨sl, sr⟩ := hs (beq_iff_eq.mp zk)
        have hNd : PL H1 Hd ps as := hN.mono fun a o h0 e => ⟨h0, grd a o e⟩
        refine as_consL ?_
        intro Kq
        refine a1_assign (ae_tuple (aes_cons ?_))
        refine ae_fn (fa := 335) (by kernel_rfl) (by kernel_rfl) (aes_cons (ae_local (look_ne n2) (aes_cons (ae_local (look_ne n3) (aes_cons (ae_local (look_ne n6) (aes_nil ((c_lleft (grd _ _ hp) hNd (grd _ _ hg) hz he hat ?_).to (by decide)))))))))
        refine aes_cons ?_
        refine ae_fn (fa := 342) (by kernel_rfl) (by kernel_rfl) (aes_cons (ae_local (look_ne n2) (aes_cons (ae_local (look_ne n3) (aes_cons (ae_local (look_ne n6) (aes_nil ((c_lright (grd _ _ hp) hNd (grd _ _ hg) hz he hat ?_).to (by decide)))))))))
        refine aes_nil ⟨Nat.le_of_ble_eq_true rfl, at_name ?_⟩
        rw [← sl, ← sr]
        refine as_consL ?_
        intro Kq
        refine a1_if (ab_or (ab_cmp2 (ae_tuple (aes_cons (ae_fld (look_ne look_eq) b3 (okTok d) rfl (aes_cons ?_))))))
        refine ae_fld (look_ne look_eq) b3 (okTok d) rfl (aes_nil ⟨Nat.le_of_ble_eq_true rfl, ?_⟩)
        refine ae_local look_eq ⟨false, eqT2 (congrArg some (beq_self_eq_true _)) (congrArg some (beq_self_eq_true _)), ?_⟩
        refine ab_or (ab_cmp2 ?_)
        refine ae_fn (fa := 230) (by kernel_rfl) (by kernel_rfl) (aes_cons (ae_local (look_ne look_eq) (aes_nil ((c_place b3 ?_).to (by decide)))))
        refine ae_fn (fa := 354) (by kernel_rfl) (by kernel_rfl) (aes_cons ?_)
        refine ae_sub (ae_local look_eq (ae_int (subR_tup (i := 0) rfl (by decide) ?_)))
        refine aes_cons (ae_sub (ae_local look_eq (ae_int (subR_tup (i := 1) rfl (by decide) ?_))))
        refine aes_cons (ae_of (pe_item1p (look_ne (look_ne n7)) pnd) (aes_nil ((c_side (l := tk.left) (r := tk.right) (text := p.text) ?_).to (by decide))))
        refine ⟨false, ?_, ab_or_nil ?_⟩
        · rw [hS.tx.1]
          show some (S (place tk.left tk.right p.text) != S (place tk.left tk.right p.text)) = some false
          rw [bne_self_eq_false]
        · exact as_nil (as_nil ⟨rfl, rfl, look_ne (look_ne n1), look_ne (look_ne n2), look_ne (look_ne n3), look_ne (look_ne n4), look_ne (look_ne n6)⟩)
    · rintro ⟨m', H'⟩ ⟨rfl, i1, i2, i3, i4, i5⟩
      dsimp only at i1 i2 i3 i4 i5
      refine as_consL ?_
      intro Kq
      refine a1_swap2 (x := "last") (y := "row") (fun env he => by cases env; cases he; rfl) ?_
      refine ae_tuple (aes_cons (ae_local i4 (aes_cons (ae_bin (ae_local i4 (ae_meth (ae_of (pe_get (i := at') (a := .str (S g)) i3 (grd _ _ hg) (pe_local i5) rfl (by rw [List.getElem?_map, eg]; rfl) (by rw [List.length_map, he]; exact Nat.le_trans hz (by decide))) ⟨.bi "str.count", [.str (S g)], mr_str PySem.F.slot_str_count PySem.F.type_str_count, rfl, aes_cons (ae_str (aes_nil (acw_count ?_)))⟩))) ))))
      refine aes_nil ⟨Nat.le_of_ble_eq_true rfl, _, _, rfl, as_nil ⟨grd _ _ hp, ?_⟩⟩
      rw [show Txt.count (S g) ("\n" : Str) = nls g from count_nl g]
      exact ih (at' + 1, row + nls g, row, H', _) ⟨AI2, grd, look_ne (look_ne i1), look_ne (look_ne i2), look_ne (look_ne i3), look_ne look_eq, look_eq⟩
end
end Mine
end

section
open PySem PySem.W PySem.Calls PyProof.Rows Builtin.ObjectAttr
set_option maxHeartbeats 4000000
namespace Mine
noncomputable def kwWords : List (List Nat) := [[95], [97, 115], [98, 114, 101, 97, 107], [99, 97, 115, 101], [99, 97, 116, 99, 104], [99, 108, 97, 115, 115], [99, 111, 110, 116, 105, 110, 117, 101], [100, 101, 102, 97, 117, 108, 116], [100, 101, 102, 101, 114], [100, 101, 105, 110, 105, 116], [100, 111], [101, 108, 115, 101], [101, 110, 117, 109], [101, 120, 116, 101, 110, 115, 105, 111, 110], [102, 97, 108, 108, 116, 104, 114, 111, 117, 103, 104], [102, 97, 108, 115, 101], [102, 111, 114], [102, 117, 110, 99], [103, 117, 97, 114, 100], [105, 102], [105, 110], [105, 110, 105, 116], [105, 110, 111, 117, 116], [105, 115], [108, 101, 116], [110, 105, 108], [112, 114, 111, 116, 111, 99, 111, 108], [114, 101, 112, 101, 97, 116], [114, 101, 116, 117, 114, 110], [115, 101, 108, 102], [115, 116, 97, 116, 105, 99], [115, 116, 114, 117, 99, 116], [115, 117, 112, 101, 114], [115, 119, 105, 116, 99, 104], [116, 104, 114, 111, 119], [116, 104, 114, 111, 119, 115], [116, 114, 117, 101], [116, 114, 121], [118, 97, 114], [119, 104, 101, 114, 101], [119, 104, 105, 108, 101]]
noncomputable def kwC (w : List Nat) : Bool := kwWords.contains w
theorem kw_words (d : Dt) : Txt.words (kwT d) = kwWords.map S := by kernel_rfl
theorem kw_is (d : Dt) : isKw d = kwC := by
  funext w
  unfold isKw kwC
  rw [kw_words, containsS]
noncomputable def deepT : Nat → List Nat
  | 0 => [49]
  | n + 1 => [34, 92, 40] ++ deepT n ++ [41, 34]
noncomputable def FU : Nat := 200000
theorem fix1 : topF kwC FU (10 :: List.replicate 81 57) = some (.bad 2) := by kernel_rfl
theorem fix2 : topF kwC FU (48 :: 120 :: List.replicate 81 102) = some (.bad 1) := by kernel_rfl
theorem fix6 : topF kwC FU [97, 10, 47, 42, 32, 98, 10, 47, 42, 32, 42, 47, 10] = some (.bad 2) := by kernel_rfl
theorem fix4 : topF kwC FU (List.replicate 80 49) = some (.ok (.cons (.mk k_int (List.replicate 80 49) 1 true true true ((10 ^ 80 - 1 : Int) / 9) .nil) (.cons (.mk k_end [] 1 true true true 0 .nil) .nil))) := by kernel_rfl
theorem fix3 : topF kwC FU (deepT 13) = some (.bad 1) := by kernel_rfl
noncomputable def told (r : Option (Rs Tks)) (p : Tks → Bool) : Bool := match r with | some (.ok ts) => p ts | _ => false
theorem told_is {r : Option (Rs Tks)} {p : Tks → Bool} (h : told r p = true) : ∃ ts, r = some (.ok ts) ∧ p ts = true := by
  unfold told at h
  split at h
  · exact ⟨_, rfl, h⟩
  · injection h
theorem fix5 : told (topF kwC FU (deepT 12)) (fun ts => ts.len == 2) = true := by kernel_rfl
noncomputable def opRows (ts : List Tk) : List (List Nat × List Nat) := (ts.filter fun a => a.kind == k_op).map fun a => (a.text, place a.left a.right a.text)
noncomputable def sevenT : List Nat := [99, 32, 63, 32, 97, 33, 58, 32, 40, 45, 98, 41, 63, 46, 100]
theorem fix7 : told (topF kwC FU sevenT) (fun ts => opRows ts.list == [([63], k_infix), ([33], k_postfix), ([45], k_prefix), ([63], k_postfix)] && Nat.ble ts.len 100) = true := by kernel_rfl
end Mine
end

section
open PySem PySem.W PySem.Calls PyProof.Rows
set_option maxHeartbeats 4000000
namespace Mine
section
variable {c : Cx} {sc : Scope} {b : Nat} {σ : St} {X : Int → St → Prop}
/-- y = [ .. for .. in .. if .. ]: the name is stored before the inner names go -/
theorem a1_listcomp {y : Str} {py : Pos} {elt tgt iter : Expr} {ifs : List Expr} {scope : Scope} {p spos : Pos} {Q : AFl → St → Prop}
    (h : ASrc c sc b iter tgt σ (fun items P σ₁ => P σ₁.H ∧ items.length ≤ 100000 ∧ ACTurns c scope b tgt ifs elt P (fun acc σ₂ => ∀ a, σ₂.H a = none → Q .next ⟨fput σ₁.m y (.ref a), σ₂.H.set a (.list acc)⟩) items [] ⟨[], σ₁.H⟩) X)
    (hsw : ∀ env : Env, env.scope = sc → swapsWith (.ListComp elt [⟨tgt, iter, ifs, 0⟩] scope p) (some (.Name y py)) spos.line env = pure true) (hl : sc.names.lookup y = some .local := by rfl)
    (hs : ∀ env x, foldedSetIterable iter env x = pure x := by intro _ _; rfl)
    (hfree : ∀ x ∈ scope.names, x.2 ≠ .free := by decide) (hcell : ∀ x ∈ scope.names, x.2 ≠ .cell := by decide) (hkind : scope.kind = .function := by rfl) (hnames : ∀ x ∈ scope.names, x.2 = .local → scope.names.lookup x.1 = some .local := by decide) :
    A1 c sc b (.Assign [.Name y py] (.ListComp elt [⟨tgt, iter, ifs, 0⟩] scope p) spos) σ Q X := fun f s N hf own R => by
  rw [exec_Assign_Name_used _ _ _ _ (hsw _ hf.scope)]
  refine wpAny_bind (wpAny_standAt (wpAny_bind ?_))
  show wpAny _ f.A (do let _ ← comprehension (.ListComp elt [⟨tgt, iter, ifs, 0⟩] scope p) scope f.env _ (newList []) false (eval iter f.env) (some (assign (.Name y py) f.env))) _ _ s
  refine wpAny_bind (wpAny_mono (wpAny_comprehension_use (Q := fun _ s' => Pst c f s N (RF Q) .next s') rfl (hs _) hfree hkind hnames
    (wpAny_mono (h f s N hf R) (fun x s₁ h₁ => wpAny_mono h₁ (fun it s₂ zf0 => xl_EEEEEAAAAAA zf0 fun σ₂ N₂ items P J st R₂ S hJ hP hz ht => ?_) fun _ _ z => z) fun _ _ z => z))
    (fun _ s' hq => wpAny_pure (wpAny_pure hq)) fun _ _ e => e)
  refine wpAny_newObj_type (wpAny_newFunctionEnv hcell (by intro y hy; simp at hy) (fun h₁ hns₁ hsb₁ => ?_) hkind) (by size_fits)
  dsimp only at hns₁ hsb₁ ⊢
  generalize hH : s₂.heap.push { cls := .type "list", dict := none, data := .seq ([] : List Value).toArray } = H2 at hns₁ hsb₁ ⊢
  have hC : H2.objs.size = s₂.heap.objs.size + 1 := by rw [← hH, Heap.size_push]
  generalize hD : s₂.heap.objs.size = D at hC ⊢
  have d0 : s₂.heap.get? D = none := by rw [← hD]; exact none_at _
  have c0 : s₂.heap.get? H2.objs.size = none := Heap.get?_none_of_le (by rw [hC, ← hD]; exact Nat.le_succ _)
  have keep : ∀ b o, s₂.heap.get? b = some o → h₁.get? b = some o := fun b o e => hsb₁.extBut b o (fun z => by rw [z, c0] at e; injection e) (Heap.get?_push_of_some _ (hH ▸ Heap.get?_push_of_some _ e))
  have hDC : D ≠ H2.objs.size := by rw [hC]; exact Nat.ne_of_lt (Nat.lt_succ_self _)
  have dAt : h₁.get? D = some (listOf ([] : List Value).toArray 0) := hsb₁.extBut _ _ hDC (Heap.get?_push_of_some _ (by rw [← hH, ← hD]; exact Heap.get?_push_size _ rfl))
  have R₃ : Rp c (f.inner scope H2.objs.size) { s₂ with heap := h₁, toks := s₂.toks + ([] : List (Str × Value)).length } ⟨[], σ₂.H⟩ N₂ := R₂.into c0 (by rw [hC, hD]; exact Nat.le_succ _) hns₁ keep (Nat.le_add_right _ _)
  have R₃' : Rp c f { s₂ with heap := h₁, toks := s₂.toks + ([] : List (Str × Value)).length } ⟨σ₂.m, σ₂.H⟩ N₂ := R₂.keeps keep (Nat.le_add_right _ _)
  have hf' : FOk c scope b (f.inner scope H2.objs.size) := ⟨hf.ok, rfl, hkind, hf.glob, hf.bins, hf.frame, hf.fframe, hf.frames, hf.room, hf.units, hf.handled⟩
  have st₃ : Step f.env.locals s₂ N₂ { s₂ with heap := h₁, toks := s₂.toks + ([] : List (Str × Value)).length } N₂ := .of_keeps keep
  have hJ₃ := S.stay _ _ _ _ _ _ hJ R₂.locNF st₃
  have hcL : f.env.locals ≠ H2.objs.size := fun z => by obtain ⟨o, e⟩ := R₂.locThere; rw [z, c0] at e; injection e
  have B₃ : CB c f scope H2.objs.size D s N σ₂.m [] _ ⟨[], σ₂.H⟩ N₂ := ⟨st.trans st₃, R₃', R₃, ⟨[], 0, dAt, R₂.N_of_none d0, .nil⟩, st.fresh c0, st.fresh d0, hcL, hDC, R₂.base_lt d0⟩
  have loop := comp_turns (iter := iter) (p := p) hf' S hz B₃ hJ₃ hP ht
  have loop' : codeAny (model c.prog c.w) f.A (.compStart (.ListComp elt [⟨tgt, iter, ifs, 0⟩] scope p) 0 it (.ref D) (f.inner scope H2.objs.size).env) _ _ := codeAny_compStart_list loop (S.self f _ _ _ _ _ hJ₃ loop)
  refine codeAny_mono loop' fun r s' zf1 => xl_AEEEAA zf1 fun hr σ' N' acc B hacc q => ?_
  subst hr
  obtain ⟨b1, b2, b3, ⟨ws, n, d1, d2, d3⟩, b5, b6, b7, b8, dB⟩ := B
  refine xl_EA (id b3.loc) fun mi Fi _ => ?_
  have nC : N' H2.objs.size = none := b3.locOut
  have cB : c.B.get? H2.objs.size = none := R₂.base_lt c0
  have cF : H2.objs.size ∉ f.frs := fun w => by refine xl_EEEA (R₂.fd _ w) fun o es n' i1 _ => ?_; rw [c0] at i1; injection i1
  have dL : D ≠ f.env.locals := fun z => by
    refine xl_EA b2.loc fun mc F _ => ?_
    refine xl_EEEAA F.ns fun oL es ep h1 h2 _ => ?_
    rw [← z, d1] at h1; cases h1; cases h2
  have dF : D ∉ f.frs := fun w => by
    refine xl_EEEA (b2.fd D w) fun o es n' j1 j2 => ?_
    rw [d1] at j1; cases j1; cases j2
  have hH : σ'.H D = none := by
    cases z : σ'.H D with
    | none => rfl
    | some o =>
      have y := b2.rel D o z
      induction o with
      | list vs => refine xl_EEA y fun _ _ e _ => ?_; try clear y; rw [d2] at e; injection e
      | inst C fs => refine xl_EEEA y fun _ _ _ e _ => ?_; try clear y; rw [d2] at e; injection e
      | dict w kvs => refine xl_EEA y fun _ _ e _ => ?_; try clear y; rw [d2] at e; injection e
  obtain ⟨R'', st''⟩ := b2.adopt d1 d2 dB dL dF d3 b1 b6
  have nC' : (N'.set D (listOf ws.toArray n)) H2.objs.size = none := (Ledger.set_ne _ _ (Ne.symm hDC)).trans nC
  refine wpAny_assign_Name (store_ok hf R'' hl (.ref D) fun s₄ st₄ R₄ => ?_)
  refine xl_EEEAAA Fi.ns fun oC esC epC i1 i2 i3 i4 => ?_
  obtain ⟨sl, i5⟩ := st₄.rest _ oC i1 (Ne.symm b7) nC'
  refine ⟨mi, ⟨_, esC, epC, i5, i2, i3, i4⟩, fun h' hsb => ?_⟩
  have k : ∀ b o, ¬ (b = H2.objs.size) → (N'.set D (listOf ws.toArray n)) b = (N'.set D (listOf ws.toArray n)) b → s₄.heap.get? b = some o → h'.get? b = some o := fun b o u _ e => (hsb.2 b u).trans e
  obtain ⟨R', tk, st'⟩ := R₄.mach (s₀ := s) (N₀ := N) (t := s₄.toks) (U := fun b => b = H2.objs.size) (h' := h') (N'.set D (listOf ws.toArray n)) (fun b u => by subst u; exact ⟨b5, cB, nC', Ne.symm b7, cF, _, i5, fun vs n' q => by have q := congrArg Obj.data q; rw [show Obj.data { oC with slots := sl } = oC.data from rfl, i2] at q; injection q⟩) (fun b => .inl rfl) k
  exact ⟨_, _, st' _ (st''.trans st₄), R', _, .next, q D hH⟩
end
end Mine
end

section
open PySem PySem.W PySem.Calls PyProof.Rows Builtin.ObjectAttr
set_option maxHeartbeats 4000000
namespace Mine
theorem FU4 : 4 * FU ≤ 1000000 := by decide
section
variable {d : Dt} {H : AHeap} {X : Int → AHeap → Prop} {Q : AV → AHeap → Prop}
/-- _law_seen(text) -/
theorem c_seen {t : List Nat} {res : Rs Tks} (ht : t.length ≤ 1000000) (e : topF kwC FU t = some res)
    (q : ∀ ts ks l H', res = .ok ts → Grow H H' → H l = none → H' l = some (.list ks) → ToksN H H' ts ks → Q (.ref l) H') (qx : ∀ l, res = .bad l → ∀ H', Grow H H' → Q (.int l) H') : AC (CC d) 46 (.ref 368) [.str (S t)] H Q X := by
  refine ac_fnL (ns := ["text"]) (by kernel_rfl) (fun _ => by show _ = _; kernel_rfl) (by kernel_rfl) ?_
  refine as_consL ?_
  intro Kq
  refine a1_try (tkOf d) ?_
  refine as_consL ?_
  intro Kq
  refine a1_return (ae_fn (fa := 223) (by kernel_rfl) (by kernel_rfl) (aes_cons (ae_local rfl (aes_nil (AC.to (b := 45) (by decide) ?_)))))
  exact c_tokens ht FU4 (by rw [kw_is]; exact e) (fun ts ks l H' e1 g1 h1 h2 n => q ts ks l H' e1 g1 h1 h2 n) fun l e1 H' g => qx l e1 H' g
theorem c_seen_bad {t : List Nat} {l : Int} (ht : t.length ≤ 1000000) (e : topF kwC FU t = some (.bad l)) (q : ∀ H', Grow H H' → Q (.int l) H') : AC (CC d) 46 (.ref 368) [.str (S t)] H Q X :=
  c_seen ht e (fun ts ks l H' e => nomatch e) fun l' e H' g => by injection e with e; rw [← e]; exact q H' g
theorem c_seen_ok {t : List Nat} {ts : Tks} (ht : t.length ≤ 1000000) (e : topF kwC FU t = some (.ok ts)) (q : ∀ ks l H', Grow H H' → H l = none → H' l = some (.list ks) → ToksN H H' ts ks → Q (.ref l) H') : AC (CC d) 46 (.ref 368) [.str (S t)] H Q X :=
  c_seen ht e (fun ts' ks l H' e g h1 h2 n => q ks l H' g h1 h2 (by injection e with e; rw [e]; exact n)) fun l e => nomatch e
theorem TokN.mk_ex {H0 H : AHeap} {kind text : List Nat} {line value : Int} {first l r : Bool} {parts : Pts} {k : AV} (t : TokN H0 H (.mk kind text line first l r value parts) k) : ∃ x P, k = .ref x ∧ H x = some (.inst 71 (tokFs kind text line first l r value P)) := by
  cases t with
  | mk _ _ h _ _ => exact ⟨_, _, rfl, h⟩
theorem TL.emp {H0 H : AHeap} {ts : List Tk} (h : TL H0 H ts []) : ts = [] := by cases h; rfl
theorem TL.out {H0 H : AHeap} {ts : List Tk} {y : AV} {ys : List AV} (h : TL H0 H ts (y :: ys)) : ∃ tk ts' x v P, ts = tk :: ts' ∧ TL H0 H ts' ys ∧ y = .ref x ∧ H x = some (.inst 71 (tokFs tk.kind tk.text tk.line tk.first tk.left tk.right v P)) := by
  cases h with
  | cons h1 h2 => exact xl_EEEA h1.ex fun x v P e h => ⟨_, _, x, v, P, rfl, h2, e, h⟩
/-- _law_deep(many) -/
theorem c_deep {n : Nat} (hn : n ≤ 100) (q : Q (.str (S (deepT n))) H) : AC (CC d) 1 (.ref 375) [.int n] H Q X := by
  refine ac_fnL (ns := ["many"]) (by kernel_rfl) (fun _ => by show _ = _; kernel_rfl) (by kernel_rfl) ?_
  have dl : ∀ n, (deepT n).length = 5 * n + 1 := fun n => by
    induction n with
    | zero => rfl
    | succ n ih => unfold deepT; simp only [List.length_append, List.length_cons, List.length_nil, ih]; exact Nat.le_antisymm (lin [_] (.a (.a (.n 3) (.a (.m 5 (.v 0)) (.n 1))) (.n 2)) (.a (.m 5 (.a (.v 0) (.n 1))) (.n 1)) []  rfl) (lin [_] (.a (.m 5 (.a (.v 0) (.n 1))) (.n 1)) (.a (.a (.n 3) (.a (.m 5 (.v 0)) (.n 1))) (.n 2)) []  rfl)
  refine as_consL ?_
  intro Kq
  refine a1_assign (ae_str (at_name ?_))
  refine as_consL ?_
  intro Kq
  refine a1_for (asrc_range (ae_range ⟨rfl, ae_local rfl ⟨_, rfl, by exact linI [] [_] (.a (.c (.v 0)) (.n 1)) (.n 1099511627776) [((.c (.v 0)), (.c (.n 100)))] (Int.ofNat_le.mpr hn) rfl, by exact linI [] [_] (.a (.n (-1099511627776)) (.n 1)) (.c (.v 0)) []  rfl, trivial, ?_⟩⟩))
  rw [Int.toNat_natCast]
  refine turns_ind (β := Nat) (γ := List (Str × AV)) (fun i => AV.int i) (fun m => ⟨m, H⟩) (fun ys m => ys.length ≤ n ∧ m.lookup ("text" : Str) = some (.str (S (deepT (n - ys.length))))) (fun m hm => ?_) (fun i ys m hm ih => ?_) (List.range n) _ ⟨by simp, by simp; rfl⟩
  · have := hm.2
    rw [List.length_nil, Nat.sub_zero] at this
    exact as_cons (a1_return (ae_local this q))
  · obtain ⟨h1, h2⟩ := hm
    rw [List.length_cons] at h1 h2
    refine at_name ?_
    have hd : deepT (n - ys.length) = [34, 92, 40] ++ deepT (n - (ys.length + 1)) ++ [41, 34] := by
      rw [show n - ys.length = (n - (ys.length + 1)) + 1 by omega]; rfl
    have hlen := dl (n - (ys.length + 1))
    refine as_consL ?_
    intro Kq
    refine a1_assign (ae_of (pe_cat (x := [34, 92, 40] ++ deepT (n - (ys.length + 1))) (y := [41, 34]) (pe_cat (x := [34, 92, 40]) pe_str (pe_local (look_ne h2)) (by rw [hlen]; simp only [List.length_cons, List.length_nil]; omega)) pe_str (by simp only [List.length_append, hlen, List.length_cons, List.length_nil]; omega)) (at_name (as_nil ⟨trivial, ih _ ⟨by exact lin [_, _] (.v 0) (.v 1) [((.a (.v 0) (.n 1)), (.v 1))] h1 rfl, ?_⟩⟩)))
    rw [hd]; exact look_eq
end
theorem pe_rep {c : Cx} {sc : Scope} {b : Nat} {σ : St} {X : Int → St → Prop} {l r : Expr} {p : Pos} {x : Str} {n : Int} {t : List Nat} (h1 : PE c sc b l σ (.str x) X) (h2 : PE c sc b r σ (.int n) X) (e : rep x n = S t) (g1 : 2 ≤ n) (g2 : n ≤ 1000) (g3 : 1 ≤ x.length) (g4 : x.length ≤ 1000) (g5 : t.length ≤ 100000) : PE c sc b (.BinOp l .Mult r p) σ (.str (S t)) X :=
  ae_bin2 (ae_of h1 (ae_of h2 ⟨g1, g2, g3, g4, by rw [e, S_len]; exact g5, congrArg AV.str e, rfl⟩))
theorem rep9 : rep "9" 81 = S (List.replicate 81 57) := by kernel_rfl
theorem repf : rep "f" 81 = S (List.replicate 81 102) := by kernel_rfl
theorem rep1 : rep "1" 80 = S (List.replicate 80 49) := by kernel_rfl
theorem cturns_ind2 {c : Cx} {sc : Scope} {b : Nat} {tgt elt : Expr} {ifs : List Expr} {P : AHeap → Prop} {Q : List AV → St → Prop} {γ : Type} (σ : γ → St) (I : List AV → List AV → γ → Prop)
    (done : ∀ acc g, I [] acc g → Q acc (σ g))
    (step : ∀ y ys acc g, I (y :: ys) acc g → (∀ acc' g', I ys acc' g' → ACTurns c sc b tgt ifs elt P Q ys acc' (σ g')) → AT c sc b tgt y (σ g) (fun σ₁ => ATests c sc b (fun _ _ => False) (fun z σ₂ => if z then AE c sc b elt σ₂ (fun v σ₃ => P σ₃.H ∧ ACTurns c sc b tgt ifs elt P Q ys (acc ++ [v]) σ₃) (fun _ _ => False)
      else P σ₂.H ∧ ACTurns c sc b tgt ifs elt P Q ys acc σ₂) ifs σ₁) (fun _ _ => False)) : ∀ (ys acc : List AV) (g : γ), I ys acc g → ACTurns c sc b tgt ifs elt P Q ys acc (σ g)
  | [], acc, g, h => done acc g h
  | y :: ys, acc, g, h => step y ys acc g h fun acc' g' h' => cturns_ind2 σ I done step ys acc' g' h'
noncomputable def told4 : List (List Nat × List Nat) := [([63], k_infix), ([33], k_postfix), ([45], k_prefix), ([63], k_postfix)]
theorem opRows_cons (a : Tk) (r : List Tk) : opRows (a :: r) = if a.kind == k_op then (a.text, place a.left a.right a.text) :: opRows r else opRows r := by
  unfold opRows
  rw [List.filter_cons]
  split <;> rfl
section
variable {d : Dt} {H : AHeap} {X : Int → AHeap → Prop} {Q : AV → AHeap → Prop}
/-- _law_fixed_right() -/
theorem c_fixed (q : ∀ H', Grow H H' → Q (.bool true) H') : AC (CC d) 47 (.ref 380) [] H Q X := by
  refine ac_fnL (ns := []) (by kernel_rfl) (by show _ = _; kernel_rfl) (by kernel_rfl) ?_
  refine as_consL ?_
  intro Kq
  refine a1_if (ab_or (ab_cmp2 (ae_fn (fa := 368) (by kernel_rfl) (by kernel_rfl) (aes_cons ?_))))
  refine ae_of (pe_cat (x := [10]) pe_str (pe_rep pe_str pe_int rep9 (by decide) (by decide) (by decide) (by decide) (by decide)) (by decide)) (aes_nil ((c_seen_bad (t := [10] ++ List.replicate 81 57) (by decide) fix1 fun H1 g1 => ?_).to (by decide)))
  refine ae_int ⟨false, rfl, ?_⟩
  refine ab_or (ab_cmp2 (ae_fn (fa := 368) (by kernel_rfl) (by kernel_rfl) (aes_cons ?_)))
  refine ae_of (pe_cat (x := [48, 120]) pe_str (pe_rep pe_str pe_int repf (by decide) (by decide) (by decide) (by decide) (by decide)) (by decide)) (aes_nil ((c_seen_bad (t := [48, 120] ++ List.replicate 81 102) (by decide) fix2 fun H2 g2 => ?_).to (by decide)))
  refine ae_int ⟨false, rfl, ?_⟩
  refine ab_or (ab_cmp2 (ae_fn (fa := 368) (by kernel_rfl) (by kernel_rfl) (aes_cons ?_)))
  refine ae_fn (fa := 375) (by kernel_rfl) (by kernel_rfl) (aes_cons (ae_int (aes_nil ((c_deep (n := 13) (by decide) ?_).to (by decide)))))
  refine aes_nil ((c_seen_bad (t := deepT 13) (by decide) fix3 fun H3 g3 => ?_).to (by decide))
  refine ae_int ⟨false, rfl, ab_or_nil ?_⟩
  have G3 := (g1.trans g2).trans g3
  refine as_nil (as_consL ?_)
  intro Kq
  refine a1_if (ab_or (ab_cmp2 (ae_attr (ae_sub (ae_fn (fa := 368) (by kernel_rfl) (by kernel_rfl) (aes_cons ?_))))))
  refine ae_of (pe_rep pe_str pe_int rep1 (by decide) (by decide) (by decide) (by decide) (by decide)) (aes_nil ((c_seen_ok (t := List.replicate 80 49) (by decide) fix4 fun ks l H4 g4 h1 h2 n => ?_).to (by decide)))
  refine xl_EEAA n.inv fun k ks' ek n1 _ => ?_
  refine xl_EEA n1.mk_ex fun kx P ekx b3 => ?_
  refine ae_int ⟨ks, .ref kx, h2, by decide, by decide, .inl ⟨by decide, by rw [ek, ekx]; rfl⟩, kx, 71, _, _, rfl, b3, rfl, okFld_field (okTok d) (by decide), rfl, ?_⟩
  refine ae_bin2 (ae_bin2 (ae_bin2 (ae_int (ae_int ⟨by decide, by decide, by decide, ae_int ?_⟩))))
  refine ae_int ⟨by decide, by decide, false, ?_, ?_⟩
  · exact congrArg some (show (((10 ^ 80 - 1 : Int) / 9) != ((10 : Int) ^ (80 : Int).toNat - 1).fdiv 9) = false by decide +kernel)
  have G4 := G3.trans g4
  refine xl_EA (told_is fix5) fun ts5 e5 l5 => ?_
  refine ab_or (ab_cmp2 (ae_bi (bi_len d) bo_len (aes_cons ?_)))
  refine ae_fn (fa := 368) (by kernel_rfl) (by kernel_rfl) (aes_cons ?_)
  refine ae_fn (fa := 375) (by kernel_rfl) (by kernel_rfl) (aes_cons (ae_int (aes_nil ((c_deep (n := 12) (by decide) ?_).to (by decide)))))
  refine aes_nil ((c_seen_ok (t := deepT 12) (by decide) e5 fun ks l H5 g5 h1 h2 n => ?_).to (by decide))
  have k5 : ks.length = 2 := by rw [n.len]; exact beq_iff_eq.mp l5
  refine aes_nil (acw_len_list h2 (by rw [k5]; decide) (ae_int ⟨false, by rw [k5]; rfl, ab_or_nil ?_⟩))
  have G5 := G4.trans g5
  refine as_nil (as_consL ?_)
  intro Kq
  refine a1_if (ab_cmp2 (ae_fn (fa := 368) (by kernel_rfl) (by kernel_rfl) (aes_cons ?_)))
  refine ae_str (aes_nil ((c_seen_bad (t := [97, 10, 47, 42, 32, 98, 10, 47, 42, 32, 42, 47, 10]) (by decide) fix6 fun H6 g6 => ?_).to (by decide)))
  refine ae_int ⟨false, rfl, ?_⟩
  have G6 := G5.trans g6
  refine xl_EA (told_is fix7) fun ts7 e7 l7 => ?_
  obtain ⟨l7', l8⟩ := Bool.and_eq_true_iff.mp l7
  have l7' : opRows ts7.list = told4 := beq_iff_eq.mp l7'
  refine as_nil (as_consL ?_)
  intro Kq
  refine a1_listcomp (asrc_list (ae_fn (fa := 368) (by kernel_rfl) (by kernel_rfl) (aes_cons ?_))) (fun env he => by cases env; cases he; rfl)
  refine ae_str (aes_nil ((c_seen_ok (t := sevenT) (by decide) e7 fun ks l H7 g7 h1 h2 n => ?_).to (by decide)))
  have tl := n.tl
  have G7 := G6.trans g7
  have hk : ks.length ≤ 100 := by rw [n.len]; exact Nat.le_of_ble_eq_true l8
  refine ⟨l, ks, rfl, h2, h2, by exact lin [_] (.v 0) (.n 100000) [((.v 0), (.n 100))] hk rfl, ?_⟩
  refine cturns_ind2 (γ := List (Str × AV)) (fun m => ⟨m, H7⟩) (fun ys acc m => ∃ ts, TL H6 H7 ts ys ∧ acc ++ (opRows ts).map pairT = told4.map pairT) (fun acc m hm => ?_) (fun y ys acc m hm ih => ?_) ks [] _ ⟨_, tl, by rw [l7']; rfl⟩
  · refine xl_EA hm fun ts T e => ?_; try clear hm
    rw [T.emp] at e
    have ea : acc = told4.map pairT := by simpa [opRows] using e
    subst ea
    intro a ha
    refine as_consL ?_
    intro Kq
    refine a1_return (ae_cmp2 (ae_local look_eq (ae_list (aes_cons ?_))))
    refine ae_tuple (aes_cons (ae_str (aes_cons (ae_str (aes_nil ⟨Nat.le_of_ble_eq_true rfl, aes_cons ?_⟩)))))
    refine ae_tuple (aes_cons (ae_str (aes_cons (ae_str (aes_nil ⟨Nat.le_of_ble_eq_true rfl, aes_cons ?_⟩)))))
    refine ae_tuple (aes_cons (ae_str (aes_cons (ae_str (aes_nil ⟨Nat.le_of_ble_eq_true rfl, aes_cons ?_⟩)))))
    refine ae_tuple (aes_cons (ae_str (aes_cons (ae_str (aes_nil ⟨Nat.le_of_ble_eq_true rfl, aes_nil ⟨Nat.le_of_ble_eq_true rfl, fun l' hl' => ?_⟩⟩)))))
    have ha' : H7 a = none := ha
    have hl2 : (H7.set a (.list (told4.map pairT))) l' = none := hl'
    have e1 : (H7.set a (.list (told4.map pairT))) a = some (.list (told4.map pairT)) := AHeap.set_self ..
    refine ⟨true, ⟨told4.map pairT, told4.map pairT, [true, true, true, true], (AHeap.set_ne _ _ (ne_of e1 hl2)).trans e1, AHeap.set_self .., rfl, by kernel_rfl, rfl⟩, q _ ((G7.new ha' _).new hl2 _)⟩
  · refine xl_EA hm fun ts T e => ?_; try clear hm
    refine xl_EE T.out fun tk ts' h => ?_
    refine xl_EEEAAA h fun x v P ets T ey b3 => ?_
    rw [ets, opRows_cons] at e
    rw [ey]
    refine at_name ?_
    refine (ab_of (z := tk.kind == k_op) (PB.as (pb_cmp (ae_fld look_eq b3 (okTok d) rfl ⟨rfl, rfl⟩) pe_str rfl) (S_eq tk.kind k_op)) ?_)
    cases zk : tk.kind == k_op with
    | false =>
      rw [zk] at e
      exact ⟨h2, ih _ _ ⟨ts', T, e⟩⟩
    | true =>
      rw [zk] at e
      refine ae_tuple (aes_cons (ae_fld look_eq b3 (okTok d) rfl (aes_cons ?_)))
      refine ae_fn (fa := 230) (by kernel_rfl) (by kernel_rfl) (aes_cons (ae_local look_eq (aes_nil ((c_place b3 ?_).to (by decide)))))
      refine aes_nil ⟨Nat.le_of_ble_eq_true rfl, h2, ih _ _ ⟨ts', T, ?_⟩⟩
      rw [← e]
      simp [pairT]
end
end Mine
end

section
open PySem PySem.W PySem.Calls PyProof.Rows Builtin.ObjectAttr
set_option maxHeartbeats 4000000
namespace Mine
-- lists
theorem dropWhile_app {p : Nat → Bool} {r : List Nat} (hr : hd1 p r = false) : ∀ {w : List Nat}, (∀ c ∈ w, p c = true) → (w ++ r).dropWhile p = r
  | [], _ => hd1_false hr
  | c :: w, h => by rw [List.cons_append, List.dropWhile_cons, if_pos (h c (.head _)), dropWhile_app hr fun c hc => h c (.tail _ hc)]
theorem takeWhile_app {p : Nat → Bool} {r : List Nat} (hr : hd1 p r = false) : ∀ {w : List Nat}, (∀ c ∈ w, p c = true) → (w ++ r).takeWhile p = w
  | [], _ => by
    rcases r with _ | ⟨c, r⟩
    · rfl
    · rw [List.nil_append, List.takeWhile_cons, if_neg (by rw [show p c = false from hr]; simp)]
  | c :: w, h => by rw [List.cons_append, List.takeWhile_cons, if_pos (h c (.head _)), takeWhile_app hr fun c hc => h c (.tail _ hc)]
theorem take_app (w r : List Nat) : (w ++ r).take ((w ++ r).length - r.length) = w := by simp
theorem hd1_sub {p q : Nat → Bool} (h : ∀ c, q c = true → p c = true) {r : List Nat} (hr : hd1 p r = false) : hd1 q r = false := by
  rcases r with _ | ⟨c, r⟩
  · rfl
  · cases e : q c with
    | false => exact e
    | true => have := h c e; rw [show p c = false from hr] at this; cases this
-- blanks
noncomputable def NoBl (cs : List Nat) : Prop := hd1 (· ∈ wsl) cs = false ∧ cs.take 2 ≠ [47, 47] ∧ cs.take 2 ≠ [47, 42]
theorem blanks_stop {f : Nat} {cs : List Nat} {ln : Int} (h : NoBl cs) : blanks (f + 1) cs ln = some (.ok (cs, ln)) := by
  rcases cs with _ | ⟨c, r⟩
  · rfl
  · refine xl_AA h fun h1 h2 h3 => ?_; try clear h
    have h1' : c ∉ wsl := by simpa [hd1] using h1
    rw [blanks, if_neg h2, if_neg h3, if_neg h1']
theorem wsl_47 {c : Nat} (h : c ∈ wsl) : c ≠ 47 := (show ∀ c ∈ wsl, c ≠ 47 by decide) c h
theorem blanks_ws {f c : Nat} {r : List Nat} {ln : Int} (h : c ∈ wsl) : blanks (f + 1) (c :: r) ln = blanks f r (ln + nl c) := by
  have hc := wsl_47 h
  rw [blanks, if_neg (by simp [hc]), if_neg (by simp [hc]), if_pos h]
theorem nls_ws : ∀ (g : List Nat) (ln : Int), ln + nls g = ln + nls g := fun _ _ => rfl
theorem blanks_all {rest : List Nat} (hr : NoBl rest) : ∀ (g : List Nat) (f : Nat) (ln : Int), (∀ c ∈ g, c ∈ wsl) → g.length + 1 ≤ f → blanks f (g ++ rest) ln = some (.ok (rest, ln + nls g))
  | [], f, ln, _, hf => by
    obtain ⟨f, rfl⟩ : ∃ k, f = k + 1 := ⟨f - 1, by simp at hf; omega⟩
    rw [List.nil_append, blanks_stop hr, nls, Int.add_zero]
  | c :: g, f, ln, h, hf => by
    rw [List.length_cons] at hf
    obtain ⟨f, rfl⟩ : ∃ k, f = k + 1 := ⟨f - 1, by omega⟩
    rw [List.cons_append, blanks_ws (h c (.head _)), blanks_all hr g f _ (fun c hc => h c (.tail _ hc)) (by exact lin [_, _] (.a (.v 0) (.n 1)) (.v 1) [((.a (.a (.v 0) (.n 1)) (.n 1)), (.a (.v 1) (.n 1)))] hf rfl), nls, Int.add_assoc]
theorem blanks_rem {f : Nat} {r : List Nat} {ln : Int} : blanks (f + 1) (47 :: 42 :: r) ln = match rem r 1 ln with | none => some (.bad ln) | some (cs', ln') => blanks f cs' ln' := by
  rw [blanks, if_neg (by simp), if_pos (by simp)]; rfl
theorem blanks_line {f : Nat} {r : List Nat} {ln : Int} : blanks (f + 1) (47 :: 47 :: r) ln = blanks f ((47 :: 47 :: r).dropWhile fun c => decide (c ≠ 10)) ln := by
  rw [blanks, if_pos (by simp)]
noncomputable def gaps1 : List (List Nat) := gapsT ++ [32] :: gapsT.map (32 :: ·)
theorem rem1 (rest : List Nat) (ln : Int) : rem ([32, 97, 32, 47, 42, 32, 98, 32, 42, 47, 32, 99, 32, 42, 47] ++ rest) 1 ln = some (rest, ln) := by
  simp [rem, nl]
theorem rem2 (rest : List Nat) (ln : Int) : rem ([32, 10, 32, 42, 47] ++ rest) 1 ln = some (rest, ln + 1) := by
  simp [rem, nl]
theorem gap_blanks {rest : List Nat} (hr : NoBl rest) {g : List Nat} (hg : g ∈ gapsT) {f : Nat} {ln : Int} (hf : 20 ≤ f) : blanks f (g ++ rest) ln = some (.ok (rest, ln + nls g)) := by
  obtain ⟨f, rfl⟩ : ∃ k, f = k + 20 := ⟨f - 20, by omega⟩
  simp only [gapsT, List.mem_cons, List.not_mem_nil, or_false] at hg
  rcases hg with rfl | rfl | rfl | rfl | rfl | rfl | rfl | rfl | rfl | rfl | rfl | rfl
  · exact blanks_all hr _ _ _ (by decide) (by simp)
  · exact blanks_all hr _ _ _ (by decide) (by simp)
  · exact blanks_all hr _ _ _ (by decide) (by simp)
  · exact blanks_all hr _ _ _ (by decide) (by simp)
  · exact blanks_all hr _ _ _ (by decide) (by simp)
  · exact blanks_all hr _ _ _ (by decide) (by simp)
  · show blanks (f + 19 + 1) (47 :: 42 :: ([32, 97, 32, 47, 42, 32, 98, 32, 42, 47, 32, 99, 32, 42, 47] ++ rest)) ln = _
    rw [blanks_rem, rem1]
    show blanks (f + 18 + 1) rest ln = _
    rw [blanks_stop hr]; simp [nls, nl]
  · show blanks (f + 19 + 1) (47 :: 47 :: ([32, 120, 32, 34, 32, 121, 10] ++ rest)) ln = _
    rw [blanks_line]
    show blanks (f + 19) ([10] ++ rest) ln = _
    rw [blanks_all hr [10] _ _ (by decide) (by simp)]; simp [nls, nl]
  · show blanks (f + 19 + 1) (47 :: 42 :: ([32, 10, 32, 42, 47] ++ rest)) ln = _
    rw [blanks_rem, rem2]
    show blanks (f + 18 + 1) rest (ln + 1) = _
    rw [blanks_stop hr]; simp [nls, nl]
  · exact blanks_all hr _ _ _ (by decide) (by simp)
  · exact blanks_all hr _ _ _ (by decide) (by simp)
  · exact blanks_all hr _ _ _ (by decide) (by simp)
theorem gap1_blanks {rest : List Nat} (hr : NoBl rest) {g : List Nat} (hg : g ∈ gaps1) {f : Nat} {ln : Int} (hf : 21 ≤ f) : blanks f (g ++ rest) ln = some (.ok (rest, ln + nls g)) := by
  rcases List.mem_append.mp hg with h | h
  · exact gap_blanks hr h (by exact lin [_] (.n 20) (.v 0) [((.n 21), (.v 0))] hf rfl)
  · rcases List.mem_cons.mp h with rfl | h
    · exact blanks_all hr _ _ _ (by decide) (by simp; exact lin [_] (.n 2) (.v 0) [((.n 21), (.v 0))] hf rfl)
    · refine xl_EA (List.mem_map.mp h) fun g' hg' zr1 => ?_; subst zr1
      obtain ⟨f, rfl⟩ : ∃ k, f = k + 1 := ⟨f - 1, by omega⟩
      rw [List.cons_append, blanks_ws (by decide), gap_blanks hr hg' (by exact lin [_] (.n 20) (.v 0) [((.n 21), (.a (.v 0) (.n 1)))] hf rfl), nls, Int.add_assoc]
-- words
noncomputable def wordOk (p : List Nat × List Nat) : Bool := (match p.1 with
  | [] => false
  | c :: r => if c = 36 then (match r with | [] => false | e :: _ => decide (e ∈ digs)) && r.all (fun c => decide (c ∈ digs)) else letter c && r.all wordc) && (if kwC p.1 then k_keyword else k_name) == p.2
theorem words_ok : ∀ p ∈ words, wordOk p = true := by decide +kernel
theorem dig_wordc {c : Nat} (h : decide (c ∈ digs) = true) : wordc c = true := by unfold wordc; rw [h, Bool.or_true]
theorem letter_wordc {c : Nat} (h : letter c = true) : wordc c = true := by unfold wordc; rw [h, Bool.true_or]
theorem word_tok {p : List Nat × List Nat} (h : wordOk p = true) {r : List Nat} (hr : hd1 wordc r = false) {t : List Nat} {f : Nat} {ln last : Int} {dp : Nat} :
    tokF kwC t (f + 1) (p.1 ++ r) ln last dp = some (.ok (.mk p.2 p.1 ln (ln != last) true true 0 .nil, r)) := by
  obtain ⟨w, k⟩ := p
  unfold wordOk at h
  obtain ⟨h, hk⟩ := Bool.and_eq_true_iff.mp h
  have hk : (if kwC w then k_keyword else k_name) = k := beq_iff_eq.mp hk
  rcases w with _ | ⟨c, w⟩
  · cases h
  dsimp only at h hk ⊢
  have hend : (letter c || c == 36) = true ∧ wordEnd (c :: (w ++ r)) = some r := by
    by_cases z : c = 36
    · subst z
      rw [if_pos rfl] at h
      obtain ⟨h1, h2⟩ := Bool.and_eq_true_iff.mp h
      refine ⟨rfl, ?_⟩
      have hw : ∀ c ∈ w, decide (c ∈ digs) = true := fun c hc => List.all_eq_true.mp h2 c hc
      have hr' : hd1 (· ∈ digs) r = false := hd1_sub (fun c hc => dig_wordc hc) hr
      unfold wordEnd wordHead
      rw [if_pos (by rfl)]
      have h3 : hd1 (fun c => decide (c ∈ digs)) (List.drop 1 (36 :: (w ++ r))) = true := by
        rcases w with _ | ⟨e, w⟩
        · cases h1
        · exact h1
      rw [if_pos h3]
      show some ((((w ++ r)).dropWhile (fun c => decide (c ∈ digs))).dropWhile wordc) = some r
      rw [dropWhile_app hr' hw, hd1_false hr]
    · rw [if_neg z] at h
      obtain ⟨h1, h2⟩ := Bool.and_eq_true_iff.mp h
      refine ⟨by rw [h1]; rfl, ?_⟩
      have hw : ∀ e ∈ c :: w, wordc e = true := fun e he => by
        rcases List.mem_cons.mp he with rfl | he
        · exact letter_wordc h1
        · exact List.all_eq_true.mp h2 e he
      unfold wordEnd wordHead
      rw [if_neg (by simpa using z)]
      show some (((c :: w) ++ r).dropWhile wordc) = some r
      rw [dropWhile_app hr hw]
  rw [List.cons_append, tokF_c, if_pos hend.1, hend.2]
  dsimp only
  have ht : (c :: (w ++ r)).take ((c :: (w ++ r)).length - r.length) = c :: w := take_app (c :: w) r
  rw [ht, hk]
-- numbers
noncomputable def numOk (p : List Nat × Nat) : Bool := (match p.1 with
  | 48 :: m :: r => if m ∈ [120, 111, 98] then r.all (fun c => decide (c ∈ hexs ++ [95])) && based m r == some p.2 else (48 :: m :: r).all (fun c => decide (c ∈ digs ++ [95])) && decide (((48 :: m :: r).filter fun k => decide (k ≠ 95)).length ≤ 80) && NumText.digitsVal ((48 :: m :: r).filter fun k => decide (k ≠ 95)) == p.2
  | w => hd1 (· ∈ digs) w && w.all (fun c => decide (c ∈ digs ++ [95])) && decide ((w.filter fun k => decide (k ≠ 95)).length ≤ 80) && NumText.digitsVal (w.filter fun k => decide (k ≠ 95)) == p.2)
theorem numbers_ok : ∀ p ∈ numbers, numOk p = true := by decide +kernel
theorem hex_wordc : ∀ c ∈ hexs ++ [95], wordc c = true := by decide
theorem dig95_wordc : ∀ c ∈ digs ++ [95], wordc c = true := by decide
theorem based_app {m : Nat} {w r : List Nat} (hw : ∀ c ∈ w, decide (c ∈ hexs ++ [95]) = true) (hr : hd1 wordc r = false) : based m (w ++ r) = based m w := by
  have hr' : hd1 (fun c => decide (c ∈ hexs ++ [95])) r = false := hd1_sub (fun c hc => hex_wordc c (of_decide_eq_true hc)) hr
  unfold based
  rw [takeWhile_app hr' hw, show w.takeWhile (fun c => decide (c ∈ hexs ++ [95])) = w from by have := takeWhile_app (p := fun c => decide (c ∈ hexs ++ [95])) (r := []) rfl hw; rwa [List.append_nil] at this]
theorem letter1_of {r : List Nat} (hr : hd1 wordc r = false) : letter1 r = false := by
  have := hd1_sub (p := wordc) (q := letter) (fun c hc => letter_wordc hc) hr
  rcases r with _ | ⟨c, r⟩
  · rfl
  · exact this
theorem plain_num {w r : List Nat} {v : Nat} (hB : isB (w ++ r) = false) (hr : hd1 wordc r = false) (h1 : w.all (fun c => decide (c ∈ digs ++ [95])) = true) (h2 : (w.filter fun k => decide (k ≠ 95)).length ≤ 80) (h3 : NumText.digitsVal (w.filter fun k => decide (k ≠ 95)) = v) : numTok (w ++ r) = some (v, r) := by
  have hw : ∀ c ∈ w, decide (c ∈ digs ++ [95]) = true := fun c hc => List.all_eq_true.mp h1 c hc
  have hr' : hd1 (fun c => decide (c ∈ digs ++ [95])) r = false := hd1_sub (fun c hc => dig95_wordc c (of_decide_eq_true hc)) hr
  unfold numTok numRead
  rw [hB]
  simp only [Bool.false_eq_true, if_false]
  rw [takeWhile_app hr' hw, dropWhile_app hr' hw, if_neg (by exact Nat.not_lt_of_le (lin [_] (.v 0) (.n 80) [((.v 0), (.n 80))] h2 rfl)), h3]
  dsimp only
  rw [letter1_of hr]; rfl
theorem num_tok {p : List Nat × Nat} (h : numOk p = true) {r : List Nat} (hr : hd1 wordc r = false) {t : List Nat} {f : Nat} {ln last : Int} {dp : Nat} :
    tokF kwC t (f + 1) (p.1 ++ r) ln last dp = some (.ok (.mk k_int p.1 ln (ln != last) true true (p.2 : Nat) .nil, r)) := by
  obtain ⟨w, v⟩ := p
  have key : ∃ c w', w = c :: w' ∧ c ∈ digs ∧ numTok (w ++ r) = some (v, r) := by
    unfold numOk at h
    dsimp only at h
    split at h
    · rename_i m ds
      split at h
      · rename_i hm
        obtain ⟨h1, h2⟩ := Bool.and_eq_true_iff.mp h
        have hw : ∀ c ∈ ds, decide (c ∈ hexs ++ [95]) = true := fun c hc => List.all_eq_true.mp h1 c hc
        have hr' : hd1 (fun c => decide (c ∈ hexs ++ [95])) r = false := hd1_sub (fun c hc => hex_wordc c (of_decide_eq_true hc)) hr
        refine ⟨48, _, rfl, by decide, ?_⟩
        unfold numTok numRead
        rw [show isB (48 :: m :: ds ++ r) = true by simp only [isB, List.cons_append]; rw [decide_eq_true hm]; rfl]
        simp only [if_true]
        show (match (match based m (ds ++ r) with | none => none | some v => some (v, (ds ++ r).dropWhile fun c => decide (c ∈ hexs ++ [95]))) with | none => none | some (v, cs') => if letter1 cs' then none else some (v, cs')) = _
        rw [based_app hw hr, show based m ds = some v from beq_iff_eq.mp h2]
        dsimp only
        rw [dropWhile_app hr' hw, letter1_of hr]; rfl
      · rename_i hm
        simp only [Bool.and_eq_true, decide_eq_true_eq, beq_iff_eq] at h
        refine ⟨48, _, rfl, by decide, plain_num ?_ hr h.1.1 h.1.2 h.2⟩
        simp only [isB, List.cons_append]; rw [decide_eq_false hm]; rfl
    · rename_i hn
      simp only [Bool.and_eq_true, decide_eq_true_eq, beq_iff_eq] at h
      refine xl_EEA (hd1_true h.1.1.1) fun c w' zr2 hc => ?_; subst zr2
      have hc' : c ∈ digs := of_decide_eq_true hc
      refine ⟨c, w', rfl, hc', plain_num ?_ hr h.1.1.2 h.1.2 h.2⟩
      rcases w' with _ | ⟨m, w'⟩
      · rcases r with _ | ⟨m, r⟩
        · rfl
        · have hm : wordc m = false := hr
          simp only [isB, List.cons_append, List.nil_append]
          rw [decide_eq_false (fun z => by have := (show ∀ m ∈ [120, 111, 98], wordc m = true by decide) m z; rw [hm] at this; cases this), Bool.and_false]
      · have hc48 : c ≠ 48 := fun z => hn m w' (by rw [z])
        simp only [isB, List.cons_append]
        rw [beq_eq_false_iff_ne.mpr hc48, Bool.false_and]
  refine xl_EEAA key fun c w' zr3 hc hn => ?_; try clear key; subst zr3
  have hl : (letter c || c == 36) = false := (show ∀ c ∈ digs, (letter c || c == 36) = false by decide) c hc
  dsimp only at hn ⊢
  rw [List.cons_append] at hn ⊢
  rw [tokF_c, if_neg (by rw [hl]; simp), if_pos hc, hn]
  dsimp only
  have ht : (c :: (w' ++ r)).take ((c :: (w' ++ r)).length - r.length) = c :: w' := take_app (c :: w') r
  rw [ht]
-- operators and marks
noncomputable def opch : List Nat := [46, 60, 61, 33, 38, 124, 63, 43, 45, 42, 47, 37, 62]
/-- an operator ends here -/
noncomputable def opEnds (o r : List Nat) : Bool := !hd1 (· ∈ opch) r || ((o == [33] || o == [63]) && hd1 (· == 46) r)
theorem op_not {f : Nat} {c : Nat} {r t : List Nat} {ln last : Int} {dp : Nat} (h1 : (letter c || c == 36) = false) (h2 : c ∉ digs) (h3 : c ≠ 34) : tokF kwC t (f + 1) (c :: r) ln last dp = (match punctAt (c :: r) with
        | some o => some (.ok (.mk k_punct o ln (ln != last) (bleft (rpOf t (c :: r)) o) (bright ((c :: r).drop o.length) o) 0 .nil, (c :: r).drop o.length))
        | none => (match opAt (c :: r) with
          | none => some (.bad ln)
          | some o => some (.ok (.mk k_op o ln (ln != last) (bleft (rpOf t (c :: r)) o) (bright ((c :: r).drop o.length) o) 0 .nil, (c :: r).drop o.length)))) := by
  rw [tokF_c, if_neg (by rw [h1]; simp), if_neg h2, if_neg h3]
  first | done | rfl
theorem take_clash {c : Nat} {r : List Nat} : ∀ (p o : List Nat), c ∉ p → ((o ++ c :: r).take p.length = p ↔ o.take p.length = p) := fun p => by
  induction p with
  | nil => exact fun o _ => Iff.rfl
  | cons a p ih =>
    intro o h
    cases o with
    | nil => exact ⟨fun e => absurd (List.mem_cons_self) ((List.cons.inj e).1 ▸ h), fun e => by cases e⟩
    | cons b o =>
      have := ih o fun m => h (List.mem_cons_of_mem _ m)
      exact ⟨fun e => by rw [List.length_cons, List.take_succ_cons, (List.cons.inj e).1, this.mp (List.cons.inj e).2], fun e => by rw [List.length_cons, List.cons_append, List.take_succ_cons, (List.cons.inj e).1, this.mpr (List.cons.inj e).2]⟩
theorem find_congr {α : Type} {p q : α → Bool} (l : List α) (h : ∀ x ∈ l, p x = q x) : l.find? p = l.find? q := by
  induction l with
  | nil => rfl
  | cons a l ih => rw [List.find?_cons, List.find?_cons, h a List.mem_cons_self, ih fun x m => h x (List.mem_cons_of_mem _ m)]
theorem op_clash {c : Nat} {r o : List Nat} (z : c ∉ opch) (ho : o ≠ []) : opAt (o ++ c :: r) = opAt o ∧ isPun (o ++ c :: r) = isPun o := by
  have key : ∀ p : List Nat, p.all (opch.contains ·) = true → ((o ++ c :: r).take p.length = p ↔ o.take p.length = p) := fun p h => take_clash p o fun m => z (List.contains_iff_mem.mp (List.all_eq_true.mp h c m))
  refine ⟨find_congr _ fun p m => Bool.eq_iff_iff.mpr (beq_iff_eq.trans ((key p (List.all_eq_true.mp (show ops.all (fun p => p.all (opch.contains ·)) = true by decide +kernel) p m)).trans beq_iff_eq.symm)), ?_⟩
  unfold isPun
  have k1 : ((o ++ c :: r).take 2 = [45, 62] ↔ o.take 2 = [45, 62]) := key [45, 62] (by decide +kernel)
  have k2 : ((o ++ c :: r).take 2 = [46, 46] ↔ o.take 2 = [46, 46]) := key [46, 46] (by decide +kernel)
  rw [decide_eq_decide.mpr k1, decide_eq_decide.mpr k2]
  cases o with
  | nil => exact absurd rfl ho
  | cons a o => rfl
theorem op_at {o : List Nat} (ho : o ∈ opsT) {r : List Nat} (hr : opEnds o r = true) : opAt (o ++ r) = some o ∧ isPun (o ++ r) = false := by
  obtain ⟨h0, h1, h2⟩ := (show ∀ o ∈ opsT, o ≠ [] ∧ opAt o = some o ∧ isPun o = false by decide +kernel) o ho
  cases r with
  | nil => rw [List.append_nil]; exact ⟨h1, h2⟩
  | cons c r =>
    by_cases z : c ∈ opch
    · unfold opEnds at hr
      rw [show hd1 (fun c => decide (c ∈ opch)) (c :: r) = true from decide_eq_true z] at hr
      cases h3 : (o == [33]) with
      | true =>
        have e : o = [33] := beq_iff_eq.mp h3
        subst e
        have e : c = 46 := beq_iff_eq.mp hr
        subst e
        exact ⟨rfl, rfl⟩
      | false =>
        rw [h3] at hr
        have e := Bool.and_eq_true_iff.mp hr
        have e1 : o = [63] := beq_iff_eq.mp e.1
        have e2 : c = 46 := beq_iff_eq.mp e.2
        subst e1 e2
        exact ⟨rfl, rfl⟩
    · have := op_clash (r := r) z h0
      exact ⟨this.1.trans h1, this.2.trans h2⟩
theorem op_tok {o : List Nat} (ho : o ∈ opsT) {r : List Nat} (hr : opEnds o r = true) {t : List Nat} {f : Nat} {ln last : Int} {dp : Nat} :
    tokF kwC t (f + 1) (o ++ r) ln last dp = some (.ok (.mk k_op o ln (ln != last) (bleft (rpOf t (o ++ r)) o) (bright r o) 0 .nil, r)) := by
  obtain ⟨h1, h2⟩ := op_at ho hr
  obtain ⟨c, o', rfl, hc⟩ : ∃ c o', o = c :: o' ∧ (letter c || c == 36) = false ∧ c ∉ digs ∧ c ≠ 34 := by
    have := (show ∀ o ∈ opsT, hd1 (fun c => !(letter c || c == 36) && !decide (c ∈ digs) && !(c == 34)) o = true by decide +kernel) o ho
    refine xl_EEA (hd1_true this) fun c o' e h => ?_
    simp only [Bool.and_eq_true, Bool.not_eq_true', decide_eq_false_iff_not, beq_eq_false_iff_ne] at h
    exact ⟨c, o', e, h.1.1, h.1.2, h.2⟩
  rw [List.cons_append] at h1 h2 ⊢
  rw [op_not hc.1 hc.2.1 hc.2.2, punctAt, h2]
  simp only [Bool.false_eq_true, if_false]
  rw [h1]
  have : (c :: (o' ++ r)).drop (c :: o').length = r := by simp
  simp only [this]
/-- a mark ends here -/
noncomputable def punEnds (o r : List Nat) : Bool := !(o == [46]) || !hd1 (· == 46) r
theorem pun_tok {o : List Nat} (ho : o ∈ punctsT) {r : List Nat} (hr : punEnds o r = true) {t : List Nat} {f : Nat} {ln last : Int} {dp : Nat} :
    tokF kwC t (f + 1) (o ++ r) ln last dp = some (.ok (.mk k_punct o ln (ln != last) (bleft (rpOf t (o ++ r)) o) (bright r o) 0 .nil, r)) := by
  have hp : punctAt (o ++ r) = some o := by
    simp only [punctsT, List.mem_cons, List.not_mem_nil, or_false] at ho
    rcases ho with rfl | rfl | rfl | rfl | rfl | rfl | rfl | rfl | rfl | rfl | rfl
    case inr.inr.inr.inr.inr.inr.inr.inr.inr.inl =>
      rcases r with _ | ⟨c, r⟩
      · rfl
      · have hc : ¬ c = 46 := by simpa [punEnds, hd1] using hr
        simp [punctAt, isPun, hd1, puncts, hc]
    all_goals rfl
  obtain ⟨c, o', rfl, hc⟩ : ∃ c o', o = c :: o' ∧ (letter c || c == 36) = false ∧ c ∉ digs ∧ c ≠ 34 := by
    have := (show ∀ o ∈ punctsT, hd1 (fun c => !(letter c || c == 36) && !decide (c ∈ digs) && !(c == 34)) o = true by decide +kernel) o ho
    refine xl_EEA (hd1_true this) fun c o' e h => ?_
    simp only [Bool.and_eq_true, Bool.not_eq_true', decide_eq_false_iff_not, beq_eq_false_iff_ne] at h
    exact ⟨c, o', e, h.1.1, h.1.2, h.2⟩
  rw [List.cons_append] at hp ⊢
  rw [op_not hc.1 hc.2.1 hc.2.2, hp]
  have : (c :: (o' ++ r)).drop (c :: o').length = r := by simp
  simp only [this]
end Mine
end

section
open PySem PySem.W PySem.Calls PyProof.Rows Builtin.ObjectAttr
set_option maxHeartbeats 4000000
namespace Mine
noncomputable def lastT : List (List Nat) := [[], [10], [32], [32, 47, 47, 32, 122], [32, 47, 42, 32, 42, 47]]
noncomputable def aheadT : List (List Nat) := [[], [10], [32, 32], [47, 42, 32, 113, 32, 42, 47, 32], [47, 47, 32, 114, 10]]
/-- the gaps between pieces -/
inductive GG : List Pc → List (List Nat) → Prop
  | one {p : Pc} {g : List Nat} : g ∈ lastT → GG [p] [g]
  | cons {p q : Pc} {ps : List Pc} {g : List Nat} {gs : List (List Nat)} : g ∈ gapsT → GG (q :: ps) gs → GG (p :: q :: ps) (gapOf p q g :: gs)
theorem GG.len {ps : List Pc} {gs : List (List Nat)} (h : GG ps gs) : gs.length = ps.length := by
  induction h with
  | one => rfl
  | cons _ _ ih => simp [ih]
noncomputable def joinT (ps : List Pc) (gs : List (List Nat)) : List Nat := (List.zipWith (fun p g => p.text ++ g) ps gs).flatten
/-- the reader tells the pieces -/
noncomputable def PlainA : Prop := ∀ ps gs ahead, GG ps gs → (∀ p ∈ ps, GP p) → ps.length ≤ 15 → ahead ∈ aheadT → (ahead ++ joinT ps gs).length ≤ 50000 → ∃ ts, topF kwC FU (ahead ++ joinT ps gs) = some (.ok ts) ∧ Right ps gs 0 (1 + nls ahead) 0 ts.list ps
/-- the reader refuses what is no piece -/
noncomputable def PlainB : Prop := ∀ ps gs ahead ill, GG ps gs → (∀ p ∈ ps, GP p) → ps.length ≤ 15 → ahead ∈ aheadT → (ahead ++ joinT ps gs).length ≤ 50000 → ill ∈ illsT → topF kwC FU (((ahead ++ joinT ps gs) ++ [32, 10]) ++ ill ++ [32, 10, 32, 97]) = some (.bad (2 + nls (ahead ++ joinT ps gs)))
noncomputable def SliceOk (d : Dt) (a : Addr) (ns : List Int) : Prop := ∀ {sc : Scope} {b : Nat} {σ : St} {X : Int → St → Prop} {Q : AV → St → Prop} {v : Str} {p1 p2 p3 p4 : Pos} {kk : Nat}, σ.m.lookup v = some (.ref a) → sc.names.lookup v = some .local → (v == ("__debug__" : Str)) = false →
  (∀ l, σ.H l = none → Q (.ref l) ⟨σ.m, σ.H.set l (.list ((ns.take 60).map .int))⟩) → AE (CC d) sc b (.Subscript (.Name v p1) (.Slice none (some (.Constant (.int 60) kk p2)) none p3) p4) σ Q X
theorem bi_int2 (d : Dt) : nsIn (CC d).K mainGlobals "int" = some none := bi_int d
theorem ae_intn {d : Dt} {sc : Scope} {b : Nat} {σ : St} {X : Int → St → Prop} {p : Pos} {Q : AV → St → Prop} (h : Q (.ty "int") σ) (hl : sc.names.lookup ("int" : Str) = some .globalImplicit := by rfl) : AE (CC d) sc b (.Name "int" p) σ Q X :=
  ae_builtin (a := .ty "int") (v := .type "int") (bi_int d) bo_int (fun _ => .ty _) h (by decide) hl
noncomputable abbrev lawQ : AFl → St → Prop := fun fl σ' => match fl with | .ret a => a = .bool true | _ => AV.none = .bool true
theorem pe_count {c : Cx} {sc : Scope} {b : Nat} {σ : St} {X : Int → St → Prop} {v : Str} {p1 p2 p3 p4 : Pos} {kk : Nat} {pl : Env → Sem Bool} {l : List Nat} (hv : σ.m.lookup v = some (.str (S l))) (hloc : sc.names.lookup v = some .local := by rfl) (hd : (v == ("__debug__" : Str)) = false := by decide)
    (he : ∀ env, eval (.Call (.Attribute (.Name v p1) "count" p2) [.Constant (.str "\n") kk p3] [] p4) env = (do
      let ov ← eval (.Name v p1) env
      standAt p2.atName
      let (f, first) ← holding [ov] (getMethod ov "count" (pl env))
      callWith p4 f first (backTo p4 (starEach [.Constant (.str "\n") kk p3] env)) []) := by intro _; rfl) :
    PE c sc b (.Call (.Attribute (.Name v p1) "count" p2) [.Constant (.str "\n") kk p3] [] p4) σ (.int (nls l)) X :=
  ae_meth (ae_local hv ⟨.bi "str.count", [.str (S l)], mr_str PySem.F.slot_str_count PySem.F.type_str_count, rfl, aes_cons (ae_str (aes_nil (acw_count ⟨congrArg AV.int (count_nl l), rfl⟩)))⟩ hloc hd) (NoStar.cons fun _ => ⟨rfl, rfl⟩) he
section
variable {d : Dt}
theorem law_c (hA : PlainA) (hB : PlainB) {H H1 : AHeap} {m : List (Str × AV)} {w cl lp lg : Addr} {cells : List Int} {ps : List Pc} {as : List AV} {gs : List (List Nat)} {ahead : List Nat} (W : Well H w cl cells) (hp : H lp = some (.list as)) (hN : PL H1 H ps as) (hg : H lg = some (.list (gs.map strT)))
    (hgg : GG ps gs) (hgp : ∀ p ∈ ps, GP p ∧ p.text.length ≤ LS 2) (hz : ps.length ≤ 15) (ha : ahead ∈ aheadT) (hl : (ahead ++ joinT ps gs).length ≤ 50000)
    (m1 : m.lookup ("well" : Str) = some (.ref w)) (m2 : m.lookup ("pieces" : Str) = some (.ref lp)) (m3 : m.lookup ("gaps" : Str) = some (.ref lg)) (m4 : m.lookup ("ahead" : Str) = some (.str (S ahead))) (m5 : m.lookup ("text" : Str) = some (.str (S (ahead ++ joinT ps gs)))) :
    AS (CC d) (scOf (CC d).K 385) 47 ((bdOf (CC d).K 385).drop 7) ⟨m, H⟩ lawQ (fun _ _ => False) := by
  obtain ⟨text, htext⟩ : ∃ text, text = ahead ++ joinT ps gs := ⟨_, rfl⟩
  obtain ⟨ts, e1, R⟩ := hA ps gs ahead hgg (fun p hp => (hgp p hp).1) hz ha hl
  have hB' := fun ill => hB ps gs ahead ill hgg (fun p hp => (hgp p hp).1) hz ha hl
  rw [← htext] at hl m5 e1 hB'
  refine as_consL ?_
  intro Kq
  refine a1_swap2 (x := "tokens") (y := "first") (fun env he => by cases env; cases he; rfl) ?_
  refine ae_tuple (aes_cons (ae_fn (fa := 368) (by kernel_rfl) (by kernel_rfl) (aes_cons (ae_local m5 (aes_nil ((c_seen (t := text) (by exact lin [_] (.v 0) (.n 1000000) [((.v 0), (.n 50000))] hl rfl) e1 (fun ts' ks l H2 e g2 h1 h2 n => ?_) fun l e => nomatch e).to (by decide)))))))
  cases e
  refine aes_cons (ae_bin (ae_int (ae_of (pe_count m4) (aes_nil ⟨Nat.le_of_ble_eq_true rfl, _, _, rfl, ?_⟩))))
  have hp2 := g2 _ _ hp
  have hg2 := g2 _ _ hg
  have hN2 : PL H1 H2 ps as := hN.mono fun a o h0 e => ⟨h0, g2 a o e⟩
  have W2 : Well H2 w cl cells := by
    refine xl_EEAA W.hw fun at' mix e i1 i2 => ?_
    exact ⟨g2 _ _ W.hc, ⟨at', mix, g2 _ _ e, i1, i2⟩, W.nn, W.len, W.ne⟩
  have n1 : ∀ {u v : AV}, (fput (fput m "first" u) "tokens" v).lookup ("well" : Str) = some (.ref w) := look_ne (look_ne m1)
  have n2 : ∀ {u v : AV}, (fput (fput m "first" u) "tokens" v).lookup ("pieces" : Str) = some (.ref lp) := look_ne (look_ne m2)
  have n3 : ∀ {u v : AV}, (fput (fput m "first" u) "tokens" v).lookup ("gaps" : Str) = some (.ref lg) := look_ne (look_ne m3)
  have n5 : ∀ {u v : AV}, (fput (fput m "first" u) "tokens" v).lookup ("text" : Str) = some (.str (S text)) := look_ne (look_ne m5)
  have n6 : ∀ {u v : AV}, (fput (fput m "first" u) "tokens" v).lookup ("tokens" : Str) = some v := look_eq
  have n7 : ∀ {u v : AV}, (fput (fput m "first" u) "tokens" v).lookup ("first" : Str) = some u := look_ne look_eq
  refine as_consL ?_
  intro Kq
  refine a1_if (ab_or (ab_val (ae_bi (bi_isi d) bo_isi (aes_cons (ae_local n6 (aes_cons (ae_intn (aes_nil (acw_isi_list h2 (.inr rfl) ⟨_, rfl, ?_⟩)))))))))
  refine ab_or (ab_not (ab_val ?_))
  refine ae_fn (fa := 361) (by kernel_rfl) (by kernel_rfl) (aes_cons (ae_local n6 (aes_cons (ae_local n2 (aes_cons (ae_local n3 (aes_cons (ae_local n7 (aes_nil (AC.to (b := 5) (by decide) ?_))))))))))
  refine c_are R h2 n.tl hp2 hN2 hg2 hgg.len (by exact lin [_] (.v 0) (.n 1000) [((.v 0), (.n 15))] hz rfl) (fun p hp => ?_) fun H3 g3 => ⟨true, rfl, ab_or_nil ?_⟩
  · obtain ⟨h1, h2⟩ := hgp p hp
    have h3 : p.text.length ≤ 100000 := Nat.le_trans h2 (by decide)
    induction h1 with
    | small h =>
      cases h with
      | word => exact .mk (Nat.zero_le _) .nil
      | num => exact .mk (Nat.zero_le _) .nil
    | op => exact .mk (Nat.zero_le _) .nil
    | pun => exact .mk (Nat.zero_le _) .nil
    | str h => exact GS.fit (.str h) h3
  have W3 : Well H3 w cl cells := by
    refine xl_EEAA W2.hw fun at' mix e i1 i2 => ?_
    exact ⟨g3 _ _ W2.hc, ⟨at', mix, g3 _ _ e, i1, i2⟩, W.nn, W.len, W.ne⟩
  refine as_nil (as_consL ?_)
  intro Kq
  refine a1_assign (ae_fn (fa := 293) (by kernel_rfl) (by kernel_rfl) (aes_cons (ae_local n1 (aes_cons (ae_of pe_ills (aes_nil ((c_pick W3 (by rw [List.length_map]; decide) (by rw [List.length_map]; decide) fun av hav H4 W4 K4 => ?_).to (by decide))))))))
  refine xl_EA (List.mem_map.mp hav) fun ill hill zr1 => ?_; subst zr1
  have hil : ill.length ≤ 20 := (show ∀ p ∈ illsT, p.length ≤ 20 by decide) ill hill
  refine at_name ?_
  refine as_consL ?_
  intro Kq
  refine a1_if (ab_cmp2 (ae_fn (fa := 368) (by kernel_rfl) (by kernel_rfl) (aes_cons ?_)))
  refine ae_of (pe_cat (x := (text ++ [32, 10]) ++ ill) (y := [32, 10, 32, 97]) (pe_cat (pe_cat (y := [32, 10]) (pe_local (look_ne n5)) pe_str (by simp only [List.length_cons, List.length_nil]; exact lin [_] (.a (.v 0) (.n 2)) (.n 1000000) [((.v 0), (.n 50000))] hl rfl)) (pe_local look_eq) (by simp only [List.length_append, List.length_cons, List.length_nil]; exact lin [_, _] (.a (.a (.v 0) (.n 2)) (.v 1)) (.n 1000000) [((.v 0), (.n 50000)), ((.v 1), (.n 20))] hl hil rfl)) pe_str (by simp only [List.length_append, List.length_cons, List.length_nil]; exact lin [_, _] (.a (.a (.a (.v 0) (.n 2)) (.v 1)) (.n 4)) (.n 1000000) [((.v 0), (.n 50000)), ((.v 1), (.n 20))] hl hil rfl)) ?_
  refine aes_nil ((c_seen (t := ((text ++ [32, 10]) ++ ill) ++ [32, 10, 32, 97]) (by simp only [List.length_append, List.length_cons, List.length_nil]; exact lin [_, _] (.a (.a (.a (.v 0) (.n 2)) (.v 1)) (.n 4)) (.n 1000000) [((.v 0), (.n 50000)), ((.v 1), (.n 20))] hl hil rfl) (hB' ill hill) (fun ts ks l H' e => nomatch e) fun l e H5 g5 => ?_).to (by decide))
  cases e
  refine ae_bin (ae_int (ae_of (pe_count (look_ne n5)) ⟨false, ?_, ?_⟩))
  · exact congrArg some (by simp)
  refine as_nil (as_consL ?_)
  intro Kq
  refine a1_return ?_
  refine ae_call0 (ae_global (a := .ref 380) (v := .ref 380) (by kernel_rfl) (.ref _) ⟨by kernel_rfl, ?_⟩)
  exact (c_fixed fun H6 g6 => rfl).to (by decide)
end
end Mine
end

section
open PySem PySem.W PySem.Calls PyProof.Rows Builtin.ObjectAttr
set_option maxHeartbeats 4000000
namespace Mine
theorem SameP.app {a : Pts} {b : PPs} {c : Pts} {e : PPs} (h : SameP a b) : SameP c e → SameP (a.app c) (b.app e) :=
  SameP.rec (motive_1 := fun _ _ _ => True) (motive_2 := fun a b _ => SameP c e → SameP (a.app c) (b.app e)) (motive_3 := fun _ _ _ => True)
    (fun _ _ => trivial) (fun h => h) (fun _ i h => .txt (i h)) (fun h1 _ _ i h => .toks h1 (i h)) (fun _ => trivial) (fun _ _ _ _ => trivial) h
theorem noBl_of {c : Nat} {r : List Nat} (h1 : c ∉ wsl) (h2 : c ≠ 47) : NoBl (c :: r) := ⟨decide_eq_false h1, by simp [h2], by simp [h2]⟩
theorem inner_go {t : List Nat} {f : Nat} {cs cs1 cs2 : List Nat} {ln deep : Int} {acc : Tks} {dp : Nat} {a : Tk} (h0 : (decide (0 < deep) || !(cs.take 1 == [41])) = true) (h1 : cs ≠ []) (ht : tokF kwC t f cs ln ln dp = some (.ok (a, cs1))) (hb : blanks f cs1 ln = some (.ok (cs2, ln))) :
    innerL kwC t (f + 1) cs ln ln deep acc dp = innerL kwC t f cs2 ln ln (deep + parStep a) (acc.app (.cons a .nil)) dp := by
  rw [innerL_s, if_pos h0, if_neg (by simp [h1]), ht]
  dsimp only
  rw [hb]
theorem inner_end {t : List Nat} {f : Nat} {r : List Nat} {ln deep : Int} {acc : Tks} {dp : Nat} (h : deep ≤ 0) :
    innerL kwC t (f + 1) (41 :: r) ln ln deep acc dp = some (.ok (acc.app (.cons (.mk k_end [] ln false true true 0 .nil) .nil), r)) := by
  rw [innerL_s, if_neg (by rw [decide_eq_false (by exact Int.not_lt.mpr (linI [_] [] (.v 0) (.n 0) [((.v 0), (.n 0))] h rfl))]; simp), if_neg (by simp)]
  rfl
theorem inner_start {t : List Nat} {f : Nat} {cs cs' : List Nat} {ln : Int} {dp : Nat} (h : dp + 1 ≤ 12) (hb : blanks f cs ln = some (.ok (cs', ln))) : innerF kwC t (f + 1) cs ln dp = innerL kwC t f cs' ln ln 0 .nil (dp + 1) := by
  rw [innerF_s, if_neg (by exact Nat.not_lt_of_le (lin [_] (.a (.v 0) (.n 1)) (.n 12) [((.a (.v 0) (.n 1)), (.n 12))] h rfl)), hb]
theorem par0 {k x : List Nat} {ln v : Int} {f l r : Bool} {ps : Pts} (h : k ≠ k_punct) : parStep (.mk k x ln f l r v ps) = 0 := by
  unfold parStep Tk.kind Tk.text
  dsimp only
  rw [beq_eq_false_iff_ne.mpr h]; rfl
theorem par_open {ln v : Int} {f l r : Bool} {ps : Pts} : parStep (.mk k_punct [40] ln f l r v ps) = 1 := by
  unfold parStep Tk.kind Tk.text
  dsimp only
  rw [occ_one]; rfl
theorem par_close {ln v : Int} {f l r : Bool} {ps : Pts} : parStep (.mk k_punct [41] ln f l r v ps) = -1 := by
  unfold parStep Tk.kind Tk.text
  dsimp only
  rw [occ_one]; rfl
/-- the first sign of a name, a number, a string -/
noncomputable def headc (c : Nat) : Bool := wordc c || c == 36 || c == 34
theorem headc_ok {c : Nat} (h : headc c = true) : c ∉ wsl ∧ c ≠ 47 ∧ c ≠ 41 ∧ c ∉ opch ∧ c ≠ 46 := by
  have key : ∀ k ∈ wsl ++ [47, 41, 46] ++ opch, headc k = false := by decide
  refine ⟨fun z => ?_, fun z => ?_, fun z => ?_, fun z => ?_, fun z => ?_⟩
  · have := key c (by simp [z]); rw [h] at this; cases this
  · subst z; cases h
  · subst z; cases h
  · have := key c (by simp only [List.mem_append]; exact .inr z); rw [h] at this; cases this
  · subst z; cases h
theorem words_head : ∀ p ∈ words, hd1 headc p.1 = true := by decide +kernel
theorem numbers_head : ∀ p ∈ numbers, hd1 headc p.1 = true := by decide +kernel
theorem GS.head {n : Nat} {p : Pc} (h : GS n p) : ∃ c r, p.text = c :: r ∧ headc c = true := by
  cases h with
  | word h => exact hd1_true (words_head _ h)
  | num h => exact hd1_true (numbers_head _ h)
  | str h => cases h; exact ⟨34, _, rfl, rfl⟩
theorem words_kind : ∀ p ∈ words, p.2 ≠ k_punct := by decide +kernel
theorem strF_raw {t r pl : List Nat} {f c : Nat} {ps : Pts} {ln : Int} {dp : Nat} (h1 : c ≠ 34) (h2 : c ≠ 10) (h3 : c ≠ 92) : strF kwC t (f + 1) (c :: r) pl ps ln dp = strF kwC t f r (pl ++ [c]) ps ln dp := by
  rw [strF_c, if_neg h1, if_neg h2, if_pos h3]
theorem strF_esc {t r cs pl : List Nat} {f v : Nat} {ps : Pts} {ln : Int} {dp : Nat} (h : escaped r = some (v, cs)) (h1 : r.take 1 ≠ [40]) : strF kwC t (f + 1) (92 :: r) pl ps ln dp = strF kwC t f cs (pl ++ [v]) ps ln dp := by
  rw [strF_c, if_neg (by decide), if_neg (by decide), if_neg (fun h => h rfl), if_neg h1, h]
theorem strF_inn {t r cs pl : List Nat} {f : Nat} {ps : Pts} {ln : Int} {dp : Nat} {ts : Tks} (h : innerF kwC t f r ln dp = some (.ok (ts, cs))) : strF kwC t (f + 1) (92 :: 40 :: r) pl ps ln dp = strF kwC t f cs [] (ps.app (.txt pl (.toks ts .nil))) ln dp := by
  rw [strF_c, if_neg (by decide), if_neg (by decide), if_neg (fun h => h rfl), if_pos (show (40 :: r).take 1 = [40] from rfl), show List.drop 1 (40 :: r) = r from rfl, h]
theorem strF_end {t r pl : List Nat} {f : Nat} {ps : Pts} {ln : Int} {dp : Nat} : strF kwC t (f + 1) (34 :: r) pl ps ln dp = some (.ok (ps.app (.txt pl .nil), r)) := by
  rw [strF_c, if_pos rfl]
theorem strF_innb {t r pl : List Nat} {f : Nat} {ps : Pts} {ln l : Int} {dp : Nat} (h : innerF kwC t f r ln dp = some (.bad l)) : strF kwC t (f + 1) (92 :: 40 :: r) pl ps ln dp = some (.bad l) := by
  rw [strF_c, if_neg (by decide), if_neg (by decide), if_neg (fun h => h rfl), if_pos (show (40 :: r).take 1 = [40] from rfl), show List.drop 1 (40 :: r) = r from rfl, h]
theorem strF_nl {t r pl : List Nat} {f : Nat} {ps : Pts} {ln : Int} {dp : Nat} : strF kwC t (f + 1) (10 :: r) pl ps ln dp = some (.bad ln) := by
  rw [strF_c, if_neg (by decide), if_pos rfl]
theorem tok_str {t cs r : List Nat} {f : Nat} {ps : Pts} {ln last : Int} {dp : Nat} (h : strF kwC t f cs [] .nil ln dp = some (.ok (ps, r))) : tokF kwC t (f + 1) (34 :: cs) ln last dp = some (.ok (.mk k_string ((34 :: cs).take ((34 :: cs).length - r.length)) ln (ln != last) true true 0 ps, r)) := by
  rw [tokF_c, if_neg (by decide), if_neg (by decide), if_pos rfl, h]
theorem tok_strb {t cs : List Nat} {f : Nat} {ln last l : Int} {dp : Nat} (h : strF kwC t f cs [] .nil ln dp = some (.bad l)) : tokF kwC t (f + 1) (34 :: cs) ln last dp = some (.bad l) := by
  rw [tokF_c, if_neg (by decide), if_neg (by decide), if_pos rfl, h]
noncomputable def StepOk (t r pl : List Nat) (f : Nat) (ps : Pts) (ln : Int) (dp : Nat) (p : List Nat × List Nat) : Prop := ∃ g, g ≤ f + 3 ∧ f + 3 ≤ g + p.1.length ∧ strF kwC t (f + 3) (p.1 ++ r) pl ps ln dp = strF kwC t g r (pl ++ p.2) ps ln dp
theorem all_cons {α : Type} {P : α → Prop} {a : α} {l : List α} (h : P a) (k : ∀ x ∈ l, P x) : ∀ x ∈ a :: l, P x := fun x m => (List.mem_cons.mp m).elim (fun e => e ▸ h) (k x)
theorem sign_step {t r pl : List Nat} {f : Nat} {ps : Pts} {ln : Int} {dp : Nat} : ∀ p ∈ signs, StepOk t r pl f ps ln dp p := by
  have raw : ∀ {c : Nat}, c ≠ 34 → c ≠ 10 → c ≠ 92 → StepOk t r pl f ps ln dp ([c], [c]) := fun h1 h2 h3 => ⟨f + 2, Nat.le_succ _, Nat.le_refl _, strF_raw h1 h2 h3⟩
  have esc : ∀ {x : List Nat} {v : Nat}, escaped (x ++ r) = some (v, r) → (x ++ r).take 1 ≠ [40] → StepOk t r pl f ps ln dp (92 :: x, [v]) := fun {x v} h h1 => ⟨f + 2, Nat.le_succ _, Nat.add_le_add_left (Nat.succ_le_succ (Nat.zero_le x.length)) (f + 2), strF_esc h h1⟩
  refine all_cons (raw (by decide) (by decide) (by decide)) (all_cons (raw (by decide) (by decide) (by decide)) ?_)
  refine all_cons (esc (x := [110]) rfl (by simp)) (all_cons (esc (x := [116]) rfl (by simp)) (all_cons (esc (x := [92]) rfl (by simp)) (all_cons (esc (x := [34]) rfl (by simp)) (all_cons (esc (x := [117, 123, 52, 49, 125]) rfl (by simp)) (all_cons (esc (x := [48]) rfl (by simp)) ?_)))))
  refine all_cons (raw (by decide) (by decide) (by decide)) (all_cons (esc (x := [117, 123, 49, 70, 54, 48, 48, 125]) rfl (by simp)) (all_cons (raw (by decide) (by decide) (by decide)) (all_cons ?_ (all_cons (esc (x := [39]) rfl (by simp)) (all_cons (esc (x := [114]) rfl (by simp)) fun _ h => by cases h)))))
  exact ⟨f + 1, Nat.le_add_right _ 2, Nat.le_refl _, (strF_raw (by decide) (by decide) (by decide)).trans ((strF_raw (by decide) (by decide) (by decide)).trans (by rw [List.append_assoc]; rfl))⟩
theorem op_plus : [43] ∈ opsT := by decide
theorem op_ex {o : List Nat} (ho : o ∈ opsT) {r : List Nat} (hr : opEnds o r = true) (t : List Nat) (f : Nat) (ln : Int) (dp : Nat) : ∃ a, tokF kwC t (f + 1) (o ++ r) ln ln dp = some (.ok (a, r)) ∧ Same a (opPc o) ∧ parStep a = 0 :=
  ⟨_, op_tok ho hr, .mk .nil, par0 (by decide)⟩
theorem open_ex {r : List Nat} (t : List Nat) (f : Nat) (ln : Int) (dp : Nat) : ∃ a, tokF kwC t (f + 1) ([40] ++ r) ln ln dp = some (.ok (a, r)) ∧ Same a (punPc [40]) ∧ parStep a = 1 :=
  ⟨_, pun_tok (by decide) rfl, .mk .nil, par_open⟩
theorem close_ex {r : List Nat} (t : List Nat) (f : Nat) (ln : Int) (dp : Nat) : ∃ a, tokF kwC t (f + 1) ([41] ++ r) ln ln dp = some (.ok (a, r)) ∧ Same a (punPc [41]) ∧ parStep a = -1 :=
  ⟨_, pun_tok (by decide) rfl, .mk .nil, par_close⟩
noncomputable def QS (n : Nat) (p : Pc) : Prop := ∀ (t r : List Nat) (f : Nat) (ln last : Int) (dp : Nat), hd1 wordc r = false → dp + n ≤ 12 → 2 * p.text.length + 20 ≤ f →
    ∃ a, tokF kwC t f (p.text ++ r) ln last dp = some (.ok (a, r)) ∧ Same a p ∧ a.line = ln ∧ a.first = (ln != last) ∧ parStep a = 0
noncomputable def QR (n : Nat) (p : Pc) : Prop := ∀ (t r : List Nat) (f : Nat) (ln last : Int) (dp : Nat), dp + n ≤ 12 → 2 * p.text.length + 20 ≤ f →
    ∃ a, tokF kwC t f (p.text ++ r) ln last dp = some (.ok (a, r)) ∧ Same a p ∧ a.line = ln ∧ a.first = (ln != last) ∧ parStep a = 0
noncomputable def QB (n : Nat) (x : List Nat) (ps : PPs) (pl : List Nat) : Prop := ∀ (t r : List Nat) (f : Nat) (ln : Int) (dp : Nat), dp + n ≤ 12 → 2 * x.length + 20 ≤ f →
    ∃ f' ps', f ≤ f' + x.length ∧ f' ≤ f ∧ strF kwC t f (x ++ r) [] .nil ln dp = strF kwC t f' r pl ps' ln dp ∧ SameP ps' ps
noncomputable def QI (n : Nat) (y : List Nat) (rows : Pcs) : Prop := ∀ (t r : List Nat) (f : Nat) (ln : Int) (dp : Nat), dp + 1 + n ≤ 12 → 2 * y.length + 24 ≤ f →
    ∃ ts, innerF kwC t f (y ++ 41 :: r) ln dp = some (.ok (ts, r)) ∧ SameT ts rows
theorem fuel (c : Nat) {f x : Nat} (h : x + 20 ≤ f) (hc : c ≤ 20 := by decide) : ∃ k, f = k + c := ⟨f - c, (Nat.sub_add_cancel (Nat.le_trans hc (Nat.le_trans (Nat.le_add_left _ _) h))).symm⟩
theorem fuel4 (c : Nat) {f x : Nat} (h : x + 24 ≤ f) (hc : c ≤ 24 := by decide) : ∃ k, f = k + c := ⟨f - c, (Nat.sub_add_cancel (Nat.le_trans hc (Nat.le_trans (Nat.le_add_left _ _) h))).symm⟩
theorem fuel3 (c : Nat) {f g x y : Nat} (h : 2 * (x + y) + 20 ≤ f) (h1 : f ≤ g + x) (hc : c ≤ 20 := by decide) : ∃ k, g = k + c := ⟨g - c, (Nat.sub_add_cancel (Nat.le_trans hc (lin [f, g, x, y] (.n 20) (.v 1) [(.a (.m 2 (.a (.v 2) (.v 3))) (.n 20), .v 0), (.v 0, .a (.v 1) (.v 2))] h h1 rfl))).symm⟩
theorem gs_word {n : Nat} {p : List Nat × List Nat} (h : p ∈ words) : QS n (wordPc p) := fun t r f ln last dp hr _ hf => by
    obtain ⟨f, rfl⟩ := fuel 1 hf
    exact ⟨_, word_tok (words_ok p h) hr, .mk .nil, rfl, rfl, par0 (words_kind p h)⟩
theorem gs_num {n : Nat} {p : List Nat × Nat} (h : p ∈ numbers) : QS n (numPc p) := fun t r f ln last dp hr _ hf => by
    obtain ⟨f, rfl⟩ := fuel 1 hf
    exact ⟨_, num_tok (numbers_ok p h) hr, .mk .nil, rfl, rfl, par0 (by decide)⟩
theorem gstr_mk {n : Nat} {x : List Nat} {ps : PPs} {pl : List Nat} (h : QB n x ps pl) : QR n (.mk k_string (34 :: (x ++ [34])) 0 (ps.app (.txt pl .nil))) :=fun t r f ln last dp hd hf => by
    have hf' : 2 * (34 :: (x ++ [34])).length + 20 ≤ f := hf
    rw [List.length_cons, List.length_append, List.length_singleton] at hf'
    obtain ⟨f, rfl⟩ := fuel 1 hf'
    obtain ⟨f', ps', h1, h2, h3, h4⟩ := h t (34 :: r) f ln dp hd (by exact lin [_, _] (.a (.m 2 (.v 0)) (.n 20)) (.v 1) [((.a (.m 2 (.a (.a (.v 0) (.n 1)) (.n 1))) (.n 20)), (.a (.v 1) (.n 1)))] hf' rfl)
    obtain ⟨g, rfl⟩ := fuel3 1 (y := 1) (lin [_, _] (.a (.m 2 (.a (.v 0) (.n 1))) (.n 20)) (.v 1) [((.a (.m 2 (.a (.a (.v 0) (.n 1)) (.n 1))) (.n 20)), (.a (.v 1) (.n 1)))] hf' rfl) h1
    refine ⟨.mk k_string (34 :: (x ++ [34])) ln (ln != last) true true 0 (ps'.app (.txt pl .nil)), ?_, .mk (h4.app (.txt .nil)), rfl, rfl, par0 (by decide)⟩
    show tokF kwC t (f + 1) (34 :: ((x ++ [34]) ++ r)) ln last dp = _
    rw [List.append_assoc, List.singleton_append]
    rw [tok_str (h3.trans strF_end)]
    have e : (34 :: (x ++ 34 :: r)) = (34 :: (x ++ [34])) ++ r := by simp
    rw [e, take_app]
theorem gb_raw {n : Nat} {x : List Nat} {ps : PPs} {pl : List Nat} {p : List Nat × List Nat} (h : QB n x ps pl) (hp : p ∈ signs) : QB n (x ++ p.1) ps (pl ++ p.2) := fun t r f ln dp hd hf => by
    rw [List.length_append] at hf ⊢
    refine xl_EEAAA (h t (p.1 ++ r) f ln dp hd (by exact lin [_, _, _] (.a (.m 2 (.v 0)) (.n 20)) (.v 2) [((.a (.m 2 (.a (.v 0) (.v 1))) (.n 20)), (.v 2))] hf rfl)) fun f1 ps' h1 h2 h3 h4 => ?_
    obtain ⟨g, rfl⟩ := fuel3 3 hf h1
    refine xl_EAA (sign_step p hp (t := t) (r := r) (pl := pl) (f := g) (ps := ps') (ln := ln) (dp := dp)) fun k k1 k2 k3 => ?_
    exact ⟨k, ps', Nat.le_trans h1 (Nat.le_trans (Nat.add_le_add_right k2 _) (Nat.le_of_eq ((Nat.add_right_comm _ _ _).trans (Nat.add_assoc _ _ _)))), Nat.le_trans k1 h2, by rw [List.append_assoc, h3, k3], h4⟩
theorem gb_inn {n : Nat} {x : List Nat} {ps : PPs} {pl y : List Nat} {rows : Pcs} (h : QB (n + 1) x ps pl) (g : QI n y rows) : QB (n + 1) (x ++ ([92, 40] ++ y ++ [41])) (ps.app (.txt pl (.pcs rows .nil))) [] := fun t r f ln dp hd hf => by
    simp only [List.length_append, List.length_cons, List.length_nil] at hf ⊢
    refine xl_EEAAA (h t ([92, 40] ++ y ++ [41] ++ r) f ln dp hd (by exact lin [_, _, _] (.a (.m 2 (.v 0)) (.n 20)) (.v 2) [((.a (.m 2 (.a (.v 0) (.a (.a (.n 2) (.v 1)) (.n 1)))) (.n 20)), (.v 2))] hf rfl)) fun f1 ps' h1 h2 h3 h4 => ?_
    obtain ⟨f2, rfl⟩ := fuel3 1 hf h1
    refine xl_EA (g t r f2 ln dp (by exact lin [_, _] (.a (.a (.v 0) (.n 1)) (.v 1)) (.n 12) [((.a (.v 0) (.a (.v 1) (.n 1))), (.n 12))] hd rfl) (by exact lin [_, _, _, _] (.a (.m 2 (.v 1)) (.n 24)) (.v 3) [((.a (.m 2 (.a (.v 0) (.a (.a (.n 2) (.v 1)) (.n 1)))) (.n 20)), (.v 2)), ((.v 2), (.a (.a (.v 3) (.n 1)) (.v 0)))] hf h1 rfl)) fun ts i1 i2 => ?_
    refine ⟨f2, ps'.app (.txt pl (.toks ts .nil)), by exact lin [_, _, _, _] (.v 0) (.a (.v 1) (.a (.v 2) (.a (.a (.n 2) (.v 3)) (.n 1)))) [((.v 0), (.a (.a (.v 1) (.n 1)) (.v 2)))] h1 rfl, by exact lin [_, _] (.v 0) (.v 1) [((.a (.v 0) (.n 1)), (.v 1))] h2 rfl, ?_, h4.app (.txt (.toks i2 .nil))⟩
    rw [List.append_assoc, h3]
    have e : [92, 40] ++ y ++ [41] ++ r = 92 :: 40 :: (y ++ 41 :: r) := by simp
    rw [e, strF_inn i1]
theorem gi_one {n : Nat} {p : Pc} (h : GS n p) (i : QS n p) : QI n p.text (.cons p .nil) := fun t r f ln dp hd hf => by
    obtain ⟨f, rfl⟩ := fuel4 3 hf
    refine xl_EEA h.head fun c w e hc => ?_
    refine xl_AAA (headc_ok hc) fun k1 k2 k3 _ => ?_
    refine xl_EAAAA (i t (41 :: r) (f + 1) ln ln (dp + 1) rfl (by exact lin [_, _] (.a (.a (.v 0) (.n 1)) (.v 1)) (.n 12) [((.a (.a (.v 0) (.n 1)) (.v 1)), (.n 12))] hd rfl) (by exact lin [_, _] (.a (.m 2 (.v 0)) (.n 20)) (.a (.v 1) (.n 1)) [((.a (.m 2 (.v 0)) (.n 24)), (.a (.v 1) (.n 3)))] hf rfl)) fun a a1 a2 _ _ a3 => ?_
    refine ⟨_, ?_, .cons a2 (.nil (a := .mk k_end [] ln false true true 0 .nil) rfl)⟩
    rw [inner_start (by exact lin [_, _] (.a (.v 0) (.n 1)) (.n 12) [((.a (.a (.v 0) (.n 1)) (.v 1)), (.n 12))] hd rfl) (cs' := p.text ++ 41 :: r) (by rw [e]; exact blanks_stop (noBl_of k1 k2))]
    rw [inner_go (by rw [e]; simp [k3]) (by rw [e]; simp) a1 (blanks_stop (noBl_of (by decide) (by decide))), a3]
    rw [inner_end (by decide)]; rfl
theorem gi_plus {n : Nat} {p q : Pc} (h : GS n p) (h' : GS n q) (i : QS n p) (i' : QS n q) : QI n ([32] ++ p.text ++ [32, 43, 32] ++ q.text) (.cons p (.cons (opPc [43]) (.cons q .nil))) := fun t r f ln dp hd hf => by
    simp only [List.length_append, List.length_cons, List.length_nil] at hf
    obtain ⟨f, rfl⟩ := fuel4 5 hf
    refine xl_EEA h.head fun c w e hc => ?_
    refine xl_AAA (headc_ok hc) fun k1 k2 k3 _ => ?_
    refine xl_EEA h'.head fun c' w' e' hc' => ?_
    refine xl_AAA (headc_ok hc') fun k1' k2' k3' _ => ?_
    refine xl_EAAAA (i t ([32, 43, 32] ++ q.text ++ 41 :: r) (f + 3) ln ln (dp + 1) rfl (by exact lin [_, _] (.a (.a (.v 0) (.n 1)) (.v 1)) (.n 12) [((.a (.a (.v 0) (.n 1)) (.v 1)), (.n 12))] hd rfl) (by exact lin [_, _, _] (.a (.m 2 (.v 0)) (.n 20)) (.a (.v 2) (.n 3)) [((.a (.m 2 (.a (.a (.a (.n 1) (.v 0)) (.n 3)) (.v 1))) (.n 24)), (.a (.v 2) (.n 5)))] hf rfl)) fun a a1 a2 _ _ a3 => ?_
    refine xl_EAA (op_ex op_plus (r := 32 :: (q.text ++ 41 :: r)) rfl t (f + 1) ln (dp + 1)) fun x1 b1 s1 r1 => ?_
    refine xl_EAAAA (i' t (41 :: r) (f + 1) ln ln (dp + 1) rfl (by exact lin [_, _] (.a (.a (.v 0) (.n 1)) (.v 1)) (.n 12) [((.a (.a (.v 0) (.n 1)) (.v 1)), (.n 12))] hd rfl) (by exact lin [_, _, _] (.a (.m 2 (.v 1)) (.n 20)) (.a (.v 2) (.n 1)) [((.a (.m 2 (.a (.a (.a (.n 1) (.v 0)) (.n 3)) (.v 1))) (.n 24)), (.a (.v 2) (.n 5)))] hf rfl)) fun a' a1' a2' _ _ a3' => ?_
    refine ⟨_, ?_, .cons a2 (.cons s1 (.cons a2' (.nil (a := .mk k_end [] ln false true true 0 .nil) rfl)))⟩
    rw [inner_start (by exact lin [_, _] (.a (.v 0) (.n 1)) (.n 12) [((.a (.a (.v 0) (.n 1)) (.v 1)), (.n 12))] hd rfl) (cs' := p.text ++ ([32, 43, 32] ++ q.text ++ 41 :: r)) (by
      have : [32] ++ p.text ++ [32, 43, 32] ++ q.text ++ 41 :: r = [32] ++ (p.text ++ ([32, 43, 32] ++ q.text ++ 41 :: r)) := by simp
      rw [this, blanks_all (by rw [e]; exact noBl_of k1 k2) [32] _ _ (by decide) (by simp)]; simp [nls, nl])]
    rw [inner_go (by rw [e]; simp [k3]) (by rw [e]; simp) a1 (cs2 := [43] ++ 32 :: (q.text ++ 41 :: r)) (by
      have : [32, 43, 32] ++ q.text ++ 41 :: r = [32] ++ ([43] ++ 32 :: (q.text ++ 41 :: r)) := by simp
      rw [this, blanks_all (rest := [43] ++ 32 :: (q.text ++ 41 :: r)) (noBl_of (by decide) (by decide)) [32] _ _ (by decide) (by simp)]; simp [nls, nl]), a3]
    rw [inner_go (by rfl) (by simp) b1 (cs2 := q.text ++ 41 :: r) (by
      have : 32 :: (q.text ++ 41 :: r) = [32] ++ (q.text ++ 41 :: r) := by simp
      rw [this, blanks_all (by rw [e']; exact noBl_of k1' k2') [32] _ _ (by decide) (by simp)]; simp [nls, nl]), r1]
    rw [inner_go (by rw [e']; simp [k3']) (by rw [e']; simp) a1' (blanks_stop (noBl_of (by decide) (by decide))), a3']
    rw [inner_end (by decide)]; rfl
theorem gi_call {n : Nat} {p : Pc} (h : GS n p) (i : QS n p) : QI n ([102, 40] ++ p.text ++ [41]) (.cons (.mk k_name [102] 0 .nil) (.cons (punPc [40]) (.cons p (.cons (punPc [41]) .nil)))) := fun t r f ln dp hd hf => by
    simp only [List.length_append, List.length_cons, List.length_nil] at hf
    obtain ⟨f, rfl⟩ := fuel4 6 hf
    refine xl_EEA h.head fun c w e hc => ?_
    refine xl_AAA (headc_ok hc) fun k1 k2 k3 _ => ?_
    obtain ⟨x0, w1, s0, r0⟩ : ∃ a, tokF kwC t (f + 4) ([102] ++ ([40] ++ (p.text ++ [41] ++ 41 :: r))) ln ln (dp + 1) = some (.ok (a, [40] ++ (p.text ++ [41] ++ 41 :: r))) ∧ Same a (.mk k_name [102] 0 .nil) ∧ parStep a = 0 := ⟨_, word_tok (p := ([102], k_name)) (by decide +kernel) rfl, .mk .nil, par0 (by decide)⟩
    refine xl_EAA (open_ex (r := p.text ++ [41] ++ 41 :: r) t (f + 2) ln (dp + 1)) fun xo1 o1 so1 ro1 => ?_
    refine xl_EAAAA (i t ([41] ++ 41 :: r) (f + 2) ln ln (dp + 1) rfl (by exact lin [_, _] (.a (.a (.v 0) (.n 1)) (.v 1)) (.n 12) [((.a (.a (.v 0) (.n 1)) (.v 1)), (.n 12))] hd rfl) (by exact lin [_, _] (.a (.m 2 (.v 0)) (.n 20)) (.a (.v 1) (.n 2)) [((.a (.m 2 (.a (.a (.n 2) (.v 0)) (.n 1))) (.n 24)), (.a (.v 1) (.n 6)))] hf rfl)) fun a a1 a2 _ _ a3 => ?_
    refine xl_EAA (close_ex (r := 41 :: r) t (f) ln (dp + 1)) fun xo2 o2 so2 ro2 => ?_
    refine ⟨_, ?_, .cons s0 (.cons so1 (.cons a2 (.cons so2 (.nil (a := .mk k_end [] ln false true true 0 .nil) rfl))))⟩
    rw [inner_start (by exact lin [_, _] (.a (.v 0) (.n 1)) (.n 12) [((.a (.a (.v 0) (.n 1)) (.v 1)), (.n 12))] hd rfl) (cs' := [102] ++ ([40] ++ (p.text ++ [41] ++ 41 :: r))) (by
      have : [102, 40] ++ p.text ++ [41] ++ 41 :: r = [102] ++ ([40] ++ (p.text ++ [41] ++ 41 :: r)) := by simp
      rw [this]; exact blanks_stop (noBl_of (by decide) (by decide)))]
    rw [inner_go (by rfl) (by simp) w1 (blanks_stop (noBl_of (by decide) (by decide))), r0]
    rw [inner_go (by rfl) (by simp) o1 (by rw [List.append_assoc]; rw [e]; exact blanks_stop (noBl_of k1 k2)), ro1]
    rw [← e, inner_go (by rfl) (by rw [e]; simp) a1 (blanks_stop (noBl_of (by decide) (by decide))), a3]
    rw [inner_go (by rfl) (by simp) o2 (blanks_stop (noBl_of (by decide) (by decide))), ro2]
    rw [inner_end (by decide)]; rfl
theorem gi_nest {n : Nat} {p : Pc} (h : GS n p) (i : QS n p) : QI n ([40, 40] ++ p.text ++ [41, 32, 41]) (.cons (punPc [40]) (.cons (punPc [40]) (.cons p (.cons (punPc [41]) (.cons (punPc [41]) .nil))))) := fun t r f ln dp hd hf => by
    simp only [List.length_append, List.length_cons, List.length_nil] at hf
    obtain ⟨f, rfl⟩ := fuel4 7 hf
    refine xl_EEA h.head fun c w e hc => ?_
    refine xl_AAA (headc_ok hc) fun k1 k2 k3 _ => ?_
    refine xl_EAA (open_ex (r := [40] ++ (p.text ++ [41, 32, 41] ++ 41 :: r)) t (f + 4) ln (dp + 1)) fun xo0 o0 so0 ro0 => ?_
    refine xl_EAA (open_ex (r := p.text ++ [41, 32, 41] ++ 41 :: r) t (f + 3) ln (dp + 1)) fun xo1 o1 so1 ro1 => ?_
    refine xl_EAAAA (i t ([41, 32, 41] ++ 41 :: r) (f + 3) ln ln (dp + 1) rfl (by exact lin [_, _] (.a (.a (.v 0) (.n 1)) (.v 1)) (.n 12) [((.a (.a (.v 0) (.n 1)) (.v 1)), (.n 12))] hd rfl) (by exact lin [_, _] (.a (.m 2 (.v 0)) (.n 20)) (.a (.v 1) (.n 3)) [((.a (.m 2 (.a (.a (.n 2) (.v 0)) (.n 3))) (.n 24)), (.a (.v 1) (.n 7)))] hf rfl)) fun a a1 a2 _ _ a3 => ?_
    refine xl_EAA (close_ex (r := [32, 41] ++ 41 :: r) t (f + 1) ln (dp + 1)) fun xo2 o2 so2 ro2 => ?_
    refine xl_EAA (close_ex (r := 41 :: r) t (f) ln (dp + 1)) fun xo3 o3 so3 ro3 => ?_
    refine ⟨_, ?_, .cons so0 (.cons so1 (.cons a2 (.cons so2 (.cons so3 (.nil (a := .mk k_end [] ln false true true 0 .nil) rfl)))))⟩
    rw [inner_start (by exact lin [_, _] (.a (.v 0) (.n 1)) (.n 12) [((.a (.a (.v 0) (.n 1)) (.v 1)), (.n 12))] hd rfl) (cs' := [40] ++ ([40] ++ (p.text ++ [41, 32, 41] ++ 41 :: r))) (by
      have : [40, 40] ++ p.text ++ [41, 32, 41] ++ 41 :: r = [40] ++ ([40] ++ (p.text ++ [41, 32, 41] ++ 41 :: r)) := by simp
      rw [this]; exact blanks_stop (noBl_of (by decide) (by decide)))]
    rw [inner_go (by rfl) (by simp) o0 (blanks_stop (noBl_of (by decide) (by decide))), ro0]
    rw [inner_go (by rfl) (by simp) o1 (by rw [List.append_assoc]; rw [e]; exact blanks_stop (noBl_of k1 k2)), ro1]
    rw [← e, inner_go (by rfl) (by rw [e]; simp) a1 (blanks_stop (noBl_of (by decide) (by decide))), a3]
    have o2' : tokF kwC t (f + 2) ([41, 32, 41] ++ 41 :: r) ln ln (dp + 1) = some (.ok (xo2, [32, 41] ++ 41 :: r)) := o2
    rw [inner_go (by rfl) (by simp) o2' (cs2 := [41] ++ 41 :: r) (by
      have : [32, 41] ++ 41 :: r = [32] ++ ([41] ++ 41 :: r) := by simp
      rw [this, blanks_all (rest := [41] ++ 41 :: r) (noBl_of (by decide) (by decide)) [32] _ _ (by decide) (by simp)]; simp [nls, nl]), ro2]
    rw [inner_go (by rfl) (by simp) o3 (blanks_stop (noBl_of (by decide) (by decide))), ro3]
    rw [inner_end (by decide)]; rfl
theorem GS.tok {n : Nat} {p : Pc} (h : GS n p) : QS n p :=
  GS.rec (motive_1 := fun n p _ => QS n p) (motive_2 := fun n x ps pl _ => QB n x ps pl) (motive_3 := fun n y rows _ => QI n y rows) (motive_4 := fun n p _ => QR n p)
    gs_word gs_num (fun _ i t r f ln last dp _ hd hf => i t r f ln last dp hd hf) (fun t r f ln dp _ _ => ⟨f, .nil, Nat.le_add_right _ _, Nat.le_refl _, rfl, .nil⟩) (fun _ hp i => gb_raw i hp) (fun _ _ i j => gb_inn i j)
    gi_one gi_plus gi_call gi_nest (fun _ i => gstr_mk i) h
theorem GStr.tok {n : Nat} {p : Pc} (h : GStr n p) : QR n p :=
  GStr.rec (motive_1 := fun n p _ => QS n p) (motive_2 := fun n x ps pl _ => QB n x ps pl) (motive_3 := fun n y rows _ => QI n y rows) (motive_4 := fun n p _ => QR n p)
    gs_word gs_num (fun _ i t r f ln last dp _ hd hf => i t r f ln last dp hd hf) (fun t r f ln dp _ _ => ⟨f, .nil, Nat.le_add_right _ _, Nat.le_refl _, rfl, .nil⟩) (fun _ hp i => gb_raw i hp) (fun _ _ i j => gb_inn i j)
    gi_one gi_plus gi_call gi_nest (fun _ i => gstr_mk i) h
end Mine
end

section
open PySem PySem.W PySem.Calls PyProof.Rows Builtin.ObjectAttr
set_option maxHeartbeats 4000000
namespace Mine
/-- what may stand behind a piece -/
structure Fol (p : Pc) (r : List Nat) : Prop where
  w : isW p.kind = true → hd1 wordc r = false
  o : p.kind = k_op → opEnds p.text r = true
  u : p.kind = k_punct → punEnds p.text r = true
theorem words_isW : ∀ p ∈ words, isW p.2 = true ∧ p.2 ≠ k_op := by decide +kernel
theorem GP.tok {p : Pc} (h : GP p) (t r : List Nat) (f : Nat) (ln last : Int) (hF : Fol p r) (hf : 2 * p.text.length + 20 ≤ f) :
    ∃ a, tokF kwC t f (p.text ++ r) ln last 0 = some (.ok (a, r)) ∧ Same a p ∧ a.line = ln ∧ a.first = (ln != last) ∧ (p.kind = k_op → a.left = bleft (rpOf t (p.text ++ r)) p.text ∧ a.right = bright r p.text) := by
  cases h with
  | small h =>
    have hw : isW p.kind = true ∧ p.kind ≠ k_op := by
      cases h with
      | word h => exact words_isW _ h
      | num h => exact ⟨show isW k_int = true by decide, show k_int ≠ k_op by decide⟩
    refine xl_EAAAA (GS.tok h t r f ln last 0 (hF.w hw.1) (by decide) hf) fun a h1 h2 h3 h4 _ => ?_
    exact ⟨a, h1, h2, h3, h4, fun e => absurd e hw.2⟩
  | op h =>
    obtain ⟨f, rfl⟩ := fuel 1 hf
    exact ⟨_, op_tok h (hF.o rfl), .mk .nil, rfl, rfl, fun _ => ⟨rfl, rfl⟩⟩
  | pun h =>
    obtain ⟨f, rfl⟩ := fuel 1 hf
    exact ⟨_, pun_tok h (hF.u rfl), .mk .nil, rfl, rfl, fun e => absurd e (by show k_punct ≠ k_op; decide)⟩
  | str h =>
    refine xl_EAAAA (GStr.tok h t r f ln last 0 (by decide) hf) fun a h1 h2 h3 h4 _ => ?_
    exact ⟨a, h1, h2, h3, h4, fun e => by cases h; exact absurd e (by show k_string ≠ k_op; decide)⟩
/-- the kinds of pieces -/
inductive PK (p : Pc) : Prop
  | op : p.kind = k_op → p.text ∈ opsT → PK p
  | pun : p.kind = k_punct → p.text ∈ punctsT → PK p
  | word {c : Nat} {w : List Nat} {e : Nat} {v : List Nat} : isW p.kind = true → p.text = c :: w → headc c = true → p.text = v ++ [e] → wordc e = true → PK p
  | str {w : List Nat} : p.kind = k_string → p.text = 34 :: (w ++ [34]) → PK p
noncomputable def lastOk (x : List Nat) : Bool := hd1 headc x && hd1 wordc x.reverse
theorem lastOk_is {x : List Nat} (h : lastOk x = true) : ∃ c w e v, x = c :: w ∧ headc c = true ∧ x = v ++ [e] ∧ wordc e = true := by
  obtain ⟨h1, h2⟩ := Bool.and_eq_true_iff.mp h
  refine xl_EEA (hd1_true h1) fun c w e1 hc => ?_
  refine xl_EEA (hd1_true h2) fun e v e2 he => ?_
  refine ⟨c, w, e, v.reverse, e1, hc, ?_, he⟩
  have := congrArg List.reverse e2
  rwa [List.reverse_reverse, List.reverse_cons] at this
theorem words_last : ∀ p ∈ words, lastOk p.1 = true := by decide +kernel
theorem numbers_last : ∀ p ∈ numbers, lastOk p.1 = true := by decide +kernel
theorem GP.pk {p : Pc} (h : GP p) : PK p := by
  induction h with
  | small h =>
    cases h with
    | word h => refine xl_EEEEAAA (lastOk_is (words_last _ h)) fun c w e v h1 h2 h3 h4 => ?_; exact .word (words_isW _ h).1 h1 h2 h3 h4
    | num h => refine xl_EEEEAAA (lastOk_is (numbers_last _ h)) fun c w e v h1 h2 h3 h4 => ?_; exact .word (show isW k_int = true by decide) h1 h2 h3 h4
  | op h => exact .op rfl h
  | pun h => exact .pun rfl h
  | str h => cases h; exact .str rfl rfl
theorem hd1_app {p : Nat → Bool} {x y : List Nat} (h : x ≠ []) : hd1 p (x ++ y) = hd1 p x := by
  rcases x with _ | ⟨c, x⟩
  · exact absurd rfl h
  · rfl
theorem PK.ne {p : Pc} (h : PK p) : p.text ≠ [] := by
  induction h with
  | op _ h => exact (show ∀ o ∈ opsT, o ≠ [] by decide) _ h
  | pun _ h => exact (show ∀ o ∈ punctsT, o ≠ [] by decide) _ h
  | word _ h => rw [h]; simp
  | str _ h => rw [h]; simp
theorem gap1_of {p q : Pc} {g : List Nat} (hg : g ∈ gapsT) : gapOf p q g ∈ gaps1 := by
  unfold gapOf gaps1
  split
  · simp
  · split
    · simp only [List.mem_append, List.mem_cons, List.mem_map]; exact .inr (.inr ⟨g, hg, rfl⟩)
    · exact List.mem_append_left _ hg
theorem gap_nil {p q : Pc} {g : List Nat} (h : gapOf p q g = []) : (isW p.kind && isW q.kind) = false ∧ (signOf p && signOf q && !(isEQ p.text && q.text == [46])) = false := by
  unfold gapOf at h
  split at h
  · injection h
  · rename_i h1
    split at h
    · injection h
    · subst h
      have : ((isW p.kind && isW q.kind) || (signOf p && signOf q && !(isEQ p.text && q.text == [46]))) = false := by
        cases e : ((isW p.kind && isW q.kind) || (signOf p && signOf q && !(isEQ p.text && q.text == [46]))) with
        | false => rfl
        | true => rw [e] at h1; exact absurd rfl h1
      exact Bool.or_eq_false_iff.mp this
theorem gap_op {p q : Pc} {g : List Nat} (hg : g ∈ gapsT) (hp : p.kind = k_op) (h : gapOf p q g ≠ []) : hd1 (fun c => c == 32 || c == 9 || c == 10) (gapOf p q g) = true := by
  unfold gapOf at h ⊢
  rw [hp]
  rw [hp] at h
  split
  · rfl
  · rename_i h1
    rw [if_neg h1] at h
    split
    · rfl
    · rename_i h2
      rw [if_neg h2] at h
      have key : ∀ g ∈ gapsT, g ≠ [] → (g.take 1 == [47]) = false → hd1 (fun c => c == 32 || c == 9 || c == 10) g = true := by decide
      refine key g hg h ?_
      cases e : g.take 1 == [47] with
      | false => rfl
      | true => rw [e] at h2; exact absurd rfl h2
theorem not_dec {p : Prop} [Decidable p] (h : (!decide p) = true) : ¬ p := fun e => by rw [decide_eq_true e] at h; injection h
/-- no sign that an operator could go on with -/
theorem quiet {q : Pc} (h : PK q) (hs : signOf q = false) : ∃ c w, q.text = c :: w ∧ c ∉ opch ∧ c ≠ 46 ∧ c ≠ 47 ∧ (c ∈ rset ↔ closes.contains q.text = true) ∧ q.text ≠ [46] := by
  obtain ⟨s1, s2⟩ := Bool.or_eq_false_iff.mp hs
  have hc : ∀ {c : Nat} {w : List Nat}, headc c = true → c ∉ rset ∧ closes.contains (c :: w) = false := fun {c w} h => by
    have key : ∀ k ∈ rset, headc k = false := by decide
    refine ⟨fun z => (by rw [key c z] at h; injection h), ?_⟩
    cases e : closes.contains (c :: w) with
    | false => rfl
    | true =>
      have := List.contains_iff_mem.mp e
      have key2 : ∀ x ∈ closes, hd1 headc x = false := by decide
      have := key2 _ this
      rw [show hd1 headc (c :: w) = headc c from rfl, h] at this; injection this
  induction h with
  | op h => rw [h] at s1; injection s1
  | pun hk ht =>
    refine xl_EEA (hd1_true ((show ∀ o ∈ punctsT, isDA o = false → hd1 (fun c => !decide (c ∈ opch) && (c != 46 && (c != 47 && (decide (c ∈ rset) == closes.contains o && o != [46])))) o = true by decide) _ ht s2)) fun c w e hc => ?_
    have h2 := and_of (and_of hc).2
    have h3 := and_of h2.2
    have h4 := and_of h3.2
    exact ⟨c, w, e, not_dec (and_of hc).1, bne_iff_ne.mp h2.1, bne_iff_ne.mp h3.1, beq_iff_eq.mp h4.1 ▸ decide_eq_true_iff.symm, bne_iff_ne.mp h4.2⟩
  | word _ h1 h2 =>
    refine xl_AAAA (headc_ok h2) fun k1 k2 k3 k4 k5 => ?_
    obtain ⟨k6, k7⟩ := hc (w := _) h2
    refine ⟨_, _, h1, k4, k5, k2, ?_, ?_⟩
    · rw [h1, k7]; simp [k6]
    · rw [h1]; intro e; cases e; exact k5 rfl
  | str _ h1 =>
    refine xl_AAAA (headc_ok (c := 34) rfl) fun k1 k2 k3 k4 k5 => ?_
    obtain ⟨k6, k7⟩ := hc (c := 34) (w := _) rfl
    refine ⟨34, _, h1, k4, k5, k2, ?_, ?_⟩
    · rw [h1, k7]; simp [k6]
    · rw [h1]; intro e; cases e
theorem fol_next {p q : Pc} (hp : PK p) (hq : PK q) {g : List Nat} (hg : g ∈ gapsT) (r : List Nat) : Fol p (gapOf p q g ++ (q.text ++ r)) := by
  have hne := hq.ne
  by_cases hn : gapOf p q g = []
  · obtain ⟨n1, n2⟩ := gap_nil hn
    rw [hn, List.nil_append]
    refine ⟨fun h => ?_, fun h => ?_, fun h => ?_⟩
    · rw [hd1_app hne]
      have hwq : isW q.kind = false := by rw [h, Bool.true_and] at n1; exact n1
      induction hq with
      | op _ h => exact (show ∀ o ∈ opsT, hd1 wordc o = false by decide) _ h
      | pun _ h => exact (show ∀ o ∈ punctsT, hd1 wordc o = false by decide) _ h
      | word h => rw [h] at hwq; injection hwq
      | str _ h => rw [h]; rfl
    · have sp : signOf p = true := by unfold signOf; rw [h]; rfl
      rw [sp, Bool.true_and] at n2
      unfold opEnds
      rcases Bool.and_eq_false_iff.mp n2 with h1 | h1
      · refine xl_EEAA (quiet hq h1) fun c w e k1 _ => ?_
        rw [e, List.cons_append, show hd1 (fun c => decide (c ∈ opch)) (c :: (w ++ r)) = false from decide_eq_false k1]; rfl
      · rw [Bool.not_eq_false'] at h1
        obtain ⟨h2, h3⟩ := Bool.and_eq_true_iff.mp h1
        rw [show q.text = [46] from beq_iff_eq.mp h3]
        unfold isEQ at h2
        rw [h2]; rfl
    · unfold punEnds
      by_cases e46 : p.text = [46]
      · have sp : signOf p = true := by unfold signOf isDA; rw [e46]; simp
        rw [sp, Bool.true_and, e46, show isEQ [46] = false from rfl, Bool.false_and, Bool.not_false, Bool.and_true] at n2
        refine xl_EEAAA (quiet hq n2) fun c w e _ k2 _ => ?_
        rw [e, List.cons_append, show hd1 (fun c => c == 46) (c :: (w ++ r)) = false from beq_eq_false_iff_ne.mpr k2]; simp
      · rw [beq_eq_false_iff_ne.mpr e46]; rfl
  · have hm := gap1_of (p := p) (q := q) hg
    refine ⟨fun h => ?_, fun h => ?_, fun h => ?_⟩
    · rw [hd1_app hn]
      exact (show ∀ g ∈ gaps1, hd1 wordc g = false by decide) _ hm
    · have := gap_op hg h hn
      unfold opEnds
      rw [hd1_app hn]
      rw [hd1_sub (p := fun c => !(c == 32 || c == 9 || c == 10)) (q := fun c => decide (c ∈ opch)) (fun c hc => by
        have hc := of_decide_eq_true hc
        have := (show ∀ c ∈ opch, (!(c == 32 || c == 9 || c == 10)) = true by decide) c hc
        exact this) (by
        refine xl_EEA (hd1_true this) fun c w e hc => ?_
        rw [e]; show (!(c == 32 || c == 9 || c == 10)) = false; rw [hc]; rfl)]
      rfl
    · unfold punEnds
      rw [hd1_app hn, (show ∀ g ∈ gaps1, hd1 (fun c => c == 46) g = false by decide) _ hm]; simp
/-- what may stand behind the last piece -/
theorem fol_last {p : Pc} {x : List Nat} (hx : hd1 (fun c => !(c == 32 || c == 10)) x = false) : Fol p x := by
  rcases x with _ | ⟨c, x⟩
  · exact ⟨fun _ => rfl, fun _ => rfl, fun _ => by unfold punEnds; simp [hd1]⟩
  · have hc : c = 32 ∨ c = 10 := by
      by_cases h : c = 32
      · exact .inl h
      · exact .inr (by simpa [hd1, h] using hx)
    refine ⟨fun _ => ?_, fun _ => ?_, fun _ => ?_⟩
    · rcases hc with rfl | rfl <;> rfl
    · rcases hc with rfl | rfl <;> rfl
    · unfold punEnds; rcases hc with rfl | rfl <;> simp [hd1]
theorem noBl_next {q : Pc} (hq : PK q) {r : List Nat} (hF : Fol q r) : NoBl (q.text ++ r) := by
  induction hq with
  | op hk ht =>
    have hr := hF.o hk
    by_cases z : q.text = [47]
    · rw [z] at hr ⊢
      rcases r with _ | ⟨c, r⟩
      · exact ⟨rfl, by simp, by simp⟩
      · have hc : c ∉ opch := by
          unfold opEnds at hr
          intro hm
          rw [show hd1 (fun c => decide (c ∈ opch)) (c :: r) = true from decide_eq_true hm] at hr
          simp at hr
        have n1 : ¬ c = 47 := fun e => hc (by rw [e]; decide)
        have n2 : ¬ c = 42 := fun e => hc (by rw [e]; decide)
        exact ⟨rfl, by simp [n1], by simp [n2]⟩
    · refine xl_EEA (hd1_true ((show ∀ o ∈ opsT, o ≠ [47] → hd1 (fun c => !decide (c ∈ wsl) && (c != 47 || o == [47, 61])) o = true by decide) _ ht z)) fun c w e hc => ?_
      rcases Bool.or_eq_true_iff.mp (and_of hc).2 with h2 | h2
      · rw [e]; exact noBl_of (not_dec (and_of hc).1) (bne_iff_ne.mp h2)
      · rw [beq_iff_eq.mp h2]; exact ⟨rfl, by simp, by simp⟩
  | pun hk ht =>
    refine xl_EEA (hd1_true ((show ∀ o ∈ punctsT, hd1 (fun c => !decide (c ∈ wsl) && c != 47) o = true by decide) _ ht)) fun c w e hc => ?_
    rw [e]; exact noBl_of (not_dec (and_of hc).1) (bne_iff_ne.mp (and_of hc).2)
  | word _ h1 h2 => rw [h1]; exact noBl_of (headc_ok h2).1 (headc_ok h2).2.1
  | str _ h1 => rw [h1]; exact noBl_of (by decide) (by decide)
-- sides
noncomputable def gl (y : List Nat) : Bool := match y with
  | [] => false
  | c :: r => (c == 47 && r.take 1 == [42]) || (!(c == 47) && !(c == 62) && decide (c ∈ lset1))
theorem bleft_gap {y z o : List Nat} (h : gl y = true) : bleft (y ++ z) o = true := by
  rcases y with _ | ⟨c, r⟩
  · injection h
  · simp only [gl, Bool.or_eq_true, Bool.and_eq_true, beq_iff_eq, Bool.not_eq_true', beq_eq_false_iff_ne, decide_eq_true_eq] at h
    rw [List.cons_append, bleft]
    rcases h with ⟨h1, h2⟩ | ⟨⟨h1, h2⟩, h3⟩
    · rw [if_pos ⟨h1, by rcases r with _ | ⟨e, r⟩; injection h2; exact h2⟩]
    · rw [if_neg (by simp [h1]), if_neg (by simp [h2]), decide_eq_true h3]; rfl
theorem bleft_no {c : Nat} {z o : List Nat} (h : wordc c = true ∨ c = 34) : bleft (c :: z) o = false := by
  have key : ∀ k ∈ [47, 62] ++ lset1 ++ lset2, wordc k = false ∧ k ≠ 34 := by decide
  have ne : ∀ k ∈ [47, 62] ++ lset1 ++ lset2, c ≠ k := fun k hk e => by
    subst e
    rcases h with h | h
    · rw [(key c hk).1] at h; injection h
    · exact (key c hk).2 h
  rw [bleft, if_neg (by simp [ne 47 (by decide)]), if_neg (by simp [ne 62 (by decide)]), decide_eq_false (fun z => ne c (by simp [z]) rfl), decide_eq_false (fun z => ne c (by simp only [List.mem_append]; exact .inr z) rfl)]
  rfl
theorem bleft_plain {c : Nat} {z x : List Nat} (h : c ≠ 47) (h2 : c ≠ 62) : bleft (c :: z) x = (decide (c ∈ lset1) || decide (c ∈ lset2)) :=
  (if_neg fun e => h e.1).trans (if_neg fun e => h2 e.2)
theorem side_left {p q : Pc} (hp : PK p) (hq : PK q) (hqk : q.kind = k_op) {g : List Nat} (hg : g ∈ gapsT) (pre : List Nat) :
    bleft (pre ++ p.text ++ gapOf p q g).reverse q.text = (gapOf p q g != [] || opens.contains p.text) := by
  by_cases hn : gapOf p q g = []
  · obtain ⟨_, n2⟩ := gap_nil hn
    have sq : signOf q = true := by unfold signOf; rw [hqk]; rfl
    have q46 : (q.text == [46]) = false := by
      induction hq with
      | op _ h => exact beq_eq_false_iff_ne.mpr ((show ∀ o ∈ opsT, o ≠ [46] by decide) _ h)
      | pun h => rw [hqk] at h; exact absurd h (by decide)
      | word h => rw [hqk] at h; exact absurd h (by decide)
      | str h => rw [hqk] at h; exact absurd h (by decide)
    rw [sq, q46, Bool.and_false, Bool.not_false, Bool.and_true, Bool.and_true] at n2
    obtain ⟨s1, s2⟩ := Bool.or_eq_false_iff.mp n2
    rw [hn, List.append_nil, List.reverse_append]
    show _ = opens.contains p.text
    have nop : ∀ {c : Nat} {w : List Nat}, headc c = true → opens.contains (c :: w) = false := fun {c w} h => by
      cases e : opens.contains (c :: w) with
      | false => rfl
      | true =>
        have := List.contains_iff_mem.mp e
        have key2 : ∀ x ∈ opens, hd1 headc x = false := by decide
        have := key2 _ this
        rw [show hd1 headc (c :: w) = headc c from rfl, h] at this; injection this
    induction hp with
    | op h => rw [h] at s1; injection s1
    | pun _ h =>
      refine xl_EEA (hd1_true ((show ∀ o ∈ punctsT, isDA o = false → hd1 (fun c => c != 47 && (c != 62 && opens.contains o == (decide (c ∈ lset1) || decide (c ∈ lset2)))) o.reverse = true by decide) _ h s2)) fun c w e hc => ?_
      rw [e]
      have hc2 := and_of (and_of hc).2
      exact (bleft_plain (bne_iff_ne.mp (and_of hc).1) (bne_iff_ne.mp hc2.1)).trans (beq_iff_eq.mp hc2.2).symm
    | word _ h1 h2 h3 h4 =>
      rw [h1, nop h2, ← h1, h3, List.reverse_append, List.reverse_singleton, List.append_assoc]
      exact bleft_no (.inl h4)
    | str _ h1 =>
      rw [h1, nop rfl, List.reverse_cons, List.reverse_append, List.reverse_singleton]
      exact bleft_no (.inr rfl)
  · rw [show (gapOf p q g != []) = true by simpa using hn, List.reverse_append]
    refine (bleft_gap ?_).trans rfl
    exact (show ∀ g ∈ gaps1, g ≠ [] → gl g.reverse = true by decide) _ (gap1_of hg) hn
theorem bright_gap {y z o : List Nat} (h : hd1 (fun c => decide (c ∈ rset)) y = true) : bright (y ++ z) o = true := by
  refine xl_EEA (hd1_true h) fun c w zr1 hc => ?_; subst zr1
  unfold bright
  rw [List.cons_append, bright1, show decide (c ∈ rset) = true from hc]; rfl
theorem side_right {p q : Pc} (hq : PK q) (hpk : p.kind = k_op) {g : List Nat} (hg : g ∈ gapsT) (r : List Nat) :
    bright (gapOf p q g ++ (q.text ++ r)) p.text = (gapOf p q g != [] || closes.contains q.text || (q.text == [46] && isEQ p.text)) := by
  by_cases hn : gapOf p q g = []
  · obtain ⟨_, n2⟩ := gap_nil hn
    have sp : signOf p = true := by unfold signOf; rw [hpk]; rfl
    rw [sp, Bool.true_and] at n2
    rw [hn, List.nil_append]
    show _ = (closes.contains q.text || (q.text == [46] && isEQ p.text))
    rcases Bool.and_eq_false_iff.mp n2 with h1 | h1
    · refine xl_EEAAAAA (quiet hq h1) fun c w e k1 k2 k3 k4 k5 => ?_
      rw [beq_eq_false_iff_ne.mpr k5, Bool.false_and, Bool.or_false]
      have e2 : q.text ++ r = c :: (w ++ r) := by rw [e]; rfl
      rw [e2]
      unfold bright
      rw [bright1, show ((c :: (w ++ r)).take 1 == [46]) = false by simpa using k2, Bool.false_and, Bool.or_false]
      rw [show ((c :: (w ++ r)).take 2 == [47, 47]) = false by simp [k3], show ((c :: (w ++ r)).take 2 == [47, 42]) = false by simp [k3], Bool.or_false, Bool.or_false]
      cases e3 : closes.contains q.text with
      | true => exact decide_eq_true (k4.mpr e3)
      | false => exact decide_eq_false fun z => by rw [k4.mp z] at e3; injection e3
    · rw [Bool.not_eq_false'] at h1
      obtain ⟨h2, h3⟩ := Bool.and_eq_true_iff.mp h1
      rw [show q.text = [46] from beq_iff_eq.mp h3, h2]
      unfold isEQ at h2
      unfold bright
      rw [h2]
      show (bright1 ([46] ++ r) || true) = _
      rw [Bool.or_true]; rfl
  · rw [show (gapOf p q g != []) = true by simpa using hn]
    refine (bright_gap ?_).trans rfl
    refine xl_EEA (hd1_true (gap_op hg hpk hn)) fun c w e hc => ?_
    rw [e]
    have : (c = 32 ∨ c = 9) ∨ c = 10 := by simpa using hc
    rcases this with (rfl | rfl) | rfl <;> rfl
theorem bright_last {x o : List Nat} (hx : hd1 (fun c => !(c == 32 || c == 10)) x = false) : bright x o = true := by
  rcases x with _ | ⟨c, x⟩
  · rfl
  · have hc : c = 32 ∨ c = 10 := by
      by_cases h : c = 32
      · exact .inl h
      · exact .inr (by simpa [hd1, h] using hx)
    exact bright_gap (y := [c]) (z := x) (by rcases hc with rfl | rfl <;> rfl)
theorem bleft_ahead {a : List Nat} (ha : a ∈ aheadT) (o : List Nat) : bleft a.reverse o = true := by
  by_cases hn : a = []
  · rw [hn]; rfl
  · have := bleft_gap (y := a.reverse) (z := []) (o := o) ((show ∀ a ∈ aheadT, a ≠ [] → gl a.reverse = true by decide) a ha hn)
    rwa [List.append_nil] at this
end Mine
end

section
open PySem PySem.W PySem.Calls PyProof.Rows Builtin.ObjectAttr
set_option maxHeartbeats 4000000
namespace Mine
-- what is no piece
theorem inner_go' {t : List Nat} {f : Nat} {cs cs1 cs2 : List Nat} {ln ln2 deep : Int} {acc : Tks} {dp : Nat} {a : Tk} (h0 : (decide (0 < deep) || !(cs.take 1 == [41])) = true) (h1 : cs ≠ []) (ht : tokF kwC t f cs ln ln dp = some (.ok (a, cs1))) (hb : blanks f cs1 ln = some (.ok (cs2, ln2))) :
    innerL kwC t (f + 1) cs ln ln deep acc dp = innerL kwC t f cs2 ln2 ln (deep + parStep a) (acc.app (.cons a .nil)) dp := by
  rw [innerL_s, if_pos h0, if_neg (by simp [h1]), ht]
  dsimp only
  rw [hb]
theorem inner_bad {t : List Nat} {f : Nat} {cs : List Nat} {ln ln2 deep : Int} {acc : Tks} {dp : Nat} (h : ln2 ≠ ln) : innerL kwC t (f + 1) cs ln2 ln deep acc dp = some (.bad ln) := by
  rw [innerL_s]
  split
  · first | rfl | rw [if_pos (.inr h)]
  · first | rfl | rw [if_pos h]
theorem inner_fault {t : List Nat} {f : Nat} {cs : List Nat} {ln l deep : Int} {acc : Tks} {dp : Nat} (h0 : (decide (0 < deep) || !(cs.take 1 == [41])) = true) (h1 : cs ≠ []) (ht : tokF kwC t f cs ln ln dp = some (.bad l)) :
    innerL kwC t (f + 1) cs ln ln deep acc dp = some (.bad l) := by
  rw [innerL_s, if_pos h0, if_neg (by simp [h1]), ht]
theorem ill_a (t : List Nat) (f : Nat) (ln last : Int) : tokF kwC t (f + 30) ([34, 92, 40, 97, 10] ++ [32, 10, 32, 97]) ln last 0 = some (.bad ln) := by
  have hI : innerF kwC t (f + 28) [97, 10, 32, 10, 32, 97] ln 0 = some (.bad ln) := by
    rw [inner_start (f := f + 27) (by decide) (blanks_stop (f := f + 26) (noBl_of (by decide) (by decide)))]
    have w : tokF kwC t (f + 26) [97, 10, 32, 10, 32, 97] ln ln 1 = some (.ok (.mk k_name [97] ln (ln != ln) true true 0 .nil, [10, 32, 10, 32, 97])) := word_tok (p := ([97], k_name)) (by decide +kernel) rfl
    show innerL kwC t (f + 26 + 1) [97, 10, 32, 10, 32, 97] ln ln 0 .nil 1 = _
    rw [inner_go' (f := f + 26) (by rfl) (by simp) w (cs2 := [97]) (ln2 := ln + 2) (by
      have := blanks_all (rest := [97]) (noBl_of (by decide) (by decide)) [10, 32, 10, 32] (f + 26) ln (by decide) (by simp)
      exact this.trans (by simp [nls, nl]))]
    exact inner_bad (f := f + 25) (Int.ne_of_gt (Int.lt_add_of_pos_right ln (by decide)))
  have e : tokF kwC t (f + 30) ([34, 92, 40, 97, 10] ++ [32, 10, 32, 97]) ln last 0 = tokF kwC t (f + 29 + 1) (34 :: 92 :: 40 :: [97, 10, 32, 10, 32, 97]) ln last 0 := rfl
  exact e.trans (tok_strb (strF_innb hI))
theorem ill_b (t : List Nat) (f : Nat) (ln last : Int) : tokF kwC t (f + 30) ([34, 92, 40, 40, 97, 41, 34] ++ [32, 10, 32, 97]) ln last 0 = some (.bad ln) := by
  have hI : innerF kwC t (f + 28) [40, 97, 41, 34, 32, 10, 32, 97] ln 0 = some (.bad ln) := by
    rw [inner_start (f := f + 27) (by decide) (blanks_stop (f := f + 26) (noBl_of (by decide) (by decide)))]
    refine xl_EAA (open_ex (r := [97, 41, 34, 32, 10, 32, 97]) t (f + 25) ln 1) fun x1 o1 _ r1 => ?_
    have o1 : tokF kwC t (f + 26) [40, 97, 41, 34, 32, 10, 32, 97] ln ln 1 = some (.ok (x1, [97, 41, 34, 32, 10, 32, 97])) := o1
    have w : tokF kwC t (f + 25) [97, 41, 34, 32, 10, 32, 97] ln ln 1 = some (.ok (.mk k_name [97] ln (ln != ln) true true 0 .nil, [41, 34, 32, 10, 32, 97])) := word_tok (p := ([97], k_name)) (by decide +kernel) rfl
    refine xl_EAA (close_ex (r := [34, 32, 10, 32, 97]) t (f + 23) ln 1) fun x2 o2 _ r2 => ?_
    have o2 : tokF kwC t (f + 24) [41, 34, 32, 10, 32, 97] ln ln 1 = some (.ok (x2, [34, 32, 10, 32, 97])) := o2
    show innerL kwC t (f + 26 + 1) [40, 97, 41, 34, 32, 10, 32, 97] ln ln 0 .nil 1 = _
    rw [inner_go' (f := f + 26) (by rfl) (by simp) o1 (blanks_stop (f := f + 25) (noBl_of (by decide) (by decide))), r1]
    rw [inner_go' (f := f + 25) (by rfl) (by simp) w (blanks_stop (f := f + 24) (noBl_of (by decide) (by decide))), par0 (by decide)]
    rw [inner_go' (f := f + 24) (by rfl) (by simp) o2 (blanks_stop (f := f + 23) (noBl_of (by decide) (by decide))), r2]
    refine inner_fault (f := f + 23) (by rfl) (by simp) ?_
    show tokF kwC t (f + 22 + 1) (34 :: 32 :: 10 :: [32, 97]) ln ln 1 = _
    exact tok_strb (f := f + 22) ((strF_raw (f := f + 21) (by decide) (by decide) (by decide)).trans (strF_nl (f := f + 20)))
  have e : tokF kwC t (f + 30) ([34, 92, 40, 40, 97, 41, 34] ++ [32, 10, 32, 97]) ln last 0 = tokF kwC t (f + 29 + 1) (34 :: 92 :: 40 :: [40, 97, 41, 34, 32, 10, 32, 97]) ln last 0 := rfl
  exact e.trans (tok_strb (strF_innb hI))
theorem FU_is : FU = 199970 + 30 := rfl
theorem fu_sub {n : Nat} (h : n ≤ 15) : ∃ k, FU = (k + 1) + n := ⟨199999 - n, FU_is.trans ((Nat.add_right_comm _ 1 n).trans (congrArg (· + 1) (Nat.sub_add_cancel (Nat.le_trans h (by decide))))).symm⟩
noncomputable def IllBad (t : List Nat) (ln last : Int) (ill : List Nat) : Prop := tokF kwC t FU (ill ++ [32, 10, 32, 97]) ln last 0 = some (.bad ln)
theorem ill_bad (t : List Nat) (ln last : Int) : ∀ ill ∈ illsT, IllBad t ln last ill := by
  have k : ∀ {x : List Nat}, tokF kwC t FU (x ++ [32, 10, 32, 97]) ln last 0 = some (.bad ln) → IllBad t ln last x := id
  refine all_cons (k (by kernel_rfl)) (all_cons (k (by kernel_rfl)) (all_cons (k (by kernel_rfl)) (all_cons (k (by kernel_rfl)) (all_cons (k (by kernel_rfl)) (all_cons (k (by kernel_rfl)) (all_cons (k (by kernel_rfl)) ?_))))))
  refine all_cons (k (by kernel_rfl)) (all_cons (k (by kernel_rfl)) (all_cons (k (by kernel_rfl)) (all_cons (k (by kernel_rfl)) (all_cons (k (by kernel_rfl)) (all_cons (k (by kernel_rfl)) (all_cons (k (by kernel_rfl)) ?_))))))
  exact all_cons (ill_a t 199970 ln last) (all_cons (ill_b t 199970 ln last) (all_cons (k (by kernel_rfl)) (all_cons (k (by kernel_rfl)) (all_cons (k (by kernel_rfl)) (all_cons (k (by kernel_rfl)) (all_cons (k (by kernel_rfl)) fun _ h => by cases h))))))
theorem ill_noBl {ill : List Nat} (h : ill ∈ illsT) (x : List Nat) : NoBl (ill ++ x) := by
  have key : ∀ o ∈ illsT, hd1 (fun c => !decide (c ∈ wsl) && !(c == 47)) o = true := by decide
  refine xl_EEA (hd1_true (key ill h)) fun c w zr1 hc => ?_; subst zr1
  simp only [Bool.and_eq_true, Bool.not_eq_true', decide_eq_false_iff_not, beq_eq_false_iff_ne] at hc
  exact noBl_of hc.1 hc.2
-- rows
theorem words_nls : ∀ p ∈ words, nls p.1 = 0 := by decide +kernel
theorem numbers_nls : ∀ p ∈ numbers, nls p.1 = 0 := by decide +kernel
theorem signs_nls : ∀ p ∈ signs, nls p.1 = 0 := by decide +kernel
theorem nls_str {x : List Nat} (h : nls x = 0) : nls (34 :: (x ++ [34])) = 0 := by
  rw [nls, nls_app, h]; rfl
theorem nls_call {x : List Nat} (h : nls x = 0) {a b : List Nat} (ha : nls a = 0) (hb : nls b = 0) : nls (a ++ x ++ b) = 0 := by
  rw [nls_app, nls_app, ha, h, hb]; rfl
theorem nls_two {x y : List Nat} (h : nls x = 0) (h' : nls y = 0) : nls (x ++ y) = 0 := by
  rw [nls_app, h, h']; rfl
theorem GS.nls0 {n : Nat} {p : Pc} (h : GS n p) : nls p.text = 0 :=
  GS.rec (motive_1 := fun n p _ => nls p.text = 0) (motive_2 := fun n x ps pl _ => nls x = 0) (motive_3 := fun n y rows _ => nls y = 0) (motive_4 := fun n p _ => nls p.text = 0)
    (fun h => words_nls _ h) (fun h => numbers_nls _ h) (fun _ i => i) rfl (fun _ hp i => nls_two i (signs_nls _ hp)) (fun _ _ i j => nls_two i (nls_call j rfl rfl))
    (fun _ i => i) (fun _ _ i j => nls_two (nls_call i rfl rfl) j) (fun _ i => nls_call i rfl rfl) (fun _ i => nls_call i rfl rfl) (fun _ i => nls_str i) h
theorem GStr.nls0 {n : Nat} {p : Pc} (h : GStr n p) : nls p.text = 0 :=
  GStr.rec (motive_1 := fun n p _ => nls p.text = 0) (motive_2 := fun n x ps pl _ => nls x = 0) (motive_3 := fun n y rows _ => nls y = 0) (motive_4 := fun n p _ => nls p.text = 0)
    (fun h => words_nls _ h) (fun h => numbers_nls _ h) (fun _ i => i) rfl (fun _ hp i => nls_two i (signs_nls _ hp)) (fun _ _ i j => nls_two i (nls_call j rfl rfl))
    (fun _ i => i) (fun _ _ i j => nls_two (nls_call i rfl rfl) j) (fun _ i => nls_call i rfl rfl) (fun _ i => nls_call i rfl rfl) (fun _ i => nls_str i) h
theorem GP.nls0 {p : Pc} (h : GP p) : nls p.text = 0 := by
  cases h with
  | small h => exact h.nls0
  | op h => exact (show ∀ o ∈ opsT, nls o = 0 by decide) _ h
  | pun h => exact (show ∀ o ∈ punctsT, nls o = 0 by decide) _ h
  | str h => exact h.nls0
noncomputable def gnl : List (List Nat) → Int
  | [] => 0
  | g :: r => nls g + gnl r
theorem joinT_cons (p : Pc) (ps : List Pc) (g : List Nat) (gs : List (List Nat)) : joinT (p :: ps) (g :: gs) = p.text ++ (g ++ joinT ps gs) := by
  unfold joinT; rw [List.zipWith_cons_cons, List.flatten_cons, List.append_assoc]
theorem joinT_nls {ps : List Pc} {gs : List (List Nat)} (g : GG ps gs) : (∀ p ∈ ps, GP p) → nls (joinT ps gs) = gnl gs := by
  induction g with
  | @one p g _ =>
    intro h
    rw [joinT_cons, nls_app, (h p (.head _)).nls0, nls_app]
    show 0 + (nls g + nls []) = nls g + 0
    rw [nls]; exact Int.zero_add _
  | @cons p _ _ _ _ hg hgg ih =>
    intro h
    rw [joinT_cons, nls_app, (h p (.head _)).nls0, nls_app, ih fun p hp => h p (.tail _ hp), gnl]; exact Int.zero_add _
theorem joinT_mem {ps : List Pc} {gs : List (List Nat)} (g : GG ps gs) : ∀ p ∈ ps, p.text.length ≤ (joinT ps gs).length := by
  induction g with
  | one _ =>
    intro q hq
    rw [List.mem_singleton.mp hq, joinT_cons, List.length_append]; exact Nat.le_add_right _ _
  | cons hg hgg ih =>
    intro q hq
    rw [joinT_cons, List.length_append, List.length_append]
    exact (List.mem_cons.mp hq).elim (fun e => e ▸ Nat.le_add_right _ _) fun hq => Nat.le_trans (ih q hq) (Nat.le_trans (Nat.le_add_left _ _) (Nat.le_add_left _ _))
-- the run over the pieces
theorem topL_go {t : List Nat} {n : Nat} {cs cs1 cs2 : List Nat} {ln last ln2 : Int} {acc : Tks} {a : Tk} (h1 : cs ≠ []) (ht : tokF kwC t FU cs ln last 0 = some (.ok (a, cs1))) (hb : blanks FU cs1 ln = some (.ok (cs2, ln2))) :
    topL kwC t FU (n + 1) cs ln last acc = topL kwC t FU n cs2 ln2 ln (acc.app (.cons a .nil)) := by
  rcases cs with _ | ⟨c, r⟩
  · exact absurd rfl h1
  · rw [topL, ht]
    dsimp only
    rw [hb]
theorem topL_bad {t : List Nat} {n : Nat} {cs : List Nat} {ln last l : Int} {acc : Tks} (h1 : cs ≠ []) (ht : tokF kwC t FU cs ln last 0 = some (.bad l)) : topL kwC t FU (n + 1) cs ln last acc = some (.bad l) := by
  rcases cs with _ | ⟨c, r⟩
  · exact absurd rfl h1
  · rw [topL, ht]
theorem Tks.app_assoc (a b c : Tks) : (a.app b).app c = a.app (b.app c) :=
  Tks.rec (motive_1 := fun _ => True) (motive_2 := fun _ => True) (motive_3 := fun a => (a.app b).app c = a.app (b.app c)) (fun _ _ _ _ _ _ _ _ _ => trivial) trivial (fun _ _ _ => trivial) (fun _ _ _ _ => trivial) rfl (fun x _ _ i => congrArg (Tks.cons x) i) a
theorem Tks.list_app (a b : Tks) : (a.app b).list = a.list ++ b.list :=
  Tks.rec (motive_1 := fun _ => True) (motive_2 := fun _ => True) (motive_3 := fun a => (a.app b).list = a.list ++ b.list) (fun _ _ _ _ _ _ _ _ _ => trivial) trivial (fun _ _ _ => trivial) (fun _ _ _ _ => trivial) rfl (fun x _ _ i => congrArg (List.cons x) i) a
theorem rpOf_app (pre cs : List Nat) : rpOf (pre ++ cs) cs = pre.reverse := by unfold rpOf; rw [take_app]
theorem next_fol_ {z : List Nat} (hz1 : ∀ g ∈ lastT, hd1 (fun c => !(c == 32 || c == 10)) (g ++ z) = false) {ps : List Pc} {gs : List (List Nat)} (g : GG ps gs) : (∀ p ∈ ps, GP p) → ∀ q r', ps = q :: r' → ∃ r, joinT ps gs ++ z = q.text ++ r ∧ Fol q r := by
  induction g with
  | @one q g hg => exact fun h q' r' e => ⟨g ++ z, by rw [joinT_cons, (List.cons.inj e).1]; simp [joinT], fol_last (hz1 g hg)⟩
  | @cons q q' ps g gs hg hgg ih =>
    intro h p' r' e'
    rw [← (List.cons.inj e').1]
    refine xl_EA (ih (fun p hp => h p (.tail _ hp)) _ _ rfl) fun r e _ => ?_
    refine ⟨gapOf q q' g ++ (q'.text ++ r), ?_, fol_next (h q (.head _)).pk (h q' (.tail _ (.head _))).pk hg r⟩
    rw [joinT_cons, List.append_assoc, List.append_assoc, e]
theorem next_fol {z : List Nat} (hz1 : ∀ g ∈ lastT, hd1 (fun c => !(c == 32 || c == 10)) (g ++ z) = false) {q : Pc} {ps : List Pc} {gs : List (List Nat)} (g : GG (q :: ps) gs) (h : ∀ p ∈ q :: ps, GP p) : ∃ r, joinT (q :: ps) gs ++ z = q.text ++ r ∧ Fol q r := next_fol_ hz1 g h _ _ rfl
theorem drop_one {α : Type} {l : List α} {n : Nat} {a : α} {r : List α} (h : l.drop n = a :: r) : l[n]? = some a ∧ l.drop (n + 1) = r ∧ l.length = n + 1 + r.length := by
  obtain ⟨h1, h2⟩ := drop_cons h
  refine ⟨h1, h2, ?_⟩
  have h3 := congrArg List.length h2
  have h4 := (List.getElem?_eq_some_iff.mp h1).1
  rw [List.length_drop] at h3
  exact (Nat.add_sub_cancel' h4).symm.trans (congrArg (n + 1 + ·) h3)
theorem run {z z' : List Nat} {kz : Int} (hz1 : ∀ g ∈ lastT, hd1 (fun c => !(c == 32 || c == 10)) (g ++ z) = false) (hz2 : ∀ g ∈ lastT, ∀ ln, blanks FU (g ++ z) ln = some (.ok (z', ln + nls g + kz))) (ps0 : List Pc) (gs0 : List (List Nat))
    {ps : List Pc} {gs : List (List Nat)} (G : GG ps gs) : (∀ p ∈ ps, GP p ∧ 2 * p.text.length + 20 ≤ FU) → ∀ (at' : Nat) (pre t : List Nat) (n : Nat) (ln last : Int) (acc : Tks), ps0.drop at' = ps → gs0.drop at' = gs → t = pre ++ (joinT ps gs ++ z) →
      (∀ p r, ps = p :: r → p.kind = k_op → bleft pre.reverse p.text = leftOf ps0 gs0 at') →
      ∃ ts last', topL kwC t FU (n + ps.length) (joinT ps gs ++ z) ln last acc = topL kwC t FU n z' (ln + gnl gs + kz) last' (acc.app ts) ∧ (∀ e : Tk, e.kind = k_end → e.line = ln + gnl gs → e.first = true → Right ps0 gs0 at' ln last (ts.list ++ [e]) ps) := by
  induction G with
  | @one p g hg =>
    intro h at' pre t n ln last acc hp0 hg0 ht hl
    obtain ⟨gp, fu⟩ := h p (.head _)
    refine xl_AA (drop_one hp0) fun p1 p2 p3 => ?_
    refine xl_AA (drop_one hg0) fun g1 g2 g3 => ?_
    have ej : joinT [p] [g] ++ z = p.text ++ (g ++ z) := by rw [joinT_cons]; simp [joinT]
    rw [ej] at ht ⊢
    refine xl_EAAAA (gp.tok t (g ++ z) FU ln last (fol_last (hz1 g hg)) fu) fun a a1 a2 a3 a4 a5 => ?_
    have ne : p.text ++ (g ++ z) ≠ [] := by simp [gp.pk.ne]
    refine ⟨.cons a .nil, ln, ?_, fun e e1 e2 e3 => ?_⟩
    · show topL kwC t FU (n + 1) _ ln last acc = _
      rw [topL_go ne a1 (hz2 g hg ln), gnl, gnl, Int.add_zero]
    · refine .cons a2 a3 a4 (fun hk => ?_) (.nil e1 ?_ e3)
      · obtain ⟨s1, s2⟩ := a5 hk
        rw [s1, s2, ht, rpOf_app, hl p [] rfl hk, bright_last (hz1 g hg)]
        refine ⟨rfl, ?_⟩
        unfold rightOf
        rw [show (at' + 1 == ps0.length) = true by rw [p3]; simp]; rfl
      · rw [gp_get g1, e2, gnl, gnl, Int.add_zero]
  | @cons p q ps g gs hg hgg ih =>
    intro h at' pre t n ln last acc hp0 hg0 ht hl
    obtain ⟨gp, fu⟩ := h p (.head _)
    obtain ⟨gq, _⟩ := h q (.tail _ (.head _))
    refine xl_AA (drop_one hp0) fun p1 p2 p3 => ?_
    refine xl_AA (drop_one hg0) fun g1 g2 g3 => ?_
    refine xl_AA (drop_one p2) fun q1 q2 q3 => ?_
    obtain ⟨r, er, fr⟩ := next_fol hz1 hgg fun p hp => (h p (.tail _ hp)).1
    have ej : joinT (p :: q :: ps) (gapOf p q g :: gs) ++ z = p.text ++ (gapOf p q g ++ (joinT (q :: ps) gs ++ z)) := by rw [joinT_cons, List.append_assoc, List.append_assoc]
    rw [ej] at ht ⊢
    refine xl_EAAAA (gp.tok t (gapOf p q g ++ (joinT (q :: ps) gs ++ z)) FU ln last (by rw [er]; exact fol_next gp.pk gq.pk hg r) fu) fun a a1 a2 a3 a4 a5 => ?_
    have hb : blanks FU (gapOf p q g ++ (joinT (q :: ps) gs ++ z)) ln = some (.ok (joinT (q :: ps) gs ++ z, ln + nls (gapOf p q g))) :=
      gap1_blanks (by rw [er]; exact noBl_next gq.pk fr) (gap1_of hg) (by decide)
    have ne : p.text ++ (gapOf p q g ++ (joinT (q :: ps) gs ++ z)) ≠ [] := by simp [gp.pk.ne]
    obtain ⟨ts, last', r1, r2⟩ := ih (fun p hp => h p (.tail _ hp)) (at' + 1) (pre ++ p.text ++ gapOf p q g) t n (ln + nls (gapOf p q g)) ln (acc.app (.cons a .nil)) p2 g2 (by rw [ht]; simp only [List.append_assoc])
      (fun p' r' e hk => by
        cases e
        rw [side_left gp.pk gq.pk hk hg]
        unfold leftOf
        rw [Nat.add_sub_cancel, gp_get g1, tx_get p1, show (at' + 1 == 0) = false from rfl, Bool.false_or])
    refine ⟨.cons a ts, last', ?_, fun e e1 e2 e3 => ?_⟩
    · show topL kwC t FU (n + (q :: ps).length + 1) _ ln last acc = _
      rw [topL_go ne a1 hb, r1, Tks.app_assoc, gnl, ← Int.add_assoc]
      rfl
    · refine .cons a2 a3 a4 (fun hk => ?_) ?_
      · obtain ⟨s1, s2⟩ := a5 hk
        rw [s1, s2, ht, rpOf_app, hl p _ rfl hk, er, side_right gq.pk hk hg]
        refine ⟨rfl, ?_⟩
        unfold rightOf
        rw [gp_get g1, tx_get p1, tx_get q1, show (at' + 1 == ps0.length) = false by rw [p3]; simp, Bool.false_or]
      · rw [gp_get g1]
        exact r2 e e1 (by rw [e2, gnl, ← Int.add_assoc]) e3
theorem ahead_blanks {rest : List Nat} (hr : NoBl rest) (ln : Int) : ∀ a ∈ aheadT, blanks FU (a ++ rest) ln = some (.ok (rest, ln + nls a)) := by
  refine all_cons (blanks_all hr _ _ _ (by decide) (by decide)) (all_cons (blanks_all hr _ _ _ (by decide) (by decide)) (all_cons (blanks_all hr _ _ _ (by decide) (by decide)) (all_cons ?_ (all_cons ?_ fun _ h => by cases h))))
  · show blanks (199999 + 1) (47 :: 42 :: ([32, 113, 32, 42, 47, 32] ++ rest)) ln = _
    rw [blanks_rem, show rem ([32, 113, 32, 42, 47, 32] ++ rest) 1 ln = some ([32] ++ rest, ln) by simp [rem, nl]]
    dsimp only
    rw [blanks_all hr [32] _ _ (by decide) (by decide)]; simp [nls, nl]
  · show blanks (199999 + 1) (47 :: 47 :: ([32, 114, 10] ++ rest)) ln = _
    rw [blanks_line]
    show blanks 199999 ([10] ++ rest) ln = _
    rw [blanks_all hr [10] _ _ (by decide) (by decide)]; simp [nls, nl]
theorem last_a (ln : Int) : ∀ g ∈ lastT, blanks FU (g ++ []) ln = some (.ok ([], ln + nls g + 0)) := by
  have hr : NoBl [] := ⟨rfl, by simp, by simp⟩
  simp only [Int.add_zero]
  refine all_cons (blanks_all hr _ _ _ (by decide) (by decide)) (all_cons (blanks_all hr _ _ _ (by decide) (by decide)) (all_cons (blanks_all hr _ _ _ (by decide) (by decide)) (all_cons ?_ (all_cons ?_ fun _ h => by cases h))))
  · show blanks (199998 + 1 + 1) (32 :: 47 :: 47 :: [32, 122]) ln = _
    rw [blanks_ws (by decide), blanks_line]
    show blanks (199997 + 1) [] (ln + nl 32) = _
    rw [blanks_stop hr]; simp [nls, nl]
  · show blanks (199998 + 1 + 1) (32 :: 47 :: 42 :: [32, 42, 47]) ln = _
    rw [blanks_ws (by decide), blanks_rem, show rem [32, 42, 47] 1 (ln + nl 32) = some ([], ln) by simp [rem, nl]]
    show blanks (199997 + 1) [] ln = _
    rw [blanks_stop hr]; simp [nls, nl]
theorem last_b {x : List Nat} (hr : NoBl x) (ln : Int) : ∀ g ∈ lastT, blanks FU (g ++ ([32, 10] ++ x)) ln = some (.ok (x, ln + nls g + 1)) := by
  refine all_cons ?_ (all_cons ?_ (all_cons ?_ (all_cons ?_ (all_cons ?_ fun _ h => by cases h))))
  · refine (blanks_all hr [32, 10] _ _ (by decide) (by decide)).trans ?_; simp [nls, nl]
  · refine (blanks_all hr [10, 32, 10] _ _ (by decide) (by decide)).trans ?_; simp [nls, nl]; exact congrArg Rs.ok (congrArg (Prod.mk _) (Int.add_assoc ln 1 1).symm)
  · refine (blanks_all hr [32, 32, 10] _ _ (by decide) (by decide)).trans ?_; simp [nls, nl]
  · show blanks (199998 + 1 + 1) (32 :: 47 :: 47 :: ([32, 122, 32, 10] ++ x)) ln = _
    rw [blanks_ws (by decide), blanks_line]
    show blanks 199998 ([10] ++ x) (ln + nl 32) = _
    rw [blanks_all hr [10] _ _ (by decide) (by decide)]; simp [nls, nl]
  · show blanks (199998 + 1 + 1) (32 :: 47 :: 42 :: ([32, 42, 47] ++ ([32, 10] ++ x))) ln = _
    rw [blanks_ws (by decide), blanks_rem, show rem ([32, 42, 47] ++ ([32, 10] ++ x)) 1 (ln + nl 32) = some ([32, 10] ++ x, ln) by simp [rem, nl]]
    dsimp only
    rw [blanks_all hr [32, 10] _ _ (by decide) (by decide)]; simp [nls, nl]
theorem GG.ne {ps : List Pc} {gs : List (List Nat)} (h : GG ps gs) : ∃ q r, ps = q :: r := by cases h <;> exact ⟨_, _, rfl⟩
theorem plainA : PlainA := by
  intro ps gs ahead hgg hgp hz ha hl
  have hz1 : ∀ g ∈ lastT, hd1 (fun c => !(c == 32 || c == 10)) (g ++ []) = false := by decide
  have fu : ∀ p ∈ ps, GP p ∧ 2 * p.text.length + 20 ≤ FU := fun p hp => ⟨hgp p hp, by
    have := joinT_mem hgg p hp
    rw [List.length_append] at hl
    rw [FU_is]; exact lin [_, _, _] (.a (.m 2 (.v 2)) (.n 20)) (.n 200000) [((.a (.v 0) (.v 1)), (.n 50000)), ((.a (.v 0) (.v 1)), (.n 50000)), ((.v 2), (.v 1)), ((.v 2), (.v 1))] hl hl this this rfl⟩
  refine xl_EE hgg.ne fun q r zr2 => ?_; subst zr2
  refine xl_EA (next_fol hz1 hgg hgp) fun r' er fr => ?_
  obtain ⟨k, hk⟩ : ∃ k, FU = (k + 1) + (q :: r).length := fu_sub hz
  refine xl_EEA (run hz1 (fun g hg ln => last_a ln g hg) (q :: r) gs hgg fu 0 ahead (ahead ++ joinT (q :: r) gs) (k + 1) (1 + nls ahead) 0 .nil rfl rfl (by rw [List.append_nil]) (fun p r _ _ => bleft_ahead ha _)) fun ts last' r1 r2 => ?_
  rw [List.append_nil] at er r1
  refine ⟨ts.app (.cons (.mk k_end [] (1 + nls ahead + gnl gs) true true true 0 .nil) .nil), ?_, ?_⟩
  · unfold topF
    rw [ahead_blanks (by rw [er]; exact noBl_next (hgp q (.head _)).pk fr) _ ahead ha]
    dsimp only
    conv => lhs; arg 4; rw [hk]
    rw [r1, topL, Int.add_zero]; rfl
  · rw [Tks.list_app]
    exact r2 _ rfl rfl rfl
theorem plainB : PlainB := by
  intro ps gs ahead ill hgg hgp hz ha hl hill
  obtain ⟨z', hz'⟩ : ∃ z', z' = ill ++ [32, 10, 32, 97] := ⟨_, rfl⟩
  have hr : NoBl z' := by rw [hz']; exact ill_noBl hill _
  have hz1 : ∀ g ∈ lastT, hd1 (fun c => !(c == 32 || c == 10)) (g ++ ([32, 10] ++ z')) = false := fun g hg => by
    by_cases hn : g = []
    · rw [hn]; rfl
    · rw [hd1_app hn]
      exact (show ∀ g ∈ lastT, hd1 (fun c => !(c == 32 || c == 10)) g = false by decide) g hg
  have fu : ∀ p ∈ ps, GP p ∧ 2 * p.text.length + 20 ≤ FU := fun p hp => ⟨hgp p hp, by
    have := joinT_mem hgg p hp
    rw [List.length_append] at hl
    rw [FU_is]; exact lin [_, _, _] (.a (.m 2 (.v 2)) (.n 20)) (.n 200000) [((.a (.v 0) (.v 1)), (.n 50000)), ((.a (.v 0) (.v 1)), (.n 50000)), ((.v 2), (.v 1)), ((.v 2), (.v 1))] hl hl this this rfl⟩
  refine xl_EE hgg.ne fun q r zr3 => ?_; subst zr3
  refine xl_EA (next_fol hz1 hgg hgp) fun r' er fr => ?_
  obtain ⟨k, hk⟩ : ∃ k, FU = (k + 1) + (q :: r).length := fu_sub hz
  have et : ((ahead ++ joinT (q :: r) gs) ++ [32, 10]) ++ ill ++ [32, 10, 32, 97] = ahead ++ (joinT (q :: r) gs ++ ([32, 10] ++ z')) := by rw [hz']; simp only [List.append_assoc]
  rw [et]
  refine xl_EEA (run hz1 (fun g hg ln => last_b hr ln g hg) (q :: r) gs hgg fu 0 ahead (ahead ++ (joinT (q :: r) gs ++ ([32, 10] ++ z'))) (k + 1) (1 + nls ahead) 0 .nil rfl rfl rfl (fun p r _ _ => bleft_ahead ha _)) fun ts last' r1 r2 => ?_
  unfold topF
  rw [ahead_blanks (by rw [er]; exact noBl_next (hgp q (.head _)).pk fr) _ ahead ha]
  dsimp only
  conv => lhs; arg 4; rw [hk]
  rw [r1]
  have ne : z' ≠ [] := by rw [hz']; simp
  rw [topL_bad ne (by rw [hz']; exact ill_bad _ _ _ ill hill), nls_app, joinT_nls hgg hgp]
  congr 2; exact Int.le_antisymm (linI [_, _] [] (.a (.a (.a (.n 1) (.v 0)) (.v 1)) (.n 1)) (.a (.n 2) (.a (.v 0) (.v 1))) []  rfl) (linI [_, _] [] (.a (.n 2) (.a (.v 0) (.v 1))) (.a (.a (.a (.n 1) (.v 0)) (.v 1)) (.n 1)) []  rfl)
end Mine
end

section
open PySem PySem.W PySem.Calls PyProof.Rows Builtin.ObjectAttr
set_option maxHeartbeats 4000000
namespace Mine
theorem joinOk_of {xs : List (List Nat)} (h : xs.flatten.length ≤ 1000000) : JoinOk "" (xs.map S) = true := by
  have key : ∀ (xs : List (List Nat)) (n : Nat), (xs.map S).foldl (fun (a : Nat) (x : Str) => a + x.length + ("" : Str).length) n = n + xs.flatten.length := by
    intro xs
    induction xs with
    | nil => intro n; rfl
    | cons x xs ih =>
      intro n
      rw [List.map_cons, List.foldl_cons, ih, S_len, List.flatten_cons, List.length_append, show ("" : Str).length = 0 from rfl]
      exact Nat.le_antisymm (lin [_, _, _] (.a (.a (.a (.v 0) (.v 1)) (.n 0)) (.v 2)) (.a (.v 0) (.a (.v 1) (.v 2))) []  rfl) (lin [_, _, _] (.a (.v 0) (.a (.v 1) (.v 2))) (.a (.a (.a (.v 0) (.v 1)) (.n 0)) (.v 2)) []  rfl)
  unfold JoinOk Builtin.Str.tooLong
  rw [List.foldl_toArray, key, sizeLine_eq, decide_eq_false (by omega)]; rfl
theorem join_is (xs : List (List Nat)) : Txt.join "" (xs.map S) = S xs.flatten := by
  refine (glued_nil (xs.map S)).trans (congrArg S ?_)
  induction xs with
  | nil => rfl
  | cons x xs ih => rw [List.map_cons, List.flatMap_cons, ih, List.flatten_cons]; rfl
/-- the gaps so far -/
noncomputable def GGpre (ps : List Pc) (gs : List (List Nat)) : Prop := ∀ i, i < gs.length → ∃ g, g ∈ gapsT ∧ ∃ p q, ps[i]? = some p ∧ ps[i + 1]? = some q ∧ gs[i]? = some (gapOf p q g)
theorem GGpre.end_ : ∀ {ps : List Pc} {gs : List (List Nat)} {g : List Nat}, gs.length + 1 = ps.length → GGpre ps gs → g ∈ lastT → GG ps (gs ++ [g])
  | [], gs, g, h, _, _ => by simp at h
  | [p], gs, g, h, _, hg => by
    have : gs = [] := List.length_eq_zero_iff.mp (by simpa using h)
    subst this
    exact .one hg
  | p :: q :: ps, [], g, h, _, _ => by simp at h
  | p :: q :: ps, g0 :: gs, g, h, k, hg => by
    refine xl_EAEEAA (k 0 (by simp)) fun g' h1 p' q' h2 h3 h4 => ?_
    cases h2; cases h3; cases h4
    refine .cons h1 (GGpre.end_ (by simpa using h) (fun i hi => ?_) hg)
    refine xl_EAEEAA (k (i + 1) (by simpa using hi)) fun g'' i1 p'' q'' i2 i3 i4 => ?_
    exact ⟨g'', i1, p'', q'', by simpa using i2, by simpa using i3, by simpa using i4⟩
theorem gap_len {p q : Pc} {g : List Nat} (h : g ∈ gapsT) : (gapOf p q g).length ≤ 21 := by
  have hg : g.length ≤ 20 := (show ∀ p ∈ gapsT, p.length ≤ 20 by decide) g h
  unfold gapOf
  split
  · decide
  · split
    · rw [List.length_cons]; exact lin [_] (.a (.v 0) (.n 1)) (.n 21) [((.v 0), (.n 20))] hg rfl
    · exact lin [_] (.v 0) (.n 21) [((.v 0), (.n 20))] hg rfl
theorem joinT_len : ∀ {ps : List Pc} {gs : List (List Nat)}, (∀ p ∈ ps, p.text.length ≤ LS 2) → (∀ g ∈ gs, g.length ≤ 21) → (joinT ps gs).length ≤ ps.length * (LS 2 + 21)
  | [], _, _, _ => by simp [joinT]
  | _ :: _, [], _, _ => by simp [joinT]
  | p :: ps, g :: gs, h1, h2 => by
    have ih := joinT_len (ps := ps) (gs := gs) (fun p h => h1 p (.tail _ h)) fun g h => h2 g (.tail _ h)
    have a := h1 p (.head _)
    have b := h2 g (.head _)
    unfold joinT at ih ⊢
    rw [List.zipWith_cons_cons, List.flatten_cons, List.length_append, List.length_append, List.length_cons, Nat.add_mul]
    exact lin [_, _, _, _] (.a (.a (.v 2) (.v 3)) (.v 0)) (.a (.v 1) (.n 1175)) [((.v 0), (.v 1)), ((.v 2), (.n 1154)), ((.v 3), (.n 21))] ih a b rfl
theorem pe_tuple5 {c : Cx} {sc : Scope} {b : Nat} {σ : St} {X : Int → St → Prop} {x y z u v : Str} {k k1 k2 k3 k4 k5 : Nat} {p p1 p2 p3 p4 p5 : Pos} : PE c sc b (.Tuple [.Constant (.str x) k1 p1, .Constant (.str y) k2 p2, .Constant (.str z) k3 p3, .Constant (.str u) k4 p4, .Constant (.str v) k5 p5] k p) σ (.tup [.str x, .str y, .str z, .str u, .str v]) X :=
  ae_tuple (aes_cons (ae_str (aes_cons (ae_str (aes_cons (ae_str (aes_cons (ae_str (aes_cons (ae_str (aes_nil ⟨Nat.le_of_ble_eq_true rfl, rfl, rfl⟩)))))))))))
section
variable {d : Dt}
theorem law_b (hA : PlainA) (hB : PlainB) {H H1 : AHeap} {m : List (Str × AV)} {w cl lp lg : Addr} {cells : List Int} {ps : List Pc} {as : List AV} (W : Well H w cl cells) (hp : H lp = some (.list as)) (hN : PL H1 H ps as) (hg : H lg = some (.list []))
    (hw1 : H1 w ≠ none) (hlp1 : H1 lp ≠ none) (hlg1 : H1 lg ≠ none) (ne1 : lg ≠ w) (ne2 : lp ≠ lg) (ne3 : lp ≠ w) (ne4 : lg ≠ cl) (hgp : ∀ p ∈ ps, GP p ∧ p.text.length ≤ LS 2) (hz : ps.length ≤ 15) (hz0 : 1 ≤ ps.length)
    (m1 : m.lookup ("well" : Str) = some (.ref w)) (m2 : m.lookup ("pieces" : Str) = some (.ref lp)) (m3 : m.lookup ("gaps" : Str) = some (.ref lg)) :
    AS (CC d) (scOf (CC d).K 385) 47 ((bdOf (CC d).K 385).drop 3) ⟨m, H⟩ lawQ (fun _ _ => False) := by
  have hal := hN.len
  refine as_consL ?_
  intro Kq
  refine a1_for (asrc_range (ae_range ⟨rfl, ae_bin (ae_bi (bi_len d) bo_len (aes_cons (ae_local m2 (aes_nil (acw_len_list hp (by exact lin [_, _] (.a (.v 1) (.n 1)) (.n 4611686018427387904) [((.v 0), (.n 15)), ((.v 1), (.v 0))] hz (Nat.le_of_eq hal) rfl) (ae_int ?_))))))⟩))
  obtain ⟨n1, en⟩ : ∃ n, ps.length = n + 1 := ⟨ps.length - 1, (Nat.sub_add_cancel hz0).symm⟩
  have eas : ((as.length : Nat) : Int) - 1 = (n1 : Int) := by rw [hal, en]; exact Int.add_sub_cancel (n1 : Int) 1
  have hn15 : n1 ≤ 14 := Nat.le_of_succ_le_succ (Nat.le_trans (Nat.le_of_eq en.symm) hz)
  refine ⟨_, rfl, eas ▸ Int.lt_of_le_of_lt (Int.ofNat_le.mpr hn15) (by decide), eas ▸ Int.lt_of_lt_of_le (by decide) (Int.natCast_nonneg n1), trivial, ?_⟩
  rw [eas, show ((n1 : Int)).toNat = ps.length - 1 by rw [en]; rfl]
  have sub : ∀ a, H1 a = none → a ≠ w ∧ a ≠ lp ∧ a ≠ lg := fun a e => ⟨fun z => hw1 (by rw [← z]; exact e), fun z => hlp1 (by rw [← z]; exact e), fun z => hlg1 (by rw [← z]; exact e)⟩
  refine turns_ind (β := Nat) (γ := List (List Nat) × AHeap × List (Str × AV)) (fun i => AV.int i) (fun g => ⟨g.2.2, g.2.1⟩)
    (fun ys g => ys = List.range' g.1.length (ps.length - 1 - g.1.length) ∧ g.1.length ≤ ps.length - 1 ∧ Well g.2.1 w cl cells ∧ g.2.1 lp = some (.list as) ∧ g.2.1 lg = some (.list (g.1.map strT)) ∧ PL H1 g.2.1 ps as ∧ GGpre ps g.1 ∧
      g.2.2.lookup ("well" : Str) = some (AV.ref w) ∧ g.2.2.lookup ("pieces" : Str) = some (AV.ref lp) ∧ g.2.2.lookup ("gaps" : Str) = some (AV.ref lg))
    (tup3 fun gs Hc m hg => ?_) (fun y ys => tup3 fun gs Hc m hg ih => ?_) (List.range (ps.length - 1)) ([], H, m) ⟨by rw [List.range_eq_range']; rfl, Nat.zero_le _, W, hp, hg, hN, fun i hi => by simp at hi, m1, m2, m3⟩
  · refine xl_AAAAAAAAA hg fun e gl W hp hg hN pre m1 m2 m3 => ?_
    dsimp only at e gl W hp hg hN pre m1 m2 m3
    have gl15 : gs.length ≤ 15 := Nat.le_trans gl (Nat.le_trans (Nat.sub_le _ _) hz)
    have gl' : gs.length + 1 = ps.length := by
      have := congrArg List.length e
      rw [List.length_range', List.length_nil] at this
      exact (congrArg (· + 1) (Nat.le_antisymm gl (Nat.le_of_sub_eq_zero this.symm))).trans (Nat.sub_add_cancel hz0)
    have gsz : ∀ g ∈ gs, g.length ≤ 21 := fun g hg' => by
      obtain ⟨i, hi, e⟩ := List.getElem_of_mem hg'
      refine xl_EAEEAA (pre i hi) fun g' i1 p q _ _ e4 => ?_
      rw [List.getElem?_eq_getElem hi, e] at e4
      cases e4; exact gap_len i1
    refine as_consL ?_
    intro Kq
    refine a1_expr (ae_meth (ae_local m3 ⟨.bi "list.append", [.ref lg], mr_list hg PySem.F.slot_list_append PySem.F.type_list_append, rfl, aes_cons ?_⟩))
    refine ae_sub (ae_of pe_tuple5 (ae_fn (fa := 286) (by kernel_rfl) (by kernel_rfl) (aes_cons (ae_local m1 (aes_cons (ae_int (aes_nil ((c_draw (n := 5) W (by decide) fun k1 H2 hk1 W2 K2 => ?_).to (by decide)))))))))
    obtain ⟨gl1, eg1⟩ := get_is (l := lastT) (i := k1) (by exact hk1)
    have hgl1 : gl1 ∈ lastT := List.mem_of_getElem? eg1
    refine subR_tup (a := strT gl1) (i := k1) (show (lastT.map strT)[k1]? = _ by rw [List.getElem?_map, eg1]; rfl) (by exact lin [_] (.a (.v 0) (.n 1)) (.n 2305843009213693952) [((.a (.v 0) (.n 1)), (.n 5))] hk1 rfl) ?_
    have hg2 : H2 lg = some (.list (gs.map strT)) := K2 lg _ hg ne1
    refine aes_nil (acw_append (as := gs.map strT) hg2 (by rw [List.length_map]; exact Nat.le_trans gl15 (by decide)) ?_)
    have H3g : (AHeap.set H2 lg (.list (gs.map strT ++ [strT gl1]))) lg = some (.list ((gs ++ [gl1]).map strT)) := by rw [List.map_append]; exact AHeap.set_self ..
    have H3p : (AHeap.set H2 lg (.list (gs.map strT ++ [strT gl1]))) lp = some (.list as) := (AHeap.set_ne _ _ ne2).trans (K2 lp _ hp ne3)
    have W3 : Well (AHeap.set H2 lg (.list (gs.map strT ++ [strT gl1]))) w cl cells := by
      refine xl_EEAA W2.hw fun at' mix e i1 i2 => ?_
      exact ⟨(AHeap.set_ne _ _ ne4.symm).trans W2.hc, ⟨at', mix, (AHeap.set_ne _ _ ne1.symm).trans e, i1, i2⟩, W2.nn, W2.len, W2.ne⟩
    have N3 : PL H1 (AHeap.set H2 lg (.list (gs.map strT ++ [strT gl1]))) ps as := hN.mono fun a o h0 e => ⟨h0, (AHeap.set_ne _ _ (sub a h0).2.2).trans (K2 a o e (sub a h0).1)⟩
    have gg : GG ps (gs ++ [gl1]) := pre.end_ gl' hgl1
    have gsz' : ∀ g ∈ gs ++ [gl1], g.length ≤ 21 := fun g hg' => by
      rcases List.mem_append.mp hg' with h | h
      · exact gsz g h
      · rw [List.mem_singleton.mp h]; exact (show ∀ p ∈ lastT, p.length ≤ 21 by decide) gl1 hgl1
    generalize hH3 : AHeap.set H2 lg (.list (gs.map strT ++ [strT gl1])) = H3 at H3g H3p W3 N3 ⊢
    generalize hgs : gs ++ [gl1] = gs2 at H3g gg gsz'
    refine as_consL ?_
    intro Kq
    refine a1_assign (ae_sub (ae_of pe_tuple5 (ae_fn (fa := 286) (by kernel_rfl) (by kernel_rfl) (aes_cons (ae_local m1 (aes_cons (ae_int (aes_nil ((c_draw (n := 5) W3 (by decide) fun k2 H4 hk2 W4 K4 => ?_).to (by decide))))))))))
    obtain ⟨ahead, ea⟩ := get_is (l := aheadT) (i := k2) (by exact hk2)
    have hah : ahead ∈ aheadT := List.mem_of_getElem? ea
    have hal2 : ahead.length ≤ 10 := (show ∀ p ∈ aheadT, p.length ≤ 10 by decide) ahead hah
    refine subR_tup (a := strT ahead) (i := k2) (show (aheadT.map strT)[k2]? = _ by rw [List.getElem?_map, ea]; rfl) (by exact lin [_] (.a (.v 0) (.n 1)) (.n 2305843009213693952) [((.a (.v 0) (.n 1)), (.n 5))] hk2 rfl) (at_name ?_)
    have H4g : H4 lg = some (.list (gs2.map strT)) := K4 lg _ H3g ne1
    have H4p : H4 lp = some (.list as) := K4 lp _ H3p ne3
    have N4 : PL H1 H4 ps as := N3.mono fun a o h0 e => ⟨h0, K4 a o e (sub a h0).1⟩
    have n1 : ∀ {v : AV}, (fput m "ahead" v).lookup ("well" : Str) = some (.ref w) := look_ne m1
    have n2 : ∀ {v : AV}, (fput m "ahead" v).lookup ("pieces" : Str) = some (.ref lp) := look_ne m2
    have n3 : ∀ {v : AV}, (fput m "ahead" v).lookup ("gaps" : Str) = some (.ref lg) := look_ne m3
    have jl := joinT_len (ps := ps) (gs := gs2) (fun p h => (hgp p h).2) gsz'
    have jl' : (joinT ps gs2).length ≤ 40000 := Nat.le_trans jl (Nat.le_trans (Nat.mul_le_mul_right _ hz) (by decide))
    have g2l := gg.len
    refine as_consL ?_
    intro Kq
    refine a1_assign (ae_bin (ae_local look_eq ?_))
    refine ae_meth (ae_str ⟨.bi "str.join", [.str ""], mr_str PySem.F.slot_str_join PySem.F.type_str_join, rfl, aes_cons ?_⟩)
    refine ae_listcomp (asrc_zip (ae_zipn ⟨rfl, ae_local n2 (ae_local n3 ⟨lp, lg, as, gs2.map strT, rfl, rfl, H4p, H4g, ⟨H4p, H4g⟩, ?_, ?_⟩)⟩))
    · rw [List.length_zipWith]; exact Nat.le_trans (Nat.min_le_left _ _) (Nat.le_trans (Nat.le_of_eq hal) (Nat.le_trans hz (by decide)))
    refine cturns_ind2 (γ := List (Str × AV)) (fun m => ⟨m, H4⟩) (fun ys acc m => ∃ ps' as' gs', ys = List.zipWith (fun a b => AV.tup [a, b]) as' (gs'.map strT) ∧ PL H1 H4 ps' as' ∧ (∀ p ∈ ps', p.text.length ≤ LS 2) ∧ (∀ g ∈ gs', g.length ≤ 21) ∧ acc ++ (List.zipWith (fun p g => p.text ++ g) ps' gs').map strT = (List.zipWith (fun p g => p.text ++ g) ps gs2).map strT)
      (fun acc m hm => ?_) (fun y ys acc m hm ih => ?_) _ [] _ ⟨ps, as, gs2, rfl, N4, fun p h => (hgp p h).2, gsz', rfl⟩
    · refine xl_EEEAAAA hm fun ps' as' gs' e N' _ _ ea => ?_; try clear hm
      have hnil : List.zipWith (fun (p : Pc) g => p.text ++ g) ps' gs' = [] := by
        have h1 := congrArg List.length e
        rw [List.length_zipWith, List.length_map, N'.len, List.length_nil] at h1
        exact List.length_eq_zero_iff.mp (by rw [List.length_zipWith]; exact Nat.le_antisymm (lin [_] (.v 0) (.n 0) [((.v 0), (.n 0))] (Nat.le_of_eq (Eq.symm h1)) rfl) (lin [_] (.n 0) (.v 0) []  rfl))
      rw [hnil, List.map_nil, List.append_nil] at ea
      subst ea
      intro l hl
      have hl4 : H4 l = none := hl
      refine aes_nil (acw_join (xs := (List.zipWith (fun (p : Pc) g => p.text ++ g) ps gs2).map S) ((AHeap.set_self ..).trans (by rw [List.map_map]; rfl)) (joinOk_of (by unfold joinT at jl'; exact lin [_] (.v 0) (.n 1000000) [((.v 0), (.n 40000))] jl' rfl)) ?_)
      rw [join_is]
      refine ⟨by rw [S_len, S_len, sizeLine_eq]; unfold joinT at jl'; exact lin [_, _] (.a (.v 0) (.v 1)) (.n 16777216) [((.v 0), (.n 10)), ((.v 1), (.n 40000))] hal2 jl' rfl, at_name ?_⟩
      rw [S_append]
      have G5 : Grow H4 (H4.set l (.list ((List.zipWith (fun (p : Pc) g => p.text ++ g) ps gs2).map strT))) := (Grow.refl H4).new hl4 _
      refine law_c hA hB (H1 := H1) (Well.kp (H' := H4) W4 hl4) (G5 _ _ H4p) (N4.mono fun a o h0 e => ⟨h0, G5 a o e⟩) (G5 _ _ H4g) gg hgp hz hah (by rw [List.length_append]; exact lin [_, _] (.a (.v 0) (.v 1)) (.n 50000) [((.v 0), (.n 10)), ((.v 1), (.n 40000))] hal2 jl' rfl) (look_ne n1) (look_ne n2) (look_ne n3) (look_ne look_eq) look_eq
    · refine xl_EEEAAAA hm fun ps' as' gs' e N' pz gz ea => ?_; try clear hm
      induction N' with
      | nil => injection e
      | @cons p a ps' as' pn N' =>
      induction gs' with
      | nil => injection e
      | cons g gs' =>
      cases e
      refine at_tuple (as := [a, strT g]) (ats_cons (at_name (ats_cons (at_name (ats_nil ?_)))))
      refine ae_of (pe_cat (pe_item1p (look_ne look_eq) pn) (pe_local look_eq) (by
        have h1 := pz p (.head _)
        have h2 := gz g (.head _)
        have h3 : LS 2 ≤ 100000 := LS2
        exact lin [_, _] (.a (.v 0) (.v 1)) (.n 1000000) [((.v 0), (.n 1154)), ((.v 1), (.n 21))] h1 h2 rfl)) ?_
      refine ⟨⟨H4p, H4g⟩, ih _ _ ⟨ps', as', gs', rfl, N', fun p h => pz p (.tail _ h), fun g h => gz g (.tail _ h), ?_⟩⟩
      rw [← ea, List.append_assoc]
      rfl
  · revert hg
    intro hh
    refine xl_AAAAAAAAA hh fun e gl W hp hg hN pre m1 m2 m3 => ?_
    clear hh
    dsimp only at e gl W hp hg hN pre m1 m2 m3
    have gl15 : gs.length ≤ 15 := Nat.le_trans gl (Nat.le_trans (Nat.sub_le _ _) hz)
    have hlt : gs.length < ps.length - 1 := by
      have := congrArg List.length e
      rw [List.length_range', List.length_cons] at this
      exact Nat.lt_of_sub_pos (Nat.lt_of_lt_of_eq (Nat.succ_pos _) this)
    rw [sub_back hlt, List.range'_succ] at e
    injection e with e1 e2
    subst e1
    obtain ⟨p, ep⟩ := get_is (l := ps) (i := gs.length) (Nat.lt_of_lt_of_le hlt (Nat.sub_le _ _))
    obtain ⟨q, eq⟩ := get_is (l := ps) (i := gs.length + 1) (Nat.add_lt_of_lt_sub hlt)
    obtain ⟨a, ea, pn⟩ := hN.get ep
    obtain ⟨a', ea', qn⟩ := hN.get eq
    refine at_name ?_
    refine as_consL ?_
    intro Kq
    refine a1_expr (ae_meth (ae_local (look_ne m3) ⟨.bi "list.append", [.ref lg], mr_list hg PySem.F.slot_list_append PySem.F.type_list_append, rfl, aes_cons ?_⟩))
    refine ae_fn (fa := 328) (by kernel_rfl) (by kernel_rfl) (aes_cons (ae_local (look_ne m1) (aes_cons (ae_of (pe_get (i := gs.length) (look_ne m2) hp (pe_local look_eq) rfl ea (by exact lin [_, _] (.v 1) (.n 1000000) [((.v 0), (.n 15)), ((.v 1), (.v 0))] hz (Nat.le_of_eq hal) rfl)) (aes_cons (ae_of (pe_get (i := gs.length + 1) (look_ne m2) hp (pe_bin (pe_local look_eq) pe_int ⟨rfl, rfl⟩) (by exact Int.le_antisymm (linI [] [_] (.a (.c (.v 0)) (.n 1)) (.c (.a (.v 0) (.n 1))) []  rfl) (linI [] [_] (.c (.a (.v 0) (.n 1))) (.a (.c (.v 0)) (.n 1)) []  rfl)) ea' (by exact lin [_, _] (.v 1) (.n 1000000) [((.v 0), (.n 15)), ((.v 1), (.v 0))] hz (Nat.le_of_eq hal) rfl)) ?_))))))
    refine aes_nil ((c_gap W pn qn fun g H2 hg' W2 K2 => ?_).to (by decide))
    have hg2 : H2 lg = some (.list (gs.map strT)) := K2 lg _ hg ne1
    refine aes_nil (acw_append (as := gs.map strT) hg2 (by rw [List.length_map]; exact Nat.le_trans gl15 (by decide)) ?_)
    refine as_nil ⟨trivial, ih (gs ++ [gapOf p q g], _, _) ⟨?_, ?_, ?_, ?_, ?_, ?_, ?_, look_ne m1, look_ne m2, look_ne m3⟩⟩
    · rw [e2]; simp
    · rw [List.length_append, List.length_singleton]; exact lin [_, _] (.a (.v 0) (.n 1)) (.v 1) [((.a (.v 0) (.n 1)), (.v 1))] hlt rfl
    · refine xl_EEAA W2.hw fun at' mix e i1 i2 => ?_
      exact ⟨(AHeap.set_ne _ _ ne4.symm).trans W2.hc, ⟨at', mix, (AHeap.set_ne _ _ ne1.symm).trans e, i1, i2⟩, W2.nn, W2.len, W2.ne⟩
    · exact (AHeap.set_ne _ _ ne2).trans (K2 lp _ hp ne3)
    · dsimp only; rw [List.map_append]; exact AHeap.set_self ..
    · exact hN.mono fun a o h0 e => ⟨h0, (AHeap.set_ne _ _ (sub a h0).2.2).trans (K2 a o e (sub a h0).1)⟩
    · intro i hi
      rw [List.length_append, List.length_singleton] at hi
      by_cases z : i < gs.length
      · refine xl_EAEEAA (pre i z) fun g' h1 p' q' h2 h3 h4 => ?_
        exact ⟨g', h1, p', q', h2, h3, by rw [List.getElem?_append_left z]; exact h4⟩
      · have : i = gs.length := by exact Nat.le_antisymm (lin [_, _] (.v 0) (.v 1) [((.a (.v 0) (.n 1)), (.a (.v 1) (.n 1)))] hi rfl) (lin [_, _] (.v 1) (.v 0) [((.v 1), (.v 0))] (Nat.le_of_not_lt z) rfl)
        subst this
        exact ⟨g, hg', p, q, ep, eq, by simp⟩
end
end Mine
end

section
open PySem PySem.W PySem.Calls PyProof.Rows Builtin.ObjectAttr
set_option maxHeartbeats 4000000
namespace Mine
section
variable {d : Dt}
/-- law(script): its body -/
theorem c_law (hA : PlainA) (hB : PlainB) {H : AHeap} {a : Addr} {ns : List Int} (hs : SliceOk d a ns) : AS (CC d) (scOf (CC d).K 385) 47 (bdOf (CC d).K 385) ⟨((["script"] : List Str).zip [.ref a]).reverse, H⟩ lawQ (fun _ _ => False) := by
  refine as_consL ?_
  intro Kq
  refine a1_assign (ae_list (aes_cons ?_))
  refine ae_listcomp (asrc_list (hs rfl rfl (by decide) fun l0 hl0 => ⟨l0, _, rfl, AHeap.set_self .., AHeap.set_self .., by rw [List.length_map, List.length_take]; omega, ?_⟩))
  have hl0' : H l0 = none := hl0
  refine cturns_ind2 (γ := List (Str × AV)) (fun m => ⟨m, H.set l0 (.list ((ns.take 60).map .int))⟩) (fun ys acc m => ∃ ns' cells : List Int, ys = ns'.map .int ∧ acc = cells.map .int ∧ (∀ c ∈ cells, 0 ≤ c) ∧ cells.length + ns'.length ≤ 60)
    (fun acc m hm => ?_) (fun y ys acc m hm ih => ?_) _ [] _ ⟨ns.take 60, [], rfl, rfl, fun c h => (nomatch h), by rw [List.length_take]; simp; omega⟩
  · refine xl_EEAAA hm fun ns' cells e zr1 nn hl => ?_; try clear hm; subst zr1
    intro cl hcl
    refine aes_cons (ae_int (aes_cons (ae_int (aes_nil ⟨Nat.le_of_ble_eq_true rfl, fun w hw => at_name ?_⟩))))
    have hcl' : (H.set l0 (.list ((ns.take 60).map .int))) cl = none := hcl
    have hw' : ((H.set l0 (.list ((ns.take 60).map .int))).set cl (.list (cells.map .int))) w = none := hw
    have c1 : ((H.set l0 (.list ((ns.take 60).map .int))).set cl (.list (cells.map .int))) cl = some (.list (cells.map .int)) := AHeap.set_self ..
    have hcw : cl ≠ w := ne_of c1 hw'
    have W : Well (((H.set l0 (.list ((ns.take 60).map .int))).set cl (.list (cells.map .int))).set w (.list [.ref cl, .int 0, .int 97])) w cl cells :=
      ⟨(AHeap.set_ne _ _ hcw).trans c1, ⟨0, 97, AHeap.set_self .., by decide, by decide⟩, nn, by exact lin [_, _] (.v 0) (.n 63) [((.a (.v 0) (.v 1)), (.n 60))] hl rfl, hcw⟩
    generalize hHw : (((H.set l0 (.list ((ns.take 60).map .int))).set cl (.list (cells.map .int))).set w (.list [.ref cl, .int 0, .int 97])) = Hw at W ⊢
    refine as_consL ?_
    intro Kq
    refine a1_swap2 (x := "pieces") (y := "gaps") (fun env he => by cases env; cases he; rfl) ?_
    refine ae_tuple (aes_cons (ae_list (aes_nil ⟨Nat.le_of_ble_eq_true rfl, fun lp hlp => ?_⟩)))
    refine aes_cons (ae_list (aes_nil ⟨Nat.le_of_ble_eq_true rfl, fun lg hlg => aes_nil ⟨Nat.le_of_ble_eq_true rfl, _, _, rfl, ?_⟩⟩))
    have hlp' : Hw lp = none := hlp
    have hlg' : (Hw.set lp (.list [])) lg = none := hlg
    have W1 := Well.kp (H' := Hw) W hlp' (o := .list [])
    have p1 : (Hw.set lp (.list [])) lp = some (.list []) := AHeap.set_self ..
    have ne2 : lp ≠ lg := ne_of p1 hlg'
    have ne3 : lp ≠ w := fun z => W.is (z ▸ hlp')
    have ne1 : lg ≠ w := fun z => W1.is (z ▸ hlg')
    have ne4 : lg ≠ cl := fun z => by
      have := W1.hc; rw [← z, hlg'] at this; injection this
    have W2 := Well.kp (H' := Hw) W1 hlg' (o := .list [])
    have p2 := (AHeap.set_ne (Hw.set lp (.list [])) (.list []) ne2).trans p1
    have g2 : ((Hw.set lp (.list [])).set lg (.list [])) lg = some (.list []) := AHeap.set_self ..
    have ne5 : lp ≠ cl := fun z => by
      have := W.hc; rw [← z, hlp'] at this; injection this
    generalize hH3 : (Hw.set lp (.list [])).set lg (.list []) = H3 at W2 p2 g2 ⊢
    refine as_consL ?_
    intro Kq
    refine a1_for (asrc_range (ae_range ⟨rfl, ae_bin (ae_int ?_)⟩))
    refine ae_fn (fa := 286) (by kernel_rfl) (by kernel_rfl) (aes_cons (ae_local rfl (aes_cons (ae_int (aes_nil ((c_draw (n := 14) W2 (by decide) fun k H4 hk W4 K4 => ?_).to (by decide)))))))
    refine ⟨_, rfl, by exact linI [] [_] (.a (.a (.n 1) (.c (.v 0))) (.n 1)) (.n 1099511627776) [((.c (.a (.v 0) (.n 1))), (.c (.n 14)))] (Int.ofNat_le.mpr hk) rfl, by exact linI [] [_] (.a (.n (-1099511627776)) (.n 1)) (.a (.n 1) (.c (.v 0))) []  rfl, trivial, ?_⟩
    rw [show ((1 : Int) + (k : Nat)).toNat = k + 1 by omega]
    have p4 : H4 lp = some (.list []) := K4 lp _ p2 ne3
    have g4 : H4 lg = some (.list []) := K4 lg _ g2 ne1
    have hw4 := W4.is
    have hp4 : H4 lp ≠ none := by rw [p4]; simp
    have hg4 : H4 lg ≠ none := by rw [g4]; simp
    refine turns_ind (β := Nat) (γ := List Pc × List AV × AHeap × List (Str × AV)) (fun i => AV.int i) (fun g => ⟨g.2.2.2, g.2.2.1⟩)
      (fun ys g => g.1.length + ys.length = k + 1 ∧ Well g.2.2.1 w cl cells ∧ g.2.2.1 lp = some (.list g.2.1) ∧ g.2.2.1 lg = some (.list []) ∧ PL H4 g.2.2.1 g.1 g.2.1 ∧ Kp2 H4 g.2.2.1 w lp ∧ (∀ p ∈ g.1, GP p ∧ p.text.length ≤ LS 2) ∧
        g.2.2.2.lookup ("well" : Str) = some (AV.ref w) ∧ g.2.2.2.lookup ("pieces" : Str) = some (AV.ref lp) ∧ g.2.2.2.lookup ("gaps" : Str) = some (AV.ref lg))
      (tup4 fun ps as Hc m hg => ?_) (fun y ys => tup4 fun ps as Hc m hg ih => ?_) (List.range (k + 1)) ([], [], H4, _) ⟨by simp, W4, p4, g4, .nil, Kp2.refl H4 w lp, fun p h => (nomatch h), rfl, rfl, rfl⟩
    · refine xl_AAAAAAAAA hg fun hl W hp hg hN kp hgp m1 m2 m3 => ?_
      dsimp only at hl W hp hg hN kp hgp m1 m2 m3
      rw [List.length_nil] at hl
      exact law_b hA hB W hp hN hg hw4 hp4 hg4 ne1 ne2 ne3 ne4 hgp (by exact lin [_, _] (.v 1) (.n 15) [((.a (.v 0) (.n 1)), (.n 14)), ((.a (.v 1) (.n 0)), (.a (.v 0) (.n 1)))] hk (Nat.le_of_eq hl) rfl) (by exact lin [_, _] (.n 1) (.v 1) [((.a (.v 0) (.n 1)), (.a (.v 1) (.n 0)))] (Nat.le_of_eq (Eq.symm hl)) rfl) m1 m2 m3
    · refine xl_AAAAAAAAA hg fun hl W hp hg hN kp hgp m1 m2 m3 => ?_
      dsimp only at hl W hp hg hN kp hgp m1 m2 m3
      rw [List.length_cons] at hl
      have hlen := hN.len
      refine at_name ?_
      refine as_consL ?_
      intro Kq
      refine a1_expr (ae_meth (ae_local (look_ne m2) ⟨.bi "list.append", [.ref lp], mr_list hp PySem.F.slot_list_append PySem.F.type_list_append, rfl, aes_cons ?_⟩))
      refine ae_fn (fa := 321) (by kernel_rfl) (by kernel_rfl) (aes_cons (ae_local (look_ne m1) (aes_nil ((c_piece W fun p av H5 gp lp' W5 K5 N5 => ?_).to (by decide)))))
      have hp5 : H5 lp = some (.list as) := K5 lp _ hp ne3
      refine aes_nil (acw_append (as := as) hp5 (by exact lin [_, _, _, _] (.v 3) (.n 1000000) [((.a (.v 0) (.n 1)), (.n 14)), ((.a (.v 1) (.a (.v 2) (.n 1))), (.a (.v 0) (.n 1))), ((.v 3), (.v 1))] hk (Nat.le_of_eq hl) (Nat.le_of_eq hlen) rfl) ?_)
      have sub : ∀ a, H4 a = none → a ≠ w ∧ a ≠ lp := fun a e => ⟨fun z => hw4 (by rw [← z]; exact e), fun z => hp4 (by rw [← z]; exact e)⟩
      have back : ∀ a, Hc a = none → H4 a = none := fun a e => none_back (Option.ne_none_iff_exists'.mp hw4).choose_spec p4 kp e W.is (by rw [hp]; simp)
      refine as_nil ⟨trivial, ih (ps ++ [p], as ++ [av], _, _) ⟨?_, ?_, AHeap.set_self .., ?_, ?_, ?_, ?_, look_ne m1, look_ne m2, look_ne m3⟩⟩
      · rw [List.length_append, List.length_singleton]; exact Nat.le_antisymm (lin [_, _, _] (.a (.a (.v 0) (.n 1)) (.v 1)) (.a (.v 2) (.n 1)) [((.a (.v 0) (.a (.v 1) (.n 1))), (.a (.v 2) (.n 1)))] (Nat.le_of_eq hl) rfl) (lin [_, _, _] (.a (.v 2) (.n 1)) (.a (.a (.v 0) (.n 1)) (.v 1)) [((.a (.v 2) (.n 1)), (.a (.v 0) (.a (.v 1) (.n 1))))] (Nat.le_of_eq (Eq.symm hl)) rfl)
      · refine xl_EEAA W5.hw fun at' mix e i1 i2 => ?_
        exact ⟨(AHeap.set_ne _ _ ne5.symm).trans W5.hc, ⟨at', mix, (AHeap.set_ne _ _ ne3.symm).trans e, i1, i2⟩, W5.nn, W5.len, W5.ne⟩
      · exact (AHeap.set_ne _ _ ne2.symm).trans (K5 lg _ hg ne1)
      · refine PL.app (hN.mono fun a o h0 e => ⟨h0, (AHeap.set_ne _ _ (sub a h0).2).trans (K5 a o e (sub a h0).1)⟩) (.cons (N5.mono fun a o h0 e => ⟨back a h0, (AHeap.set_ne _ _ (sub a (back a h0)).2).trans e⟩) .nil)
      · exact fun a o e n m => (AHeap.set_ne _ _ m).trans (K5 a o (kp a o e n m) n)
      · intro p' hp'
        rcases List.mem_append.mp hp' with h | h
        · exact hgp p' h
        · rw [List.mem_singleton.mp h]; exact ⟨gp, lp'⟩
  · refine xl_EEAAA hm fun ns' cells e zr2 nn hl => ?_; try clear hm; subst zr2
    induction ns' with
    | nil => injection e
    | cons n ns' =>
    injection e with e1 e2
    subst e1 e2
    refine at_name ?_
    refine ae_bin (ae_local look_eq (ae_int ⟨by decide, AHeap.set_self .., ih _ _ ⟨ns', cells ++ [n.fmod 2147483647], rfl, by rw [List.map_append]; rfl, fun c hc => ?_, ?_⟩⟩))
    · rcases List.mem_append.mp hc with h | h
      · exact nn c h
      · rw [List.mem_singleton.mp h]; exact Int.fmod_nonneg_of_pos _ (by decide)
    · rw [List.length_append, List.length_singleton]; rw [List.length_cons] at hl; exact lin [_, _] (.a (.a (.v 0) (.n 1)) (.v 1)) (.n 60) [((.a (.v 0) (.a (.v 1) (.n 1))), (.n 60))] hl rfl
end
end Mine
end

section
open PySem PySem.W PySem.Calls PyProof.Rows Builtin.ObjectAttr
set_option maxHeartbeats 4000000
namespace Mine
theorem ints_vs {V : View} {vs : List Value} {ns : List Int} (h : IntsAre vs ns) : VsIs V (ns.map .int) vs := by
  induction h with
  | nil => exact .nil
  | cons n t _ ih => exact .cons (.int n t) ih
theorem slice_ok {d : Dt} {a : Addr} {ws : List Value} {ns : List Int} (hL : d.B.IsList a ws.toArray) (hI : IntsAre ws ns) (hz : ws.length ≤ 1000) : SliceOk d a ns := by
  intro sc b σ X Q v p1 p2 p3 p4 kk hv hl hd q f s N hf R
  refine wpAny_Subscript_list_slice (AE.then_ (ae_local hv (Q := fun a' σ' => a' = .ref a ∧ σ' = σ) ⟨rfl, rfl⟩ hl hd : AE (CC d) sc b _ σ _ X) hf R fun u a' s₁ σ₁ N₁ st R₁ hv' ⟨e1, e2⟩ => ?_)
  subst e1 e2
  cases hv'
  refine wpAny_pure ?_
  show wpAny _ _ (eval (.Constant (.int 60) kk p2) f.env) _ _ _
  refine wpAny_Constant_int ?_
  refine xl_EAAE (id hL) fun o ho hc n hdt => ?_
  have stays := R₁.stays a o ho
  refine ⟨a, ws.toArray, none, some 60, rfl, ⟨o, stays, hc, n, hdt⟩, by rw [List.size_toArray, sizeLine_eq]; exact lin [_] (.v 0) (.n 16777216) [((.v 0), (.n 1000))] hz rfl, .none, .int _ _, ?_⟩
  have hp := slice_ints_uptoW hI (y := 60) (by decide)
  obtain ⟨zs, hzs⟩ : ∃ zs, zs = (slicePick ws.toArray none (some 60) none).toList := ⟨_, rfl⟩
  rw [← hzs] at hp
  have e : slicePick ws.toArray none (some 60) none = zs.toArray := by rw [hzs]
  dsimp only
  rw [e]
  have R₂ := R₁.keeps (h' := s₁.heap.push { cls := .type "slice", data := .fields #[.none, .int 60 s₁.toks, .none] }) (t := s₁.toks + 1) (fun b o e => Heap.get?_push_of_some _ e)
  have st₂ : Step f.env.locals s₁ N₁ { s₁ with heap := s₁.heap.push { cls := .type "slice", data := .fields #[.none, .int 60 s₁.toks, .none] }, toks := s₁.toks + 1 } N₁ := .of_keeps (fun b o e => Heap.get?_push_of_some _ e)
  generalize hH2 : s₁.heap.push { cls := .type "slice", data := .fields #[.none, .int 60 s₁.toks, .none] } = H2 at R₂ st₂ ⊢
  have hsz : s₁.heap.objs.size + 1 = H2.objs.size := by rw [← hH2, Heap.size_push]
  rw [hsz]
  have h0 : H2.get? H2.objs.size = none := none_at _
  obtain ⟨h1, h2⟩ := R₂.new (t := s₁.toks + 1) (a := H2.objs.size) (o' := listOf zs.toArray 0) (fun b ob e => Heap.get?_push_of_some _ e) (Heap.get?_push_size _ rfl) h0 (.inl ⟨_, _, rfl⟩) (fun C dx e => by cases e) (σ₁.H.set H2.objs.size (.list ((ns.take 60).map .int)))
    (fun _ b ao e z => by rw [AHeap.set_ne _ _ z] at e; exact e) (fun ao e tk => by rw [AHeap.set_self] at e; cases e; exact ⟨zs, 0, Ledger.set_self .., ints_vs hp⟩)
  exact ⟨_, _, (st.trans st₂).trans h2, h1, _, .ref _, q _ (R₂.H_of_none h0)⟩
/-- the law is called from outside -/
theorem top_law {d : Dt} {s : Shared} (hB : d.B = s.heap) (ok : (CC d).Ok) {a : Addr} {R : Result → Shared → Prop}
    (h : AS (CC d) (scOf (CC d).K 385) 47 (bdOf (CC d).K 385) ⟨((["script"] : List Str).zip [.ref a]).reverse, fun _ => none⟩ lawQ (fun _ _ => False))
    (fin : ∀ s', (∀ b o, s.heap.get? b = some o → s'.heap.get? b = some o) → s' = { s with heap := s'.heap, toks := s'.toks } → R (.ok (.ret (.bool true))) s') :
    codeAny (model d.prog d.w) callerA (.call (.ref 385) ⟨[.ref a], []⟩) R s := by
  have hok : okDef (CC d).K 385 = true := by kernel_rfl
  have hnm : ((["script"] : List Str).all fun n => (scOf (CC d).K 385).names.lookup n == some .local) = true := by kernel_rfl
  have hbind : ∀ fd, fdOf (CC d).K 385 = some fd → ∀ v : Value, bindArgs fd ⟨[v], []⟩ = pure ((["script"] : List Str).zip [v]) := fun fd hfd v => by cases hfd; rfl
  unfold okDef at hok
  split at hok
  · rename_i fd hfd
    simp only [Bool.and_eq_true, beq_iff_eq, Bool.not_eq_true', List.isEmpty_iff] at hok
    obtain ⟨⟨⟨⟨⟨⟨⟨⟨h1, h2⟩, h3⟩, h4⟩, h5⟩, h6⟩, h7⟩, h8⟩, h9⟩ := hok
    split at h2
    · rename_i body hb
      have hsc : scOf (CC d).K 385 = fd.scope := by unfold scOf; rw [hfd]; rfl
      have hbd : bdOf (CC d).K 385 = body := by unfold bdOf; rw [hfd]; dsimp only; rw [hb]
      rw [hsc, hbd] at h
      rw [hsc] at hnm
      have hK : ∃ oc od osl, (CC d).K.lookup 385 = some ⟨oc, od, .func fd, osl⟩ := by
        unfold fdOf at hfd
        split at hfd
        · rename_i oc od fd' osl q; cases hfd; exact ⟨oc, od, osl, q⟩
        · injection hfd
      refine xl_EEE hK fun oc od osl hK => ?_
      have kin : (CC d).K.In s.heap := by rw [← hB]; exact ok.kin
      have hlim : s.heap.NoLimit := by rw [← hB]; exact ok.top.nolimit
      refine codeAny_call_def (binds := (["script"] : List Str).zip [Value.ref a]) (by decide +kernel) (kin _ _ hK) rfl hlim (codeRec_of kin h1) hb (.of_eq (hbind fd hfd _)) (fun x hx => by have := List.all_eq_true.mp h6 x hx; simpa using this) (fun x hx => ?_) (fun h₀ hn hkp => ?_) h7 h8 h9
      · have := List.all_eq_true.mp hnm x.1 (List.of_mem_zip (show (x.1, x.2) ∈ _ from hx)).1
        simpa using this
      obtain ⟨f, hf⟩ : ∃ f : Frm, f = { A := callerA.deeper (callEnv fd s.heap.objs.size 385), env := callEnv fd s.heap.objs.size 385, fenv := callEnv fd s.heap.objs.size 385, outer := [], Lf := s.heap.objs.size } := ⟨_, rfl⟩
      have frs : f.frs = [s.heap.objs.size] := by rw [hf]; rfl
      refine xl_EEEAA (id hn) fun oL es ep g1 g2 g3 => ?_
      have b0 : d.B.get? s.heap.objs.size = none := by rw [hB]; exact none_at _
      have R₁ : Rp (CC d) f { s with heap := h₀, toks := s.toks + ((["script"] : List Str).zip [Value.ref a]).length } ⟨((["script"] : List Str).zip [AV.ref a]).reverse, fun _ => none⟩ (fun _ => none) := by
        refine ⟨⟨_, ⟨by rw [hf]; exact hn, fun b o e => hkp b o (by rw [← hB]; exact e), by rw [hf]; show d.B.objs.size ≤ s.heap.objs.size; rw [hB]; exact Nat.le_refl _⟩, fun x y e => ?_⟩, fun _ _ e => (nomatch e), fun _ _ _ _ _ e => (nomatch e), fun _ _ _ e => (nomatch e), fun _ _ e => (nomatch e), ?_, fun b hb' => ?_, Nat.succ_pos _⟩
        · have e' : List.lookup x [(("script" : Str), AV.ref a)] = some y := e
          show ∃ v, List.lookup x [(("script" : Str), Value.ref a)] = some v ∧ _
          rw [List.lookup_cons] at e' ⊢
          split at e'
          · cases e'; exact ⟨_, rfl, .ref _⟩
          · injection e'
        · rw [hf]
          exact ⟨by show fd.scope.kind ≠ .module; rw [h9]; simp, ⟨_, oL, rfl, b0, g1, fun vs q => by rw [g2] at q; injection q⟩, trivial⟩
        · rw [frs] at hb'
          rw [List.mem_singleton.mp hb']
          exact ⟨oL, es, ep, g1, g2⟩
      have hf' : FOk (CC d) fd.scope 47 f := by
        rw [hf]
        exact ⟨ok, rfl, h9, h3, h5, rfl, rfl, rfl, (show callerA.depth + 1 + 4 * 47 + 8 < recursionLimit by decide +kernel), (show callerA.units + 3 + 16 * 47 + 32 < cLine by decide +kernel), rfl⟩
      have := h f _ _ hf' (by rw [hf]) R₁
      rw [hf] at this
      refine wpAny_mono this (fun fl s' zf1 => xl_EEAAEA zf1 fun σ' N' st R' y g1 g2 => ?_) fun ev s' z => (no_x z).elim
      have stays : ∀ b o, s.heap.get? b = some o → s'.heap.get? b = some o := fun b o e => R'.stays b o (by show d.B.get? b = some o; rw [hB]; exact e)
      have shape : s' = { s with heap := s'.heap, toks := s'.toks } := st.shape
      induction g1 with
      | ret w => cases (show _ = AV.bool true from g2); cases w; exact fin _ stays shape
      | next => injection g2
      | brk => injection g2
      | cont => injection g2
    · injection h2
  · injection hok
end Mine
end

section
open PySem PySem.W PySem.Calls PyProof.Rows Builtin.ObjectAttr
set_option maxHeartbeats 4000000
namespace Mine
theorem all_holds (hA : PlainA) (hB : PlainB) : PySem.Challenge.rw_xm0228_01.Holds := hd (by
  intro w s₀ s₁ mg mb G Y fa o pm cd doc dV kV ho hod hcd hD hmg hg args vals as hpre hlay hrd hwl hlo
  have KX := kIn_of Y
  have T := topRead_of G.T
  clear hod hcd hD Y
  clear G
  have e385 : mg "law" = some (.ref 385) := mg_of KX T.g (show nsIn (hd.heap_1 w.params) mainGlobals "law" = some (some (.ref 385)) by kernel_rfl)
  have ef : fa = 385 := by
    have h := (show mg "law" = some (.ref fa) from hmg).symm.trans e385
    cases h; rfl
  subst ef
  clear hmg ho
  wrow_args hpre hlay hrd hwl hlo
  rename_i ns _ _ _ _ _ _ _ a vs _ hL _ _ _ hI _ hcond _
  have hlen : vs.length ≤ 1000 := by rw [hI.length]; exact Int.ofNat_le.mp (linI [] [_] (.c (.v 0)) (.c (.n 1000)) [((.c (.v 0)), (.c (.n 63)))] (Int.not_lt.mp hcond) rfl)
  refine enter_call ?_
  refine top_law (d := ⟨PySem.Challenge.rw_xm0228_01.row.prog, w, Mine.q, looseW Mine.q [], mg, mb, s₁.heap⟩) rfl ⟨KX, T⟩ (c_law hA hB (slice_ok hL hI hlen)) fun s' stays shape => ?_
  refine GoodW.toG ⟨.inl ⟨.bool true, .bool true, [], rfl, fun cls => rfl, ?_, ?_, fun _ => ⟨List.nodup_nil, fun a h => nomatch h⟩⟩, stays, by rw [shape], by rw [shape]; exact hg⟩
  · exact .bool true
  · kernel_rfl)
end Mine
end

theorem PySem.Challenge.cw_xm0228_01_holds : PySem.Challenge.rw_xm0228_01.Holds :=
  Mine.all_holds Mine.plainA Mine.plainB
