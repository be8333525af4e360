import PyProof.Rows.All
import Open.Line
import Open.FastRun
import Open.FastT9
import KE.KDictSum
import KE.KDictOf
import PyProof.Rows.SetFrom
import PySem.Challenge.RW_uf040007_08
set_option Elab.async false
set_option bootstrap.genMatcherCode false
set_option linter.unusedVariables false
set_option linter.unusedSimpArgs false
set_option genSizeOfSpec false
namespace Mine.Internal
section
variable {G : Prop}
theorem xA {P1 P2 : Prop} (h : P1 /\ P2) (k : P1 -> P2 -> G) : G := k h.1 h.2
theorem xE {T0 : Sort _} {P1 : T0 -> Prop} (h : ∃ a, P1 a) (k : ∀ a, P1 a -> G) : G := Exists.elim h fun a h => k a h
theorem xAA {P1 P2 P3 : Prop} (h : P1 /\ P2 /\ P3) (k : P1 -> P2 -> P3 -> G) : G := k h.1 h.2.1 h.2.2
theorem xAE {T0 : Sort _} {P1 : Prop} {P2 : T0 -> Prop} (h : P1 /\ ∃ a, P2 a) (k : P1 -> ∀ a, P2 a -> G) : G := have q0 := h.1; Exists.elim h.2 fun a h => k q0 a h
theorem xEA {T0 : Sort _} {P1 P2 : T0 -> Prop} (h : ∃ a, P1 a /\ P2 a) (k : ∀ a, P1 a -> P2 a -> G) : G := Exists.elim h fun a h => k a h.1 h.2
theorem xEE {T0 T1 : Sort _} {P1 : T0 -> T1 -> Prop} (h : ∃ a b, P1 a b) (k : ∀ a b, P1 a b -> G) : G := Exists.elim h fun a h => Exists.elim h fun b h => k a b h
theorem xAAA {P1 P2 P3 P4 : Prop} (h : P1 /\ P2 /\ P3 /\ P4) (k : P1 -> P2 -> P3 -> P4 -> G) : G := k h.1 h.2.1 h.2.2.1 h.2.2.2
theorem xAEA {T0 : Sort _} {P1 : Prop} {P2 P3 : T0 -> Prop} (h : P1 /\ ∃ a, P2 a /\ P3 a) (k : P1 -> ∀ a, P2 a -> P3 a -> G) : G := have q0 := h.1; Exists.elim h.2 fun a h => k q0 a h.1 h.2
theorem xEAA {T0 : Sort _} {P1 P2 P3 : T0 -> Prop} (h : ∃ a, P1 a /\ P2 a /\ P3 a) (k : ∀ a, P1 a -> P2 a -> P3 a -> G) : G := Exists.elim h fun a h => k a h.1 h.2.1 h.2.2
theorem xEAE {T0 T1 : Sort _} {P1 : T0 -> Prop} {P2 : T0 -> T1 -> Prop} (h : ∃ a, P1 a /\ ∃ b, P2 a b) (k : ∀ a, P1 a -> ∀ b, P2 a b -> G) : G := Exists.elim h fun a h => have q1 := h.1; Exists.elim h.2 fun b h => k a q1 b h
theorem xEEA {T0 T1 : Sort _} {P1 P2 : T0 -> T1 -> Prop} (h : ∃ a b, P1 a b /\ P2 a b) (k : ∀ a b, P1 a b -> P2 a b -> G) : G := Exists.elim h fun a h => Exists.elim h fun b h => k a b h.1 h.2
theorem xEEE {T0 T1 T2 : Sort _} {P1 : T0 -> T1 -> T2 -> Prop} (h : ∃ a b c, P1 a b c) (k : ∀ a b c, P1 a b c -> G) : G := Exists.elim h fun a h => Exists.elim h fun b h => Exists.elim h fun c h => k a b c h
theorem xAAAA {P1 P2 P3 P4 P5 : Prop} (h : P1 /\ P2 /\ P3 /\ P4 /\ P5) (k : P1 -> P2 -> P3 -> P4 -> P5 -> G) : G := k h.1 h.2.1 h.2.2.1 h.2.2.2.1 h.2.2.2.2
theorem xEAAA {T0 : Sort _} {P1 P2 P3 P4 : T0 -> Prop} (h : ∃ a, P1 a /\ P2 a /\ P3 a /\ P4 a) (k : ∀ a, P1 a -> P2 a -> P3 a -> P4 a -> G) : G := Exists.elim h fun a h => k a h.1 h.2.1 h.2.2.1 h.2.2.2
theorem xEAEE {T0 T1 T2 : Sort _} {P1 : T0 -> Prop} {P2 : T0 -> T1 -> T2 -> Prop} (h : ∃ a, P1 a /\ ∃ b c, P2 a b c) (k : ∀ a, P1 a -> ∀ b c, P2 a b c -> G) : G := Exists.elim h fun a h => have q1 := h.1; Exists.elim h.2 fun b h => Exists.elim h fun c h => k a q1 b c h
theorem xEEAA {T0 T1 : Sort _} {P1 P2 P3 : T0 -> T1 -> Prop} (h : ∃ a b, P1 a b /\ P2 a b /\ P3 a b) (k : ∀ a b, P1 a b -> P2 a b -> P3 a b -> G) : G := Exists.elim h fun a h => Exists.elim h fun b h => k a b h.1 h.2.1 h.2.2
theorem xEEEA {T0 T1 T2 : Sort _} {P1 P2 : T0 -> T1 -> T2 -> Prop} (h : ∃ a b c, P1 a b c /\ P2 a b c) (k : ∀ a b c, P1 a b c -> P2 a b c -> G) : G := Exists.elim h fun a h => Exists.elim h fun b h => Exists.elim h fun c h => k a b c h.1 h.2
theorem xAEEAA {T0 T1 : Sort _} {P1 : Prop} {P2 P3 P4 : T0 -> T1 -> Prop} (h : P1 /\ ∃ a b, P2 a b /\ P3 a b /\ P4 a b) (k : P1 -> ∀ a b, P2 a b -> P3 a b -> P4 a b -> G) : G := have q0 := h.1; Exists.elim h.2 fun a h => Exists.elim h fun b h => k q0 a b h.1 h.2.1 h.2.2
theorem xEAAAA {T0 : Sort _} {P1 P2 P3 P4 P5 : T0 -> Prop} (h : ∃ a, P1 a /\ P2 a /\ P3 a /\ P4 a /\ P5 a) (k : ∀ a, P1 a -> P2 a -> P3 a -> P4 a -> P5 a -> G) : G := Exists.elim h fun a h => k a h.1 h.2.1 h.2.2.1 h.2.2.2.1 h.2.2.2.2
theorem xEEAAA {T0 T1 : Sort _} {P1 P2 P3 P4 : T0 -> T1 -> Prop} (h : ∃ a b, P1 a b /\ P2 a b /\ P3 a b /\ P4 a b) (k : ∀ a b, P1 a b -> P2 a b -> P3 a b -> P4 a b -> G) : G := Exists.elim h fun a h => Exists.elim h fun b h => k a b h.1 h.2.1 h.2.2.1 h.2.2.2
theorem xEEAEA {T0 T1 T2 : Sort _} {P1 : T0 -> T1 -> Prop} {P2 P3 : T0 -> T1 -> T2 -> Prop} (h : ∃ a b, P1 a b /\ ∃ c, P2 a b c /\ P3 a b c) (k : ∀ a b, P1 a b -> ∀ c, P2 a b c -> P3 a b c -> G) : G := Exists.elim h fun a h => Exists.elim h fun b h => have q2 := h.1; Exists.elim h.2 fun c h => k a b q2 c h.1 h.2
theorem xEEEAA {T0 T1 T2 : Sort _} {P1 P2 P3 : T0 -> T1 -> T2 -> Prop} (h : ∃ a b c, P1 a b c /\ P2 a b c /\ P3 a b c) (k : ∀ a b c, P1 a b c -> P2 a b c -> P3 a b c -> G) : G := Exists.elim h fun a h => Exists.elim h fun b h => Exists.elim h fun c h => k a b c h.1 h.2.1 h.2.2
theorem xEEEEA {T0 T1 T2 T3 : Sort _} {P1 P2 : T0 -> T1 -> T2 -> T3 -> Prop} (h : ∃ a b c d, P1 a b c d /\ P2 a b c d) (k : ∀ a b c d, P1 a b c d -> P2 a b c d -> G) : G := Exists.elim h fun a h => Exists.elim h fun b h => Exists.elim h fun c h => Exists.elim h fun d h => k a b c d h.1 h.2
theorem xAAAAAA {P1 P2 P3 P4 P5 P6 P7 : Prop} (h : P1 /\ P2 /\ P3 /\ P4 /\ P5 /\ P6 /\ P7) (k : P1 -> P2 -> P3 -> P4 -> P5 -> P6 -> P7 -> G) : G := k h.1 h.2.1 h.2.2.1 h.2.2.2.1 h.2.2.2.2.1 h.2.2.2.2.2.1 h.2.2.2.2.2.2
theorem xAAEEEA {T0 T1 T2 : Sort _} {P1 P2 : Prop} {P3 P4 : T0 -> T1 -> T2 -> Prop} (h : P1 /\ P2 /\ ∃ a b c, P3 a b c /\ P4 a b c) (k : P1 -> P2 -> ∀ a b c, P3 a b c -> P4 a b c -> G) : G := have q0 := h.1; have q1 := h.2.1; Exists.elim h.2.2 fun a h => Exists.elim h fun b h => Exists.elim h fun c h => k q0 q1 a b c h.1 h.2
theorem xEAAAAA {T0 : Sort _} {P1 P2 P3 P4 P5 P6 : T0 -> Prop} (h : ∃ a, P1 a /\ P2 a /\ P3 a /\ P4 a /\ P5 a /\ P6 a) (k : ∀ a, P1 a -> P2 a -> P3 a -> P4 a -> P5 a -> P6 a -> G) : G := Exists.elim h fun a h => k a h.1 h.2.1 h.2.2.1 h.2.2.2.1 h.2.2.2.2.1 h.2.2.2.2.2
theorem xEEAAAA {T0 T1 : Sort _} {P1 P2 P3 P4 P5 : T0 -> T1 -> Prop} (h : ∃ a b, P1 a b /\ P2 a b /\ P3 a b /\ P4 a b /\ P5 a b) (k : ∀ a b, P1 a b -> P2 a b -> P3 a b -> P4 a b -> P5 a b -> G) : G := Exists.elim h fun a h => Exists.elim h fun b h => k a b h.1 h.2.1 h.2.2.1 h.2.2.2.1 h.2.2.2.2
theorem xEEAEAA {T0 T1 T2 : Sort _} {P1 : T0 -> T1 -> Prop} {P2 P3 P4 : T0 -> T1 -> T2 -> Prop} (h : ∃ a b, P1 a b /\ ∃ c, P2 a b c /\ P3 a b c /\ P4 a b c) (k : ∀ a b, P1 a b -> ∀ c, P2 a b c -> P3 a b c -> P4 a b c -> G) : G := Exists.elim h fun a h => Exists.elim h fun b h => have q2 := h.1; Exists.elim h.2 fun c h => k a b q2 c h.1 h.2.1 h.2.2
theorem xEEEAAA {T0 T1 T2 : Sort _} {P1 P2 P3 P4 : T0 -> T1 -> T2 -> Prop} (h : ∃ a b c, P1 a b c /\ P2 a b c /\ P3 a b c /\ P4 a b c) (k : ∀ a b c, P1 a b c -> P2 a b c -> P3 a b c -> P4 a b c -> G) : G := Exists.elim h fun a h => Exists.elim h fun b h => Exists.elim h fun c h => k a b c h.1 h.2.1 h.2.2.1 h.2.2.2
theorem xEEEEEA {T0 T1 T2 T3 T4 : Sort _} {P1 P2 : T0 -> T1 -> T2 -> T3 -> T4 -> Prop} (h : ∃ a b c d e, P1 a b c d e /\ P2 a b c d e) (k : ∀ a b c d e, P1 a b c d e -> P2 a b c d e -> G) : G := Exists.elim h fun a h => Exists.elim h fun b h => Exists.elim h fun c h => Exists.elim h fun d h => Exists.elim h fun e h => k a b c d e h.1 h.2
theorem xEEEAAAA {T0 T1 T2 : Sort _} {P1 P2 P3 P4 P5 : T0 -> T1 -> T2 -> Prop} (h : ∃ a b c, P1 a b c /\ P2 a b c /\ P3 a b c /\ P4 a b c /\ P5 a b c) (k : ∀ a b c, P1 a b c -> P2 a b c -> P3 a b c -> P4 a b c -> P5 a b c -> G) : G := Exists.elim h fun a h => Exists.elim h fun b h => Exists.elim h fun c h => k a b c h.1 h.2.1 h.2.2.1 h.2.2.2.1 h.2.2.2.2
theorem xEEEAAEA {T0 T1 T2 T3 : Sort _} {P1 P2 : T0 -> T1 -> T2 -> Prop} {P3 P4 : T0 -> T1 -> T2 -> T3 -> Prop} (h : ∃ a b c, P1 a b c /\ P2 a b c /\ ∃ d, P3 a b c d /\ P4 a b c d) (k : ∀ a b c, P1 a b c -> P2 a b c -> ∀ d, P3 a b c d -> P4 a b c d -> G) : G := Exists.elim h fun a h => Exists.elim h fun b h => Exists.elim h fun c h => have q3 := h.1; have q4 := h.2.1; Exists.elim h.2.2 fun d h => k a b c q3 q4 d h.1 h.2
theorem xEEEEEAA {T0 T1 T2 T3 T4 : Sort _} {P1 P2 P3 : T0 -> T1 -> T2 -> T3 -> T4 -> Prop} (h : ∃ a b c d e, P1 a b c d e /\ P2 a b c d e /\ P3 a b c d e) (k : ∀ a b c d e, P1 a b c d e -> P2 a b c d e -> P3 a b c d e -> G) : G := Exists.elim h fun a h => Exists.elim h fun b h => Exists.elim h fun c h => Exists.elim h fun d h => Exists.elim h fun e h => k a b c d e h.1 h.2.1 h.2.2
theorem xEEEEEEA {T0 T1 T2 T3 T4 T5 : Sort _} {P1 P2 : T0 -> T1 -> T2 -> T3 -> T4 -> T5 -> Prop} (h : ∃ a b c d e f, P1 a b c d e f /\ P2 a b c d e f) (k : ∀ a b c d e f, P1 a b c d e f -> P2 a b c d e f -> G) : G := Exists.elim h fun a h => Exists.elim h fun b h => Exists.elim h fun c h => Exists.elim h fun d h => Exists.elim h fun e h => Exists.elim h fun f h => k a b c d e f h.1 h.2
theorem xEEAAAAAA {T0 T1 : Sort _} {P1 P2 P3 P4 P5 P6 P7 : T0 -> T1 -> Prop} (h : ∃ a b, P1 a b /\ P2 a b /\ P3 a b /\ P4 a b /\ P5 a b /\ P6 a b /\ P7 a b) (k : ∀ a b, P1 a b -> P2 a b -> P3 a b -> P4 a b -> P5 a b -> P6 a b -> P7 a b -> G) : G := Exists.elim h fun a h => Exists.elim h fun b h => k a b h.1 h.2.1 h.2.2.1 h.2.2.2.1 h.2.2.2.2.1 h.2.2.2.2.2.1 h.2.2.2.2.2.2
theorem xEEEAAEAA {T0 T1 T2 T3 : Sort _} {P1 P2 : T0 -> T1 -> T2 -> Prop} {P3 P4 P5 : T0 -> T1 -> T2 -> T3 -> Prop} (h : ∃ a b c, P1 a b c /\ P2 a b c /\ ∃ d, P3 a b c d /\ P4 a b c d /\ P5 a b c d) (k : ∀ a b c, P1 a b c -> P2 a b c -> ∀ d, P3 a b c d -> P4 a b c d -> P5 a b c d -> G) : G := Exists.elim h fun a h => Exists.elim h fun b h => Exists.elim h fun c h => have q3 := h.1; have q4 := h.2.1; Exists.elim h.2.2 fun d h => k a b c q3 q4 d h.1 h.2.1 h.2.2
theorem xEEEEAAAA {T0 T1 T2 T3 : Sort _} {P1 P2 P3 P4 P5 : T0 -> T1 -> T2 -> T3 -> Prop} (h : ∃ a b c d, P1 a b c d /\ P2 a b c d /\ P3 a b c d /\ P4 a b c d /\ P5 a b c d) (k : ∀ a b c d, P1 a b c d -> P2 a b c d -> P3 a b c d -> P4 a b c d -> P5 a b c d -> G) : G := Exists.elim h fun a h => Exists.elim h fun b h => Exists.elim h fun c h => Exists.elim h fun d h => k a b c d h.1 h.2.1 h.2.2.1 h.2.2.2.1 h.2.2.2.2
theorem xEEEEEAAA {T0 T1 T2 T3 T4 : Sort _} {P1 P2 P3 P4 : T0 -> T1 -> T2 -> T3 -> T4 -> Prop} (h : ∃ a b c d e, P1 a b c d e /\ P2 a b c d e /\ P3 a b c d e /\ P4 a b c d e) (k : ∀ a b c d e, P1 a b c d e -> P2 a b c d e -> P3 a b c d e -> P4 a b c d e -> G) : G := Exists.elim h fun a h => Exists.elim h fun b h => Exists.elim h fun c h => Exists.elim h fun d h => Exists.elim h fun e h => k a b c d e h.1 h.2.1 h.2.2.1 h.2.2.2
theorem xAEEEEAAAA {T0 T1 T2 T3 : Sort _} {P1 : Prop} {P2 P3 P4 P5 P6 : T0 -> T1 -> T2 -> T3 -> Prop} (h : P1 /\ ∃ a b c d, P2 a b c d /\ P3 a b c d /\ P4 a b c d /\ P5 a b c d /\ P6 a b c d) (k : P1 -> ∀ a b c d, P2 a b c d -> P3 a b c d -> P4 a b c d -> P5 a b c d -> P6 a b c d -> G) : G := have q0 := h.1; Exists.elim h.2 fun a h => Exists.elim h fun b h => Exists.elim h fun c h => Exists.elim h fun d h => k q0 a b c d h.1 h.2.1 h.2.2.1 h.2.2.2.1 h.2.2.2.2
theorem xEEEEAAAAA {T0 T1 T2 T3 : Sort _} {P1 P2 P3 P4 P5 P6 : T0 -> T1 -> T2 -> T3 -> Prop} (h : ∃ a b c d, P1 a b c d /\ P2 a b c d /\ P3 a b c d /\ P4 a b c d /\ P5 a b c d /\ P6 a b c d) (k : ∀ a b c d, P1 a b c d -> P2 a b c d -> P3 a b c d -> P4 a b c d -> P5 a b c d -> P6 a b c d -> G) : G := Exists.elim h fun a h => Exists.elim h fun b h => Exists.elim h fun c h => Exists.elim h fun d h => k a b c d h.1 h.2.1 h.2.2.1 h.2.2.2.1 h.2.2.2.2.1 h.2.2.2.2.2
theorem xEEEEEAAAA {T0 T1 T2 T3 T4 : Sort _} {P1 P2 P3 P4 P5 : T0 -> T1 -> T2 -> T3 -> T4 -> Prop} (h : ∃ a b c d e, P1 a b c d e /\ P2 a b c d e /\ P3 a b c d e /\ P4 a b c d e /\ P5 a b c d e) (k : ∀ a b c d e, P1 a b c d e -> P2 a b c d e -> P3 a b c d e -> P4 a b c d e -> P5 a b c d e -> G) : G := Exists.elim h fun a h => Exists.elim h fun b h => Exists.elim h fun c h => Exists.elim h fun d h => Exists.elim h fun e h => k a b c d e h.1 h.2.1 h.2.2.1 h.2.2.2.1 h.2.2.2.2
theorem xEEEEEAAAAA {T0 T1 T2 T3 T4 : Sort _} {P1 P2 P3 P4 P5 P6 : T0 -> T1 -> T2 -> T3 -> T4 -> Prop} (h : ∃ a b c d e, P1 a b c d e /\ P2 a b c d e /\ P3 a b c d e /\ P4 a b c d e /\ P5 a b c d e /\ P6 a b c d e) (k : ∀ a b c d e, P1 a b c d e -> P2 a b c d e -> P3 a b c d e -> P4 a b c d e -> P5 a b c d e -> P6 a b c d e -> G) : G := Exists.elim h fun a h => Exists.elim h fun b h => Exists.elim h fun c h => Exists.elim h fun d h => Exists.elim h fun e h => k a b c d e h.1 h.2.1 h.2.2.1 h.2.2.2.1 h.2.2.2.2.1 h.2.2.2.2.2
theorem xEEEEEEEAAA {T0 T1 T2 T3 T4 T5 T6 : Sort _} {P1 P2 P3 P4 : T0 -> T1 -> T2 -> T3 -> T4 -> T5 -> T6 -> Prop} (h : ∃ a b c d e f i, P1 a b c d e f i /\ P2 a b c d e f i /\ P3 a b c d e f i /\ P4 a b c d e f i) (k : ∀ a b c d e f i, P1 a b c d e f i -> P2 a b c d e f i -> P3 a b c d e f i -> P4 a b c d e f i -> G) : G := Exists.elim h fun a h => Exists.elim h fun b h => Exists.elim h fun c h => Exists.elim h fun d h => Exists.elim h fun e h => Exists.elim h fun f h => Exists.elim h fun i h => k a b c d e f i h.1 h.2.1 h.2.2.1 h.2.2.2
theorem xEEEEEEEAAAA {T0 T1 T2 T3 T4 T5 T6 : Sort _} {P1 P2 P3 P4 P5 : T0 -> T1 -> T2 -> T3 -> T4 -> T5 -> T6 -> Prop} (h : ∃ a b c d e f i, P1 a b c d e f i /\ P2 a b c d e f i /\ P3 a b c d e f i /\ P4 a b c d e f i /\ P5 a b c d e f i) (k : ∀ a b c d e f i, P1 a b c d e f i -> P2 a b c d e f i -> P3 a b c d e f i -> P4 a b c d e f i -> P5 a b c d e f i -> G) : G := Exists.elim h fun a h => Exists.elim h fun b h => Exists.elim h fun c h => Exists.elim h fun d h => Exists.elim h fun e h => Exists.elim h fun f h => Exists.elim h fun i h => k a b c d e f i h.1 h.2.1 h.2.2.1 h.2.2.2.1 h.2.2.2.2
theorem xEEEEEEEAAAAA {T0 T1 T2 T3 T4 T5 T6 : Sort _} {P1 P2 P3 P4 P5 P6 : T0 -> T1 -> T2 -> T3 -> T4 -> T5 -> T6 -> Prop} (h : ∃ a b c d e f i, P1 a b c d e f i /\ P2 a b c d e f i /\ P3 a b c d e f i /\ P4 a b c d e f i /\ P5 a b c d e f i /\ P6 a b c d e f i) (k : ∀ a b c d e f i, P1 a b c d e f i -> P2 a b c d e f i -> P3 a b c d e f i -> P4 a b c d e f i -> P5 a b c d e f i -> P6 a b c d e f i -> G) : G := Exists.elim h fun a h => Exists.elim h fun b h => Exists.elim h fun c h => Exists.elim h fun d h => Exists.elim h fun e h => Exists.elim h fun f h => Exists.elim h fun i h => k a b c d e f i h.1 h.2.1 h.2.2.1 h.2.2.2.1 h.2.2.2.2.1 h.2.2.2.2.2
theorem xEEEEEEEEEEAA {T0 T1 T2 T3 T4 T5 T6 T7 T8 T9 : Sort _} {P1 P2 P3 : T0 -> T1 -> T2 -> T3 -> T4 -> T5 -> T6 -> T7 -> T8 -> T9 -> Prop} (h : ∃ a b c d e f i j l m, P1 a b c d e f i j l m /\ P2 a b c d e f i j l m /\ P3 a b c d e f i j l m) (k : ∀ a b c d e f i j l m, P1 a b c d e f i j l m -> P2 a b c d e f i j l m -> P3 a b c d e f i j l m -> G) : G := Exists.elim h fun a h => Exists.elim h fun b h => Exists.elim h fun c h => Exists.elim h fun d h => Exists.elim h fun e h => Exists.elim h fun f h => Exists.elim h fun i h => Exists.elim h fun j h => Exists.elim h fun l h => Exists.elim h fun m h => k a b c d e f i j l m h.1 h.2.1 h.2.2
theorem xEEEEEEEEEEEE {T0 T1 T2 T3 T4 T5 T6 T7 T8 T9 T10 T11 : Sort _} {P1 : T0 -> T1 -> T2 -> T3 -> T4 -> T5 -> T6 -> T7 -> T8 -> T9 -> T10 -> T11 -> Prop} (h : ∃ a b c d e f i j l m n o, P1 a b c d e f i j l m n o) (k : ∀ a b c d e f i j l m n o, P1 a b c d e f i j l m n o -> G) : G := Exists.elim h fun a h => Exists.elim h fun b h => Exists.elim h fun c h => Exists.elim h fun d h => Exists.elim h fun e h => Exists.elim h fun f h => Exists.elim h fun i h => Exists.elim h fun j h => Exists.elim h fun l h => Exists.elim h fun m h => Exists.elim h fun n h => Exists.elim h fun o h => k a b c d e f i j l m n o h
theorem xEEEEAAAAAAA {T0 T1 T2 T3 : Sort _} {P1 P2 P3 P4 P5 P6 P7 P8 : T0 -> T1 -> T2 -> T3 -> Prop} (h : ∃ a b c d, P1 a b c d /\ P2 a b c d /\ P3 a b c d /\ P4 a b c d /\ P5 a b c d /\ P6 a b c d /\ P7 a b c d /\ P8 a b c d) (k : ∀ a b c d, P1 a b c d -> P2 a b c d -> P3 a b c d -> P4 a b c d -> P5 a b c d -> P6 a b c d -> P7 a b c d -> P8 a b c d -> G) : G := Exists.elim h fun a h => Exists.elim h fun b h => Exists.elim h fun c h => Exists.elim h fun d h => have q1 := h.1; have q2 := h.2.1; have q3 := h.2.2.1; have q4 := h.2.2.2.1; have q5 := h.2.2.2.2.1; have q6 := h.2.2.2.2.2.1; have q7 := h.2.2.2.2.2.2.1; k a b c d q1 q2 q3 q4 q5 q6 q7 h.2.2.2.2.2.2.2
theorem xEAEEA {T0 T1 T2 : Sort _} {P1 : T0 -> Prop} {P2 P3 : T0 -> T1 -> T2 -> Prop} (h : ∃ a, P1 a /\ ∃ b c, P2 a b c /\ P3 a b c) (k : ∀ a, P1 a -> ∀ b c, P2 a b c -> P3 a b c -> G) : G := Exists.elim h fun a h => have q1 := h.1; Exists.elim h.2 fun b h => Exists.elim h fun c h => have q2 := h.1; k a q1 b c q2 h.2
end
section
open PySem PySem.W PyProof.Rows
noncomputable def onRef (v : Option Value) (f : Addr -> Bool) : Bool := match v with
  | some v => match v with
    | .ref C => f C
    | _ => false
  | none => false
theorem isRef {v : Option Value} {f : Addr -> Bool} (h : onRef v f = true) : ∃ C, v = some (.ref C) /\ f C = true := by
  rcases v with _ | v
  case none => exact absurd h Bool.false_ne_true
  case some => cases v <;> first | exact absurd h Bool.false_ne_true | exact ⟨_, rfl, h⟩
noncomputable def excLook (excs : List (Str × List Str)) (all : List Str) (h : Heap) : Bool := excs.all fun p => onRef (h.nsMap mainGlobals p.1) fun C => match h.get? C with
  | some o => match o.data with
    | .cls cd => all.all fun j => onRef (h.nsMap mainGlobals j) fun D => cd.mro.contains (.ref D) == p.2.contains j
    | _ => false
  | none => false
noncomputable def ExcSaid (excs : List (Str × List Str)) (all : List Str) (mg : Str -> Option Value) (h : Heap) : Prop :=
  ∀ p ∈ excs, ∀ j ∈ all, ∃ C D o cd, mg p.1 = some (.ref C) /\ mg j = some (.ref D) /\ h.get? C = some o /\ o.data = .cls cd /\ cd.mro.contains (.ref D) = p.2.contains j
theorem excSaid_of {excs : List (Str × List Str)} {all : List Str} {h : Heap} (e : excLook excs all h = true) : ExcSaid excs all (h.nsMap mainGlobals) h := by
  intro p hp j hj
  have h1 := List.all_eq_true.mp e p hp
  refine xEA (isRef h1) fun C hC h1 => ?_
  rcases ho : h.get? C with _ | o <;> rw [ho] at h1
  case none => exact absurd h1 Bool.false_ne_true
  case some =>
    dsimp only at h1
    rcases hd : o.data with _ | _ | _ | _ | _ | _ | _ | _ | cd | _ <;> rw [hd] at h1 <;> try exact absurd h1 Bool.false_ne_true
    refine xEA (isRef (List.all_eq_true.mp h1 j hj)) fun D hD h2 => ?_
    exact ⟨C, D, o, cd, hC, hD, ho, hd, eq_of_beq h2⟩
theorem ExcSaid.keeps {excs : List (Str × List Str)} {all : List Str} (mg : Str -> Option Value) (h h' : Heap) (x : ExcSaid excs all mg h) (k : ∀ b o, h.get? b = some o -> h'.get? b = some o) : ExcSaid excs all mg h' :=
  fun p hp j hj => xEEEEA (x p hp j hj) fun C D o cd a q => ⟨C, D, o, cd, a, q.1, k _ _ q.2.1, q.2.2⟩
end
section
open PySem PySem.W PyProof.Rows
noncomputable def q08 : Program := view PySem.Challenge.pw_uf040007_08 [0,2,3,4,5,6,7,8,9,10,11,13,14,15,16,18,19,20,21,22,23,24,26,27,28,29,30,31,32,33,34,35,36,37,38,39,40,41,42,43]
noncomputable def ex08 : List (Str × List Str) := [("NestError", ["NestError"]), ("NoNests", ["NoNests", "NestError"]), ("NoName", ["NoName", "NestError"]), ("NoValue", ["NoValue", "NestError"]), ("NoNest", ["NoNest", "NestError"]), ("NoHome", ["NoHome", "NestError"]), ("Taken", ["Taken", "NestError"]), ("Twice", ["Twice", "NestError"]), ("NoRoom", ["NoRoom", "NestError"]), ("Unknown", ["Unknown", "NestError"])]
noncomputable def al08 : List Str := ["NestError", "NoNests", "NoName", "NoValue", "NoNest", "NoHome", "Taken", "Twice", "NoRoom", "Unknown"]
noncomputable def xt08 (s : Shared) : Bool := (xlAt q08 [] s && recOk (RowW.records (OpenRow.toRowW PySem.Challenge.rw_uf040007_08.row)) s) && excLook ex08 al08 s.heap
theorem left08 : LeftO PySem.Challenge.pw_uf040007_08 q08 [] xt08 (Hook.obs Hook.none) (Hook.val Hook.none) 7406 := by
  intro w
  unfold openEnds fencedOpening topFrom
  rw [PySem.W.Fast.te14364793385576792824, PySem.W.Fast.te10274390034422433532, PySem.W.Fast.te14082659384304107361, PySem.W.Fast.te1435165496053646825, PySem.W.Fast.te14289696077712309145, PySem.W.Fast.te8920871248978507458, PySem.W.Fast.te4187177175401517315]
  kernel_rfl
end
end Mine.Internal
set_option genSizeOf false
set_option genSizeOfSpec false
set_option genInjectivity false
namespace Mine.Internal
section
open PySem
inductive AV where
  | none
  | bool (b : Bool)
  | int (i : Int)
  | str (s : List Nat)
  | tup (vs : List AV)
  | loc (n : Nat)
  | rng (a b s : Int)
  | scr (xs : List Int)
set_option genInjectivity true in
inductive Key where
  | str (s : List Nat)
  | pair (a b : Int)
  deriving DecidableEq
inductive AObj where
  | list (vs : List AV)
  | dict (kvs : List (Key × AV)) (ep : Nat)
  | inst (k : Nat)
  | ns (fs : List (Str × AV))
  | set (n : Nat)
abbrev AHeap := List AObj
abbrev Locs := List (Option AV)
inductive Res (α : Type) where
  | ok (a : α) (h : AHeap)
  | exc (k : Str) (h : AHeap)
  | bad
inductive COp where
  | eq | ne | lt | le | gt | ge | isin | notin
inductive BOp where
  | add | sub | mul | div | mod
inductive BI where
  | len | list | dict | set | min
inductive BM where
  | append | get | index | pop
inductive Ty where
  | int | bool | str | tuple | list
mutual
inductive X where
  | none
  | bool (b : Bool)
  | int (i : Int)
  | str (s : List Nat)
  | loc (i : Nat)
  | bin (op : BOp) (l r : X)
  | neg (x : X)
  | not (x : X)
  | and (l r : X)
  | or (l r : X)
  | cmp (op : COp) (l r : X)
  | cmp2 (o1 o2 : COp) (l m r : X)
  | isn (b : Bool) (x : X)
  | call (f : Str) (as : Xs)
  | bi (b : BI) (as : Xs)
  | isi (x : X) (t : Ty)
  | new (as : Xs)
  | im (m : Str) (o : X) (as : Xs)
  | bm (m : BM) (o : X) (as : Xs)
  | attr (a : Str) (o : X)
  | sub (o i : X)
  | slice (o lo hi : X)
  | tup (es : Xs)
  | list (es : Xs)
  | dict0
  | range (as : Xs)
  | comp (e : X) (k j : Nat) (it : X) (cs : Xs)
inductive Xs where
  | nil
  | cons (x : X) (xs : Xs)
end
mutual
inductive S where
  | expr (x : X)
  | ret (x : X)
  | asg (i : Nat) (x : X)
  | setitem (o k x : X)
  | setattr (a : Str) (o x : X)
  | iff (c : X) (a b : Ss)
  | whil (c : X) (b : Ss)
  | forr (i : Nat) (it : X) (b : Ss)
  | raise (k : Str)
  | tryx (b : Ss) (hs : Hs)
  | asgt (is : List Nat) (x : X)
  | fort (is : List Nat) (it : X) (b : Ss)
  | cont
  | bad
inductive Ss where
  | nil
  | cons (s : S) (r : Ss)
inductive Hs where
  | nil
  | cons (ks : List Str) (b : Ss) (r : Hs)
end
structure FDef where
  params : Nat
  slots : Nat
  body : Ss
end
section
open PySem
structure Cx where
  sc : Scope
  loc : List (Str × Nat)
  n : Nat
  funs : List Str
  meths : List Str
  attrs : List Str
  cls : Str
  consts : List (Str × Const)
  excs : List (Str × List Str)
noncomputable def isLocKind : NameKind -> Bool
  | .local | .cell | .free => true
  | _ => false
noncomputable def plainName (x : Str) : Bool := x != ("__debug__" : Str) && x != ("__classdict__" : Str)
noncomputable def Cx.slot (c : Cx) (x : Str) : Option Nat := (c.sc.names.lookup x).bind fun k => if isLocKind k && plainName x then c.loc.lookup x else none
noncomputable def Cx.isGlob (c : Cx) (x : Str) : Bool := c.sc.names.lookup x == some .globalImplicit && plainName x
noncomputable def Cx.slotW (c : Cx) (x : Str) : Option Nat :=
  match c.sc.names.lookup x with
  | some .local | some .cell => c.slot x
  | _ => none
noncomputable def isComp : Expr -> Bool
  | .ListComp .. | .SetComp .. | .DictComp .. | .GeneratorExp .. => true
  | _ => false
noncomputable def compBOp : Operator -> Option BOp
  | .Add => some .add | .Sub => some .sub | .Mult => some .mul | .FloorDiv => some .div | .Mod => some .mod
  | _ => none
noncomputable def compCOp : CmpOp -> Option COp
  | .Eq => some .eq | .NotEq => some .ne | .Lt => some .lt | .LtE => some .le | .Gt => some .gt | .GtE => some .ge
  | .In => some .isin | .NotIn => some .notin
  | _ => none
noncomputable def biOf (x : Str) : Option BI := if x == ("len" : Str) then some .len else if x == ("list" : Str) then some .list else if x == ("dict" : Str) then some .dict else if x == ("set" : Str) then some .set else if x == ("min" : Str) then some .min else none
noncomputable def tyOf (x : Str) : Option Ty := if x == ("int" : Str) then some .int else if x == ("bool" : Str) then some .bool else if x == ("str" : Str) then some .str else if x == ("tuple" : Str) then some .tuple else if x == ("list" : Str) then some .list else none
noncomputable def tgtName : Expr -> Option Str
  | .Name x _ => some x
  | _ => none
noncomputable def compTy (c : Cx) (e : Expr) : Option Ty := (tgtName e).bind fun x => if c.isGlob x then tyOf x else none
noncomputable def ownNames (scope : Scope) : List Str := scope.names.filterMap fun p => if p.2 == .local && p.1 != (".0" : Str) then some p.1 else none
noncomputable def innerCx (c : Cx) (scope : Scope) : Cx :=
  { c with sc := scope, loc := (ownNames scope).zipIdx c.n ++ c.loc, n := c.n + (ownNames scope).length }
noncomputable def innerName (c : Cx) (p : Str × NameKind) : Bool := match p.2 with
  | .local => p.1 != (".0" : Str) || (c.loc.lookup p.1).isNone
  | .free => c.sc.names.lookup p.1 == some .cell && (c.slot p.1).isSome
  | .globalImplicit => true
  | _ => false
noncomputable def innerOk (c : Cx) (scope : Scope) : Bool :=
  scope.kind == .function && decide (scope.names.map (·.1)).Nodup && scope.names.all (innerName c)
noncomputable def compTyArgs (c : Cx) (as : List Expr) : Option Ty := match as with
  | [] => none
  | _ :: r => match r with
    | [] => none
    | t :: r => match r with
      | [] => compTy c t
      | _ => none
noncomputable def newOf (as : Xs) : Option X := match as with
  | .nil => none
  | as => some (.new as)
noncomputable def compCall (c : Cx) (f : Str) (as : Xs) : Option X :=
  if c.funs.contains f && !c.meths.contains f then some (.call f as)
  else if f == c.cls then newOf as
  else if f == ("range" : Str) then some (.range as)
  else match biOf f with
    | some b => some (.bi b as)
    | none => none
noncomputable def notSuper : Expr -> Bool
  | .Name .. => true
  | .Subscript .. => true
  | .Attribute .. => true
  | .Call f _ _ _ => match f with
    | .Attribute .. => true
    | _ => false
  | _ => false
noncomputable def bmOf (x : Str) : Option BM := if x == ("append" : Str) then some .append else if x == ("get" : Str) then some .get else if x == ("index" : Str) then some .index else if x == ("pop" : Str) then some .pop else none
noncomputable def compMeth (c : Cx) (m : Str) (o : X) (as : Xs) : Option X :=
  if c.funs.contains m && c.meths.contains m then some (.im m o as)
  else match bmOf m with
    | some b => some (.bm b o as)
    | none => none
noncomputable def compConst : Const -> Option X
  | .none => some .none
  | .bool b => some (.bool b)
  | .int i => some (.int i)
  | .str s => some (.str s.cps.toList)
  | _ => none
noncomputable def compName (c : Cx) (x : Str) : Option X :=
  match c.slot x with
  | some i => some (.loc i)
  | none => if c.isGlob x then (c.consts.lookup x).bind compConst else none
noncomputable def compUn (op : UnaryOp) (x : X) : Option X := match op with
  | .USub => some (.neg x)
  | .Not => some (.not x)
  | _ => none
noncomputable def isNone : Expr -> Bool
  | .Constant v _ _ => match v with
    | .none => true
    | _ => false
  | _ => false
noncomputable def isnOf : CmpOp -> Option Bool
  | .Is => some true
  | .IsNot => some false
  | _ => none
noncomputable def compIsn (ops : List CmpOp) (rs : List Expr) (l : X) : Option X := match ops with
  | [] => none
  | op :: r => match r with
    | [] => match rs with
      | [] => none
      | e :: q => match q with
        | [] => if isNone e then (isnOf op).map fun b => .isn b l else none
        | _ => none
    | _ => none
noncomputable def compCmp1 (ops : List CmpOp) (l : X) (rs : Xs) : Option X := match ops with
  | [] => none
  | op :: ops => match rs with
    | .nil => none
    | .cons r rs => match ops with
      | [] => match rs with
        | .nil => (compCOp op).map fun o => .cmp o l r
        | _ => none
      | op2 :: ops => match ops with
        | [] => match rs with
          | .nil => none
          | .cons r2 rs => match rs with
            | .nil => do return .cmp2 (<- compCOp op) (<- compCOp op2) l r r2
            | _ => none
        | _ => none
noncomputable def compBool (f : Expr -> Option X) (op : BoolOp) : List Expr -> Option X
  | [] => none
  | x :: r => match r with
    | [] => f x
    | _ => do
      let a <- f x
      let b <- compBool f op r
      return match op with | .And => .and a b | .Or => .or a b
noncomputable def compEs (f : Expr -> Option X) : List Expr -> Option Xs
  | [] => some .nil
  | e :: r => do return .cons (<- f e) (<- compEs f r)
noncomputable def compHead (f : Expr -> Option X) : List Expr -> Option X
  | [] => none
  | e :: _ => f e
noncomputable def compPart (f : Expr -> Option X) : Option Expr -> Option X
  | none => some .none
  | some e => f e
noncomputable def asTgt : Expr -> Option Str
  | .Name x _ => some x
  | _ => none
noncomputable def compLC (f : Cx -> Expr -> Option X) (c : Cx) (elt : Expr) (gens : List Comprehension) (scope : Scope) : Option X := match gens with
  | [] => none
  | g :: r => match r with
    | [] => if g.is_async == 0 && innerOk c scope && decide (g.ifs.length <= 1) then do
        let x <- asTgt g.target
        if scope.names.lookup x == some .local then do
          return .comp (<- f (innerCx c scope) elt) (ownNames scope).length (<- (innerCx c scope).slotW x) (<- f c g.iter) (<- compEs (f (innerCx c scope)) g.ifs)
        else none
      else none
    | _ => none
noncomputable def stepE (f : Cx -> Expr -> Option X) (c : Cx) : Expr -> Option X
  | .Constant v _ _ => compConst v
  | .Name x _ => compName c x
  | .BinOp l op r _ => do return .bin (<- compBOp op) (<- f c l) (<- f c r)
  | .UnaryOp op x _ => do compUn op (<- f c x)
  | .BoolOp op vs _ => compBool (f c) op vs
  | .Compare l ops rs _ => do
    let x <- f c l
    match compIsn ops rs x with
    | some y => some y
    | none => do compCmp1 ops x (<- compEs (f c) rs)
  | .Call g as ks pos => match ks with
    | [] => match g with
      | .Name g _ => if !c.isGlob g then none
        else if g == ("isinstance" : Str) then do return .isi (<- compHead (f c) as) (<- compTyArgs c as)
        else do compCall c g (<- compEs (f c) as)
      | .Attribute o m ap => if !(ap.endLine == pos.line && notSuper o && decide (as.length < 20)) then none
        else do compMeth c m (<- f c o) (<- compEs (f c) as)
      | _ => none
    | _ => none
  | .Attribute o a _ => if c.attrs.contains a && notSuper o then do return .attr a (<- f c o) else none
  | .Subscript o i _ => match i with
    | .Slice lo hi st _ => match st with
      | none => do return .slice (<- f c o) (<- compPart (f c) lo) (<- compPart (f c) hi)
      | _ => none
    | i => do return .sub (<- f c o) (<- f c i)
  | .Tuple es _ _ => do return .tup (<- compEs (f c) es)
  | .List es _ => do return .list (<- compEs (f c) es)
  | .Dict ks vs _ => if ks.isEmpty && vs.isEmpty then some .dict0 else none
  | .ListComp elt gens scope _ => compLC f c elt gens scope
  | _ => none
noncomputable def compE : Nat -> Cx -> Expr -> Option X
  | 0, _, _ => none
  | n + 1, c, e => stepE (compE n) c e
noncomputable def deep : Nat := 30
noncomputable def putOk (c : Cx) (y : Str) (py : Pos) (v : Expr) : Bool := match v with
  | .ListComp _ _ scope pos => c.sc.names.lookup y == some .local && py.line == pos.line && !(scope.names.any fun p => p.1 == y && (p.2 == .local || p.2 == .cell))
  | _ => true
noncomputable def tgtOf (c : Cx) (t : Expr) : Option Nat := (tgtName t).bind c.slotW
noncomputable def isTup : Expr -> Bool
  | .Tuple .. => true
  | _ => false
noncomputable def tgtsOf (c : Cx) : List Expr -> Option (List Nat)
  | [] => some []
  | t :: r => do return (<- tgtOf c t) :: (<- tgtsOf c r)
noncomputable def compAsg (c : Cx) (ts : List Expr) (v : Expr) : Option S := match ts with
  | [t] => match t with
    | .Name x p => if putOk c x p v then do return .asg (<- c.slotW x) (<- compE deep c v) else none
    | .Subscript o k _ => if isComp v then none else do return .setitem (<- compE deep c o) (<- compE deep c k) (<- compE deep c v)
    | .Attribute o a _ => if c.attrs.contains a && notSuper o && !isComp v then do return .setattr a (<- compE deep c o) (<- compE deep c v) else none
    | .Tuple ts _ _ => if isComp v || isTup v then none else do return .asgt (<- tgtsOf c ts) (<- compE deep c v)
    | _ => none
  | _ => none
noncomputable def compSs (g : Stmt -> Option S) : List Stmt -> Option Ss
  | [] => some .nil
  | s :: r => do return .cons (<- g s) (<- compSs g r)
noncomputable def compExc (c : Cx) (e : Expr) : Option S := match e with
  | .Call f as ks _ => match f with
    | .Name k _ => match as with
      | [a] => match a with
        | .Constant v _ _ => match v with
          | .str _ => if ks.isEmpty && c.isGlob k && (c.excs.lookup k).isSome then some (.raise k) else none
          | _ => none
        | _ => none
      | _ => none
    | _ => none
  | _ => none
noncomputable def taken (excs : List (Str × List Str)) (j : Str) : List Str := (excs.map (·.1)).filter fun k => match excs.lookup k with
  | some ks => ks.contains j
  | none => false
noncomputable def compHs (g : Stmt -> Option S) (c : Cx) : List ExceptHandler -> Option Hs
  | [] => some .nil
  | h :: r => match h with
    | .ExceptHandler t n b _ => match t with
      | some t => match t with
        | .Name k _ => if c.isGlob k && n.isNone && !b.isEmpty && (c.excs.any fun p => p.2.contains k) then do
            return .cons (taken c.excs k) (<- compSs g b) (<- compHs g c r) else none
        | _ => none
      | none => none
noncomputable def stepS (g : Stmt -> Option S) (c : Cx) : Stmt -> Option S
  | .Expr x _ => if isComp x then none else do return .expr (<- compE deep c x)
  | .Return v _ => match v with
    | some x => do return .ret (<- compE deep c x)
    | none => none
  | .Assign ts v _ => compAsg c ts v
  | .If t a b _ => do return .iff (<- compE deep c t) (<- compSs g a) (<- compSs g b)
  | .While t b o _ => if o.isEmpty then do return .whil (<- compE deep c t) (<- compSs g b) else none
  | .For t it b o _ => if o.isEmpty then match t with
      | .Tuple ts _ _ => do return .fort (<- tgtsOf c ts) (<- compE deep c it) (<- compSs g b)
      | t => do return .forr (<- tgtOf c t) (<- compE deep c it) (<- compSs g b)
    else none
  | .Raise e cause _ => match cause with
    | some _ => none
    | none => e.bind (compExc c)
  | .Try b hs o f _ => if o.isEmpty && f.isEmpty && !hs.isEmpty then do return .tryx (<- compSs g b) (<- compHs g c hs) else none
  | .Continue _ => some .cont
  | _ => none
noncomputable def compS : Nat -> Cx -> Stmt -> Option S
  | 0, _, _ => none
  | n + 1, c, s => match stepS (compS n c) c s with
    | some x => some x
    | none => some .bad
noncomputable def slotNames (ps : List Str) (sc : Scope) : List Str :=
  ps ++ sc.names.filterMap fun p => if isLocKind p.2 && !ps.contains p.1 then some p.1 else none
noncomputable def defOk (args : Arguments) (sc : Scope) : Bool :=
  args.posonlyargs.isEmpty && args.kwonlyargs.isEmpty && args.vararg.isNone && args.kwarg.isNone && sc.kind == .function && !sc.isGenerator && !sc.isCoroutine &&
  decide (args.args.map (·.arg)).Nodup && decide (sc.names.map (·.1)).Nodup && sc.names.all (fun p => p.2 != .free) &&
  (args.args.map (·.arg)).all (fun x => sc.names.lookup x == some .local || sc.names.lookup x == some .cell)
structure Sh where
  funs : List Str
  meths : List Str
  attrs : List Str
  cls : Str
  consts : List (Str × Const)
  excs : List (Str × List Str)
noncomputable def defCx (sh : Sh) (ps : List Str) (sc : Scope) : Cx := { sc := sc, loc := (slotNames ps sc).zipIdx, n := (slotNames ps sc).length, funs := sh.funs, meths := sh.meths, attrs := sh.attrs, cls := sh.cls, consts := sh.consts, excs := sh.excs }
noncomputable def compDef (sh : Sh) (args : Arguments) (body : List Stmt) (sc : Scope) : Option FDef := do
  let ps := args.args.map (·.arg)
  let ns := slotNames ps sc
  if !defOk args sc then none
  let b <- compSs (compS deep (defCx sh ps sc)) body
  return ⟨ps.length, ns.length, b⟩
abbrev Prog := List (Str × FDef)
end
section
open PySem
noncomputable def sizeLim : Nat := 2 ^ 20
namespace Res
noncomputable def bind {α β : Type} (r : Res α) (f : α -> AHeap -> Res β) : Res β := match r with
  | .ok a h => f a h
  | .exc k h => .exc k h
  | .bad => .bad
end Res
noncomputable def Key.av : Key -> AV
  | .str s => .str s
  | .pair a b => .tup [.int a, .int b]
noncomputable def intOf : AV -> Option Int
  | .int i => some i
  | _ => none
noncomputable def AV.key? : AV -> Option Key
  | .str s => some (.str s)
  | .tup xs => match xs with
    | [x, y] => (intOf x).bind fun a => (intOf y).bind fun b => some (.pair a b)
    | _ => Option.none
  | _ => Option.none
noncomputable def Key.sort : Key -> Bool
  | .str _ => false
  | .pair _ _ => true
noncomputable def sortOk (kvs : List (Key × AV)) (k : Key) : Bool := kvs.all fun p => p.1.sort == k.sort
noncomputable def and2 (a b : Option Bool) : Option Bool := a.bind fun x => b.map fun y => x && y
noncomputable def or2 (a b : Option Bool) : Option Bool := a.bind fun x => b.map fun y => x || y
noncomputable def eqAll (f : AV -> AV -> Option Bool) : List AV -> List AV -> Option Bool
  | [], ys => some ys.isEmpty
  | x :: xs, ys => match ys with
    | [] => some false
    | y :: ys => and2 (f x y) (eqAll f xs ys)
noncomputable def listAt (h : AHeap) (n : Nat) : Option (List AV) := match h[n]? with
  | some o => match o with
    | .list xs => some xs
    | _ => none
  | none => none
noncomputable def dictAt (h : AHeap) (n : Nat) : Option (List (Key × AV) × Nat) := match h[n]? with
  | some o => match o with
    | .dict kvs ep => some (kvs, ep)
    | _ => none
  | none => none
noncomputable def eqL (f : AV -> AV -> Option Bool) (a b : Option (List AV)) : Option Bool := match a, b with
  | some xs, some ys => if xs.length = ys.length then eqAll f xs ys else some false
  | _, _ => none
noncomputable def instAt (h : AHeap) (n : Nat) : Option (List (Str × AV)) := match h[n]? with
  | some o => match o with
    | .inst k => match h[k]? with
      | some o => match o with
        | .ns fs => some fs
        | _ => none
      | none => none
    | _ => none
  | none => none
noncomputable def someV (h : AHeap) (v : AV) : Option Bool := match v with
  | .int _ => some false
  | .str _ => some false
  | .tup _ => some false
  | .loc i => (listAt h i).map fun _ => false
  | _ => none
noncomputable def eqv (h : AHeap) : Nat -> AV -> AV -> Option Bool
  | 0, _, _ => none
  | n + 1, a, b => match a with
    | .none => match b with
      | .none => some true
      | b => someV h b
    | .int x => match b with
      | .int y => some (decide (x = y))
      | .none => some false
      | _ => none
    | .str x => match b with
      | .str y => some (decide (x = y))
      | .none => some false
      | _ => none
    | .tup xs => match b with
      | .tup ys => eqAll (eqv h n) xs ys
      | .none => some false
      | _ => none
    | .loc i => match b with
      | .loc j => eqL (eqv h n) (listAt h i) (listAt h j)
      | .none => (listAt h i).map fun _ => false
      | _ => none
    | _ => none
noncomputable def eqFuel : Nat := 6
noncomputable def cmpOrd (op : COp) (x y : Int) : Option Bool := match op with
  | .lt => some (decide (x < y))
  | .le => some (decide (x <= y))
  | .gt => some (decide (y < x))
  | .ge => some (decide (y <= x))
  | _ => none
noncomputable def ordAV (op : COp) (a b : AV) : Option Bool := match a with
  | .int x => match b with
    | .int y => cmpOrd op x y
    | _ => none
  | _ => none
noncomputable def findEq (h : AHeap) (v : AV) : List AV -> Option Bool
  | [] => some false
  | x :: r => or2 (eqv h eqFuel x v) (findEq h v r)
noncomputable def inDict (kvs : List (Key × AV)) (k : Option Key) : Option Bool := match k with
  | some k => if sortOk kvs k then some (kvs.lookup k).isSome else none
  | none => none
noncomputable def chrOf (v : AV) : Option Nat := match v with
  | .str x => match x with
    | [] => none
    | c :: r => match r with
      | [] => some c
      | _ => none
  | _ => none
noncomputable def isIn (h : AHeap) (v c : AV) : Option Bool := match c with
  | .tup xs => findEq h v xs
  | .loc n => match h[n]? with
    | some o => match o with
      | .list xs => findEq h v xs
      | .dict kvs _ => inDict kvs v.key?
      | _ => none
    | none => none
  | .str y => (chrOf v).map fun c => decide (c ∈ y)
  | _ => none
noncomputable def cmpAV (h : AHeap) (op : COp) (a b : AV) : Option Bool := match op with
  | .eq => eqv h eqFuel a b
  | .ne => (eqv h eqFuel a b).map not
  | .isin => isIn h a b
  | .notin => (isIn h a b).map not
  | op => ordAV op a b
noncomputable def mulOk (a b : Int) : Bool := decide (a.natAbs < 2 ^ 64) || decide (b.natAbs < 2 ^ 64)
noncomputable def newList (vs : List AV) (h : AHeap) : Res AV := if vs.length <= sizeLim then .ok (.loc h.length) (h ++ [.list vs]) else .bad
noncomputable def newListO (vs : Option (List AV)) (h : AHeap) : Res AV := match vs with
  | some vs => newList vs h
  | none => .bad
noncomputable def okO (v : Option AV) (h : AHeap) : Res AV := match v with
  | some v => .ok v h
  | none => .bad
noncomputable def binI (op : BOp) (x y : Int) (h : AHeap) : Res AV := match op with
  | .add => .ok (.int (x + y)) h
  | .sub => .ok (.int (x - y)) h
  | .mul => if mulOk x y then .ok (.int (x * y)) h else .bad
  | .div => if y = 0 then .bad else .ok (.int (x.fdiv y)) h
  | .mod => if y = 0 then .bad else .ok (.int (x.fmod y)) h
noncomputable def isAdd : BOp -> Bool
  | .add => true
  | _ => false
noncomputable def addS (x y : List Nat) (h : AHeap) : Res AV := if x.length + y.length <= sizeLim then .ok (.str (x ++ y)) h else .bad
noncomputable def catL (a b : Option (List AV)) : Option (List AV) := match a, b with
  | some xs, some ys => some (xs ++ ys)
  | _, _ => none
noncomputable def binAV (op : BOp) (a b : AV) (h : AHeap) : Res AV := match a with
  | .int x => match b with
    | .int y => binI op x y h
    | _ => .bad
  | .str x => match b with
    | .str y => if isAdd op then addS x y h else .bad
    | _ => .bad
  | .loc n => match b with
    | .loc m => if isAdd op then newListO (catL (listAt h n) (listAt h m)) h else .bad
    | _ => .bad
  | _ => .bad
noncomputable def negAV (a : AV) (h : AHeap) : Res AV := match a with
  | .int x => .ok (.int (-x)) h
  | _ => .bad
noncomputable def lenAV (a : AV) (h : AHeap) : Res AV := match a with
  | .str xs => if xs.length <= sizeLim then .ok (.int xs.length) h else .bad
  | .tup xs => if xs.length <= sizeLim then .ok (.int xs.length) h else .bad
  | .scr xs => if xs.length <= sizeLim then .ok (.int xs.length) h else .bad
  | .loc n => match h[n]? with
    | some o => match o with
      | .list xs => .ok (.int xs.length) h
      | .dict kvs _ => .ok (.int kvs.length) h
      | .set n => .ok (.int n) h
      | _ => .bad
    | none => .bad
  | _ => .bad
noncomputable def rngLen (a b s : Int) : Nat := if s = 1 then (b - a).toNat else if s = -1 then (a - b).toNat else 0
noncomputable def rngItems (a b s : Int) : List AV := (List.range (rngLen a b s)).map fun (k : Nat) => .int (a + s * k)
noncomputable def itemsAV (a : AV) (h : AHeap) : Option (List AV) := match a with
  | .str x => if x.all (fun c => decide (c < 128)) then some (x.map fun c => .str [c]) else none
  | .tup xs => some xs
  | .loc n => listAt h n
  | .rng a b s => if (s = 1 \/ s = -1) /\ a.natAbs <= sizeLim /\ b.natAbs <= sizeLim then some (rngItems a b s) else none
  | _ => none
noncomputable def dictPut (kvs : List (Key × AV)) (k : Key) (v : AV) : List (Key × AV) :=
  if kvs.any (fun p => p.1 == k) then kvs.map (fun p => if p.1 == k then (p.1, v) else p) else kvs ++ [(k, v)]
noncomputable def walkOf (h : AHeap) (n : Nat) : Option (List AV) := match h[n]? with
  | some o => match o with
    | .list xs => some xs
    | .dict kvs _ => some (kvs.map fun p => p.1.av)
    | _ => none
  | none => none
noncomputable def seatKey : Key -> Bool
  | .pair a b => (a == 0 || a == 1) && decide (0 <= b) && decide (b < 1000)
  | .str _ => false
noncomputable def copyD (d : Option (List (Key × AV) × Nat)) (h : AHeap) : Res AV := match d with
  | some d => if d.1.all fun p => seatKey p.1 then .ok (.loc h.length) (h ++ [.dict d.1 0]) else .bad
  | none => .bad
noncomputable def setD (h : AHeap) (n : Nat) (kvs : List (Key × AV)) (ep : Nat) (v : AV) (k : Option Key) : Option AHeap := match k with
  | some k => if sortOk kvs k && decide (kvs.length < sizeLim) then some (h.set n (.dict (dictPut kvs k v) (if (kvs.lookup k).isSome then ep else ep + 1))) else none
  | none => none
noncomputable def setItemAV (o k v : AV) (h : AHeap) : Option AHeap := match o with
  | .loc n => match h[n]? with
    | some ob => match ob with
      | .dict kvs ep => setD h n kvs ep v k.key?
      | _ => none
    | none => none
  | _ => none
noncomputable def keysL : List AV -> Option (List Key)
  | [] => some []
  | v :: r => (v.key?).bind fun k => (keysL r).bind fun ks => some (k :: ks)
noncomputable def setOk (ks : List Key) : Bool := (ks.all (fun k => !k.sort) || ks.all seatKey) && decide ks.Nodup && decide (ks.length <= 70)
noncomputable def setO (ks : Option (List Key)) (h : AHeap) : Res AV := match ks with
  | some ks => if setOk ks then .ok (.loc h.length) (h ++ [.set ks.length]) else .bad
  | none => .bad
noncomputable def minL (xs : List AV) : Option AV := match xs with
  | [] => none
  | x :: r => (intOf x).bind fun a => match r with
    | [] => some (.int a)
    | y :: r => match r with
      | [] => (intOf y).map fun b => .int (if b < a then b else a)
      | _ => none
noncomputable def biAV (b : BI) (as : List AV) (h : AHeap) : Res AV := match as with
  | [a] => match b with
    | .len => lenAV a h
    | .list => match a with
      | .loc n => newListO (walkOf h n) h
      | _ => .bad
    | .dict => match a with
      | .loc n => copyD (dictAt h n) h
      | _ => .bad
    | .set => match a with
      | .loc n => setO ((listAt h n).bind keysL) h
      | _ => .bad
    | .min => match a with
      | .loc n => okO ((listAt h n).bind minL) h
      | _ => .bad
  | _ => .bad
noncomputable def appendAV (o : AV) (as : List AV) (h : AHeap) : Res AV := match o with
  | .loc n => match as with
    | [v] => match listAt h n with
      | some xs => if xs.length < sizeLim then .ok .none (h.set n (.list (xs ++ [v]))) else .bad
      | none => .bad
    | _ => .bad
  | _ => .bad
noncomputable def getD (kvs : List (Key × AV)) (k : Option Key) : Option AV := match k with
  | some k => if sortOk kvs k then some ((kvs.lookup k).getD .none) else none
  | none => none
noncomputable def getAV (o : AV) (as : List AV) (h : AHeap) : Res AV := match o with
  | .loc n => match as with
    | [v] => match dictAt h n with
      | some d => okO (getD d.1 v.key?) h
      | none => .bad
    | _ => .bad
  | _ => .bad
noncomputable def indexAV (o : AV) (as : List AV) (h : AHeap) : Res AV := match o with
  | .str x => match as with
    | [v] => okO (((chrOf v).bind fun c => x.findIdx? (· == c)).map fun (i : Nat) => AV.int (i : Int)) h
    | _ => .bad
  | _ => .bad
noncomputable def dropKey (kvs : List (Key × AV)) (k : Key) : List (Key × AV) := kvs.filter fun p => !(p.1 == k)
noncomputable def popD (h : AHeap) (n : Nat) (kvs : List (Key × AV)) (ep : Nat) (k : Option Key) : Res AV := match k with
  | some k => if sortOk kvs k then match kvs.lookup k with
      | some v => .ok v (h.set n (.dict (dropKey kvs k) (ep + 1)))
      | none => .bad
    else .bad
  | none => .bad
noncomputable def popAV (o : AV) (as : List AV) (h : AHeap) : Res AV := match o with
  | .loc n => match as with
    | [v] => match dictAt h n with
      | some d => popD h n d.1 d.2 v.key?
      | none => .bad
    | _ => .bad
  | _ => .bad
noncomputable def bmAV (m : BM) (o : AV) (as : List AV) (h : AHeap) : Res AV := match m with
  | .append => appendAV o as h
  | .get => getAV o as h
  | .index => indexAV o as h
  | .pop => popAV o as h
noncomputable def bmOk (m : BM) (v : AV) (h : AHeap) : Bool := match v with
  | .loc n => match m with
    | .append => (listAt h n).isSome
    | .get => (dictAt h n).isSome
    | .index => false
    | .pop => (dictAt h n).isSome
  | .str _ => match m with
    | .index => true
    | _ => false
  | _ => false
noncomputable def idx? {α : Type} (xs : List α) (i : Int) : Option α :=
  if 0 <= i then xs[i.toNat]? else if 0 <= i + xs.length then xs[(i + xs.length).toNat]? else none
noncomputable def subD (kvs : List (Key × AV)) (k : Option Key) : Option AV := match k with
  | some k => if sortOk kvs k then kvs.lookup k else none
  | none => none
noncomputable def subI (xs : List AV) (i : Option Int) : Option AV := match i with
  | some i => if xs.length <= sizeLim then idx? xs i else none
  | none => none
noncomputable def subO (ob : AObj) (i : AV) (h : AHeap) : Res AV := match ob with
  | .list xs => okO (subI xs (intOf i)) h
  | .dict kvs _ => okO (subD kvs i.key?) h
  | _ => .bad
noncomputable def subAV (o i : AV) (h : AHeap) : Res AV := match o with
  | .str xs => okO (subI (xs.map fun c => .str [c]) (intOf i)) h
  | .tup xs => okO (subI xs (intOf i)) h
  | .scr xs => okO (subI (xs.map .int) (intOf i)) h
  | .loc n => match h[n]? with
    | some ob => subO ob i h
    | none => .bad
  | _ => .bad
noncomputable def cutList {α : Type} (xs : List α) (lo hi : Int) : List α := (xs.take (PySem.clipAt xs.length hi)).drop (PySem.clipAt xs.length lo)
noncomputable def loOf : AV -> Option Int
  | .none => some 0
  | .int i => some i
  | _ => none
noncomputable def hiOf (n : Nat) : AV -> Option Int
  | .none => some n
  | .int i => some i
  | _ => none
noncomputable def cutO {α : Type} (xs : List α) (lo hi : AV) : Option (List α) := if xs.length <= sizeLim then (loOf lo).bind fun a => (hiOf xs.length hi).map fun b => cutList xs a b else none
noncomputable def sliceAV (o lo hi : AV) (h : AHeap) : Res AV := match o with
  | .scr xs => newListO ((cutO xs lo hi).map fun ys => ys.map .int) h
  | .str x => okO ((cutO x lo hi).map .str) h
  | .loc n => newListO ((listAt h n).bind fun xs => cutO xs lo hi) h
  | _ => .bad
noncomputable def attrAV (a : Str) (v : AV) (h : AHeap) : Res AV := match v with
  | .loc n => okO ((instAt h n).bind fun fs => fs.lookup a) h
  | _ => .bad
noncomputable def hasMeth (m : Str) (v : AV) (h : AHeap) : Bool := match v with
  | .loc n => match instAt h n with
    | some fs => (fs.lookup m).isNone
    | none => false
  | _ => false
noncomputable def nsAt (h : AHeap) (n : Nat) : Option (Nat × List (Str × AV)) := match h[n]? with
  | some o => match o with
    | .inst k => match h[k]? with
      | some o => match o with
        | .ns fs => some (k, fs)
        | _ => none
      | none => none
    | _ => none
  | none => none
noncomputable def setAttrAV (a : Str) (o v : AV) (h : AHeap) : Option AHeap := match o with
  | .loc n => (nsAt h n).map fun p => h.set p.1 (.ns ((a, v) :: p.2))
  | _ => none
noncomputable def isNoneAV : AV -> Bool
  | .none => true
  | _ => false
noncomputable def isTy (h : AHeap) (a : AV) (t : Ty) : Option Bool := match a with
  | .int _ => match t with
    | .int => some true
    | _ => some false
  | .str _ => match t with
    | .str => some true
    | _ => some false
  | .tup _ => match t with
    | .tuple => some true
    | _ => some false
  | .loc n => match t with
    | .list => (listAt h n).map fun _ => true
    | _ => none
  | _ => none
structure Ctx where
  F : Str -> List AV -> AHeap -> Res AV
  Fq : Str -> List AV -> AHeap -> Res AV
  q : Bool
  fuel : Nat
noncomputable def Ctx.quiet (c : Ctx) : Ctx := ⟨c.Fq, c.Fq, true, c.fuel⟩
noncomputable def Ctx.still {α : Type} (c : Ctx) (r : Res α) : Res α := if c.q then .bad else r
noncomputable def Res.noExc {α : Type} (r : Res α) : Res α := match r with
  | .exc _ _ => .bad
  | r => r
noncomputable def rangeOf (as : List AV) : Option AV := match as with
  | [a] => match a with
    | .int b => if b.natAbs <= sizeLim then some (.rng 0 b 1) else none
    | _ => none
  | [a, b] => match a, b with
    | .int a, .int b => if a.natAbs <= sizeLim /\ b.natAbs <= sizeLim then some (.rng a b 1) else none
    | _, _ => none
  | [a, b, s] => match a, b, s with
    | .int a, .int b, .int s => if s = -1 /\ a.natAbs <= sizeLim /\ b.natAbs <= sizeLim then some (.rng a b (-1)) else none
    | _, _, _ => none
  | _ => none
noncomputable def nextAt (src : AV) (i : Nat) (h : AHeap) : Option (Option AV) := (itemsAV src h).map fun xs => xs[i]?
noncomputable def compLoop (body : AV -> AHeap -> Res (Option AV)) (src : AV) : Nat -> Nat -> List AV -> AHeap -> Res (List AV)
  | 0, _, _, _ => .bad
  | f + 1, i, acc, h => match nextAt src i h with
    | none => .bad
    | some none => .ok acc h
    | some (some v) => (body v h).bind fun r h => match r with
      | some x => if acc.length < sizeLim then compLoop body src f (i + 1) (acc ++ [x]) h else .bad
      | none => compLoop body src f (i + 1) acc h
noncomputable def locAt (l : Locs) (i : Nat) : Option AV := match l[i]? with
  | some o => o
  | none => none
noncomputable def notAV (v : AV) (h : AHeap) : Res AV := match v with
  | .bool b => .ok (.bool !b) h
  | _ => .bad
noncomputable def condV (v : AV) (x y : Res AV) : Res AV := match v with
  | .bool b => if b then x else y
  | _ => .bad
noncomputable def boolO (r : Option Bool) (h : AHeap) : Res AV := match r with
  | some r => .ok (.bool r) h
  | none => .bad
noncomputable def inner (l : Locs) (k j : Nat) (v : AV) : Locs := (l ++ List.replicate k none).set j (some v)
noncomputable def condB (v : AV) (x y : Res Bool) : Res Bool := match v with
  | .bool b => if b then x else y
  | _ => .bad
noncomputable def ifB (b : Bool) (h : AHeap) (x : Res AV) : Res (Option AV) := if b then x.bind fun x h => .ok (some x) h else .ok none h
noncomputable def biStill : BI -> Bool
  | .len => false
  | _ => true
noncomputable def made (h : AHeap) : AHeap := h ++ [.ns [], .inst h.length]
noncomputable def initOk (n : Nat) (r : AV) (h : AHeap) : Res AV := if isNoneAV r then .ok (.loc n) h else .bad
noncomputable def cmpAnd (r : Option Bool) (h : AHeap) (k : Res AV) : Res AV := match r with
  | some b => if b then k else .ok (.bool false) h
  | none => .bad
mutual
noncomputable def evalX (c : Ctx) : X -> Locs -> AHeap -> Res AV
  | .none, _, h => .ok .none h
  | .bool b, _, h => .ok (.bool b) h
  | .int i, _, h => .ok (.int i) h
  | .str s, _, h => .ok (.str s) h
  | .loc i, l, h => okO (locAt l i) h
  | .bin op a b, l, h => (evalX c a l h).bind fun x h => (evalX c b l h).bind fun y h => binAV op x y h
  | .neg a, l, h => (evalX c a l h).bind negAV
  | .not a, l, h => (evalX c a l h).bind notAV
  | .and a b, l, h => (evalX c a l h).bind fun x h => condV x (evalX c b l h) (.ok (.bool false) h)
  | .or a b, l, h => (evalX c a l h).bind fun x h => condV x (.ok (.bool true) h) (evalX c b l h)
  | .cmp op a b, l, h => (evalX c a l h).bind fun x h => (evalX c b l h).bind fun y h => boolO (cmpAV h op x y) h
  | .cmp2 o1 o2 a b d, l, h => (evalX c a l h).bind fun x h => (evalX c b l h).bind fun y h => cmpAnd (cmpAV h o1 x y) h ((evalX c d l h).bind fun z h => boolO (cmpAV h o2 y z) h)
  | .isn b x, l, h => (evalX c x l h).bind fun v h => .ok (.bool (isNoneAV v == b)) h
  | .call f as, l, h => (evalXs c as l h).bind fun vs h => c.F f vs h
  | .bi b as, l, h => (evalXs c as l h).bind fun vs h => if biStill b && c.q then .bad else biAV b vs h
  | .isi x t, l, h => (evalX c x l h).bind fun v h => boolO (isTy h v t) h
  | .new as, l, h => (evalXs c as l h).bind fun vs h => (c.F "__init__" (.loc (h.length + 1) :: vs) (made h)).bind fun r h' => initOk (h.length + 1) r h'
  | .im m o as, l, h => (evalX c o l h).bind fun v h => if hasMeth m v h then (evalXs c as l h).bind fun vs h => c.F m (v :: vs) h else .bad
  | .bm m o as, l, h => (evalX c o l h).bind fun v h => if bmOk m v h then (evalXs c as l h).bind fun vs h => bmAV m v vs h else .bad
  | .attr a o, l, h => (evalX c o l h).bind fun v h => attrAV a v h
  | .sub o i, l, h => (evalX c o l h).bind fun v h => (evalX c i l h).bind fun k h => subAV v k h
  | .slice o a b, l, h => (evalX c o l h).bind fun v h => (evalX c a l h).bind fun x h => (evalX c b l h).bind fun y h => sliceAV v x y h
  | .tup es, l, h => (evalXs c es l h).bind fun vs h => if vs.length <= sizeLim then .ok (.tup vs) h else .bad
  | .list es, l, h => (evalXs c es l h).bind fun vs h => newList vs h
  | .dict0, _, h => .ok (.loc h.length) (h ++ [.dict [] 0])
  | .range as, l, h => (evalXs c as l h).bind fun vs h => okO (rangeOf vs) h
  | .comp e k j it cs, l, h => (evalX c it l h).noExc.bind fun src h => if c.q then .bad else
    (compLoop (fun v h => (evalConds c cs (inner l k j v) h).bind fun b h => ifB b h (evalX c e (inner l k j v) h)) src c.fuel 0 [] h).noExc.bind fun vs h => newList vs h
noncomputable def evalXs (c : Ctx) : Xs -> Locs -> AHeap -> Res (List AV)
  | .nil, _, h => .ok [] h
  | .cons x r, l, h => (evalX c x l h).bind fun v h => (evalXs c r l h).bind fun vs h => .ok (v :: vs) h
noncomputable def evalConds (c : Ctx) : Xs -> Locs -> AHeap -> Res Bool
  | .nil, _, h => .ok true h
  | .cons x r, l, h => (evalX c x l h).bind fun v h => condB v (evalConds c r l h) (.ok false h)
end
inductive Flow where
  | next
  | ret (v : AV)
  | cont
inductive SR where
  | ok (f : Flow) (l : Locs) (h : AHeap)
  | exc (k : Str) (l : Locs) (h : AHeap)
  | bad
noncomputable def Res.st {α : Type} (r : Res α) (l : Locs) (f : α -> AHeap -> SR) : SR := match r with
  | .ok a h => f a h
  | .exc k h => .exc k l h
  | .bad => .bad
noncomputable def heapO (l : Locs) (h : Option AHeap) : SR := match h with
  | some h => .ok .next l h
  | none => .bad
noncomputable def condS (v : AV) (x y : SR) : SR := match v with
  | .bool b => if b then x else y
  | _ => .bad
noncomputable def SR.turn (r : SR) (k : Locs -> AHeap -> SR) : SR := match r with
  | .ok f l h => match f with
    | .next => k l h
    | .ret v => .ok (.ret v) l h
    | .cont => .ok .cont l h
  | .exc k l h => .exc k l h
  | .bad => .bad
noncomputable def SR.lap (r : SR) (k : Locs -> AHeap -> SR) : SR := match r with
  | .ok f l h => match f with
    | .next => k l h
    | .ret v => .ok (.ret v) l h
    | .cont => k l h
  | .exc k l h => .exc k l h
  | .bad => .bad
noncomputable def SR.noExc (r : SR) : SR := match r with
  | .exc _ _ _ => .bad
  | r => r
noncomputable def whileLoop (test : Locs -> AHeap -> Res AV) (body : Locs -> AHeap -> SR) : Nat -> Locs -> AHeap -> SR
  | 0, _, _ => .bad
  | f + 1, l, h => (test l h).st l fun v h => condS v ((body l h).lap (whileLoop test body f)) (.ok .next l h)
noncomputable def forLoop (put : Locs -> AV -> Option Locs) (body : Locs -> AHeap -> SR) (src : AV) : Nat -> Nat -> Locs -> AHeap -> SR
  | 0, _, _, _ => .bad
  | f + 1, k, l, h => match nextAt src k h with
    | none => .bad
    | some r => match r with
      | none => .ok .next l h
      | some v => match put l v with
        | some l' => (body l' h).lap (forLoop put body src f (k + 1))
        | none => .bad
noncomputable def put1 (i : Nat) (l : Locs) (v : AV) : Option Locs := some (l.set i (some v))
noncomputable def putAll : List Nat -> List AV -> Locs -> Locs
  | i :: is, v :: vs, l => putAll is vs (l.set i (some v))
  | _, _, l => l
noncomputable def puts (is : List Nat) (l : Locs) (v : AV) : Option Locs := match v with
  | .tup vs => if is.length = vs.length then some (putAll is vs l) else none
  | _ => none
noncomputable def locsO (l : Option Locs) (h : AHeap) : SR := match l with
  | some l => .ok .next l h
  | none => .bad
mutual
noncomputable def execS (c : Ctx) : S -> Locs -> AHeap -> SR
  | .expr x, l, h => (evalX c x l h).st l fun _ h => .ok .next l h
  | .ret x, l, h => (evalX c x l h).st l fun v h => .ok (.ret v) l h
  | .asg i x, l, h => (evalX c x l h).st l fun v h => .ok .next (l.set i (some v)) h
  | .setitem o k x, l, h => (evalX c x l h).st l fun v h => (evalX c o l h).st l fun o h => (evalX c k l h).st l fun k h => heapO l (setItemAV o k v h)
  | .iff t a b, l, h => (evalX c t l h).st l fun v h => condS v (execSs c a l h) (execSs c b l h)
  | .whil t b, l, h => whileLoop (fun l h => (evalX c t l h).noExc) (fun l h => (execSs c b l h).noExc) c.fuel l h
  | .forr i it b, l, h => (evalX c it l h).st l fun src h => if c.q then .bad else forLoop (put1 i) (fun l h => execSs c b l h) src c.fuel 0 l h
  | .setattr a o x, l, h => (evalX c x l h).st l fun v h => (evalX c o l h).st l fun o h => heapO l (setAttrAV a o v h)
  | .raise k, l, h => if c.q then .bad else .exc k l h
  | .tryx b hs, l, h => if c.q then .bad else match execSs c b l h with
    | .exc k l h => handle c hs k l h
    | r => r
  | .asgt is x, l, h => (evalX c x l h).st l fun v h => if c.q then .bad else locsO (puts is l v) h
  | .fort is it b, l, h => (evalX c it l h).st l fun src h => if c.q then .bad else forLoop (puts is) (fun l h => execSs c b l h) src c.fuel 0 l h
  | .cont, l, h => .ok .cont l h
  | .bad, _, _ => .bad
noncomputable def execSs (c : Ctx) : Ss -> Locs -> AHeap -> SR
  | .nil, l, h => .ok .next l h
  | .cons s r, l, h => (execS c s l h).turn fun l h => execSs c r l h
noncomputable def handle (c : Ctx) : Hs -> Str -> Locs -> AHeap -> SR
  | .nil, _, _, _ => .bad
  | .cons ks b r, k, l, h => if ks.contains k then (execSs c.quiet b l h).noExc else handle c r k l h
end
noncomputable def retR (r : SR) : Res AV := match r with
  | .ok f _ h => match f with
    | .ret v => .ok v h
    | .next => .ok .none h
    | .cont => .bad
  | .exc k _ h => .exc k h
  | .bad => .bad
noncomputable def runDef (c : Ctx) (d : FDef) (as : List AV) (h : AHeap) : Res AV :=
  if as.length = d.params then retR (execSs c d.body (as.map some ++ List.replicate (d.slots - d.params) none) h)
  else .bad
noncomputable def fuelOf : Nat := 100000
noncomputable def semF (p : Prog) : Nat -> Bool -> Str -> List AV -> AHeap -> Res AV
  | 0 => fun _ _ _ _ => .bad
  | n + 1 => fun q f as h => match p.lookup f with
    | some d => runDef ⟨semF p n q, semF p n true, q, fuelOf⟩ d as h
    | none => .bad
noncomputable abbrev cF (p : Prog) (n F : Nat) : Ctx := ⟨semF p n false, semF p n true, false, F⟩
end
section
open PySem
theorem none_ne {α : Type} {r : α} {C : Prop} (h : none = some r) : C := nomatch h
theorem iteS [Decidable p] {α : Type} {a b : Option α} {x : α} {G : Prop} (h : (if p then a else b) = some x) (t : p -> a = some x -> G) (e : ¬ p -> b = some x -> G) : G := by
  by_cases c : p
  . exact t c ((if_pos c).symm.trans h)
  . exact e c ((if_neg c).symm.trans h)
theorem iteN {p : Prop} [Decidable p] {α : Type} {a : Option α} {x : α} (h : (if p then a else none) = some x) : p /\ a = some x := iteS h (fun c q => ⟨c, q⟩) fun _ q => none_ne q
theorem iteB {f g : Str} {α : Type} {a b : Option α} {x : α} {G : Prop} (h : (if (f == g) = true then a else b) = some x) (t : f = g -> a = some x -> G) (e : b = some x -> G) : G := iteS h (fun c => t (eq_of_beq c)) fun _ => e
section
variable {α β : Type} {a : α} {h : AHeap} {l : Locs} {c : Ctx}
theorem bok {f : α -> AHeap -> Res β} : (Res.ok a h).bind f = f a h := rfl
theorem sok {f : α -> AHeap -> SR} : (Res.ok a h).st l f = f a h := rfl
theorem bexc {f : α -> AHeap -> Res β} {k : Str} : (Res.exc k h : Res α).bind f = .exc k h := rfl
theorem sexc {f : α -> AHeap -> SR} {k : Str} : (Res.exc k h : Res α).st l f = .exc k l h := rfl
theorem turn_next {k : Locs -> AHeap -> SR} : (SR.ok .next l h).turn k = k l h := rfl
theorem turn_cont {k : Locs -> AHeap -> SR} : (SR.ok .cont l h).turn k = .ok .cont l h := rfl
theorem turn_exc {k : Locs -> AHeap -> SR} {x : Str} : (SR.exc x l h).turn k = .exc x l h := rfl
theorem lap_next {k : Locs -> AHeap -> SR} : (SR.ok .next l h).lap k = k l h := rfl
theorem lap_cont {k : Locs -> AHeap -> SR} : (SR.ok .cont l h).lap k = k l h := rfl
theorem lap_ret {k : Locs -> AHeap -> SR} {v : AV} : (SR.ok (.ret v) l h).lap k = .ok (.ret v) l h := rfl
theorem lap_exc {k : Locs -> AHeap -> SR} {x : Str} : (SR.exc x l h).lap k = .exc x l h := rfl
theorem turn_ret {k : Locs -> AHeap -> SR} {v : AV} : (SR.ok (.ret v) l h).turn k = .ok (.ret v) l h := rfl
theorem cond_t {x y : SR} : condS (.bool true) x y = x := rfl
theorem cond_f {x y : SR} : condS (.bool false) x y = y := rfl
theorem condV_t {x y : Res AV} : condV (.bool true) x y = x := rfl
theorem condV_f {x y : Res AV} : condV (.bool false) x y = y := rfl
theorem for_succ {put : Locs -> AV -> Option Locs} {body : Locs -> AHeap -> SR} {src : AV} {f k : Nat} : forLoop put body src (f + 1) k l h = (match nextAt src k h with
    | none => .bad
    | some r => match r with
      | none => .ok .next l h
      | some v => match put l v with
        | some l' => (body l' h).lap (forLoop put body src f (k + 1))
        | none => .bad) := rfl
theorem comp_succ {body : AV -> AHeap -> Res (Option AV)} {src : AV} {f i : Nat} {acc : List AV} : compLoop body src (f + 1) i acc h = (match nextAt src i h with
    | none => .bad
    | some none => .ok acc h
    | some (some v) => (body v h).bind fun r h => match r with
      | some x => if acc.length < sizeLim then compLoop body src f (i + 1) (acc ++ [x]) h else .bad
      | none => compLoop body src f (i + 1) acc h) := rfl
theorem cond_if {p : Prop} [Decidable p] {x y : SR} : condS (.bool (decide p)) x y = if p then x else y := by
  by_cases hp : p
  . rw [decide_eq_true hp, if_pos hp]; rfl
  . rw [decide_eq_false hp, if_neg hp]; rfl
theorem boolO_some {b : Bool} : boolO (some b) h = .ok (.bool b) h := rfl
theorem okO_some {b : AV} : okO (some b) h = .ok b h := rfl
theorem heapO_some : heapO l (some h) = .ok .next l h := rfl
theorem notAV_bool {b : Bool} : notAV (.bool b) h = .ok (.bool !b) h := rfl
theorem negAV_int {b : Int} : negAV (.int b) h = .ok (.int (-b)) h := rfl
theorem retR_ret {v : AV} : retR (.ok (.ret v) l h) = .ok v h := rfl
theorem retR_next : retR (.ok .next l h) = .ok .none h := rfl
theorem loc0 {o : AV} {r : Locs} : locAt (some o :: r) 0 = some o := rfl
theorem locS {o : Option AV} {r : Locs} {i : Nat} : locAt (o :: r) (i + 1) = locAt r i := rfl
theorem ss_nil : execSs c .nil l h = .ok .next l h := rfl
theorem ss_cons {s : S} {r : Ss} : execSs c (.cons s r) l h = (execS c s l h).turn fun l h => execSs c r l h := rfl
theorem s_expr {x : X} : execS c (.expr x) l h = (evalX c x l h).st l fun _ h => .ok .next l h := rfl
theorem s_ret {x : X} : execS c (.ret x) l h = (evalX c x l h).st l fun v h => .ok (.ret v) l h := rfl
theorem s_asg {i : Nat} {x : X} : execS c (.asg i x) l h = (evalX c x l h).st l fun v h => .ok .next (l.set i (some v)) h := rfl
theorem s_set {o k x : X} : execS c (.setitem o k x) l h = (evalX c x l h).st l fun v h => (evalX c o l h).st l fun o h => (evalX c k l h).st l fun k h => heapO l (setItemAV o k v h) := rfl
theorem s_iff {t : X} {x y : Ss} : execS c (.iff t x y) l h = (evalX c t l h).st l fun v h => condS v (execSs c x l h) (execSs c y l h) := rfl
theorem s_whil {t : X} {b : Ss} : execS c (.whil t b) l h = whileLoop (fun l h => (evalX c t l h).noExc) (fun l h => (execSs c b l h).noExc) c.fuel l h := rfl
theorem s_for {i : Nat} {it : X} {b : Ss} : execS c (.forr i it b) l h = (evalX c it l h).st l fun src h => if c.q then .bad else forLoop (put1 i) (fun l h => execSs c b l h) src c.fuel 0 l h := rfl
theorem s_fort {is : List Nat} {it : X} {b : Ss} : execS c (.fort is it b) l h = (evalX c it l h).st l fun src h => if c.q then .bad else forLoop (puts is) (fun l h => execSs c b l h) src c.fuel 0 l h := rfl
theorem s_asgt {is : List Nat} {x : X} : execS c (.asgt is x) l h = (evalX c x l h).st l fun v h => if c.q then .bad else locsO (puts is l v) h := rfl
theorem s_raise {k : Str} : execS c (.raise k) l h = if c.q then .bad else .exc k l h := rfl
theorem s_cont : execS c .cont l h = .ok .cont l h := rfl
theorem s_try {b : Ss} {hs : Hs} : execS c (.tryx b hs) l h = if c.q then .bad else match execSs c b l h with
    | .exc k l h => handle c hs k l h
    | r => r := rfl
theorem h_cons {ks : List Str} {b : Ss} {r : Hs} {k : Str} : handle c (.cons ks b r) k l h = if ks.contains k then (execSs c.quiet b l h).noExc else handle c r k l h := rfl
theorem s_seta {a : Str} {o x : X} : execS c (.setattr a o x) l h = (evalX c x l h).st l fun v h => (evalX c o l h).st l fun o h => heapO l (setAttrAV a o v h) := rfl
theorem x_none : evalX c .none l h = .ok .none h := rfl
theorem x_bool {b : Bool} : evalX c (.bool b) l h = .ok (.bool b) h := rfl
theorem x_int {b : Int} : evalX c (.int b) l h = .ok (.int b) h := rfl
theorem x_str {b : List Nat} : evalX c (.str b) l h = .ok (.str b) h := rfl
theorem x_loc {i : Nat} : evalX c (.loc i) l h = okO (locAt l i) h := rfl
theorem x_bin {op : BOp} {x y : X} : evalX c (.bin op x y) l h = (evalX c x l h).bind fun x h => (evalX c y l h).bind fun y h => binAV op x y h := rfl
theorem x_neg {x : X} : evalX c (.neg x) l h = (evalX c x l h).bind negAV := rfl
theorem x_not {x : X} : evalX c (.not x) l h = (evalX c x l h).bind notAV := rfl
theorem x_and {x y : X} : evalX c (.and x y) l h = (evalX c x l h).bind fun v h => condV v (evalX c y l h) (.ok (.bool false) h) := rfl
theorem x_or {x y : X} : evalX c (.or x y) l h = (evalX c x l h).bind fun v h => condV v (.ok (.bool true) h) (evalX c y l h) := rfl
theorem x_cmp {op : COp} {x y : X} : evalX c (.cmp op x y) l h = (evalX c x l h).bind fun x h => (evalX c y l h).bind fun y h => boolO (cmpAV h op x y) h := rfl
theorem x_call {f : Str} {as : Xs} : evalX c (.call f as) l h = (evalXs c as l h).bind fun vs h => c.F f vs h := rfl
theorem x_bi {b : BI} {as : Xs} : evalX c (.bi b as) l h = (evalXs c as l h).bind fun vs h => if biStill b && c.q then .bad else biAV b vs h := rfl
theorem x_isi {x : X} {t : Ty} : evalX c (.isi x t) l h = (evalX c x l h).bind fun v h => boolO (isTy h v t) h := rfl
theorem x_cmp2 {o1 o2 : COp} {x y z : X} : evalX c (.cmp2 o1 o2 x y z) l h = (evalX c x l h).bind fun x h => (evalX c y l h).bind fun y h => cmpAnd (cmpAV h o1 x y) h ((evalX c z l h).bind fun z h => boolO (cmpAV h o2 y z) h) := rfl
theorem x_isn {b : Bool} {x : X} : evalX c (.isn b x) l h = (evalX c x l h).bind fun v h => .ok (.bool (isNoneAV v == b)) h := rfl
theorem x_new {as : Xs} : evalX c (.new as) l h = (evalXs c as l h).bind fun vs h => (c.F "__init__" (.loc (h.length + 1) :: vs) (made h)).bind fun r h' => initOk (h.length + 1) r h' := rfl
theorem x_im {m : Str} {o : X} {as : Xs} : evalX c (.im m o as) l h = (evalX c o l h).bind fun v h => if hasMeth m v h then (evalXs c as l h).bind fun vs h => c.F m (v :: vs) h else .bad := rfl
theorem x_bm {m : BM} {o : X} {as : Xs} : evalX c (.bm m o as) l h = (evalX c o l h).bind fun v h => if bmOk m v h then (evalXs c as l h).bind fun vs h => bmAV m v vs h else .bad := rfl
theorem x_attr {a : Str} {o : X} : evalX c (.attr a o) l h = (evalX c o l h).bind fun v h => attrAV a v h := rfl
theorem x_slice {x y z : X} : evalX c (.slice x y z) l h = (evalX c x l h).bind fun v h => (evalX c y l h).bind fun x h => (evalX c z l h).bind fun y h => sliceAV v x y h := rfl
theorem x_comp {e it : X} {k j : Nat} {cs : Xs} : evalX c (.comp e k j it cs) l h = (evalX c it l h).noExc.bind fun src h => if c.q then .bad else
    (compLoop (fun v h => (evalConds c cs (inner l k j v) h).bind fun b h => ifB b h (evalX c e (inner l k j v) h)) src c.fuel 0 [] h).noExc.bind fun vs h => newList vs h := rfl
theorem x_sub {x y : X} : evalX c (.sub x y) l h = (evalX c x l h).bind fun x h => (evalX c y l h).bind fun y h => subAV x y h := rfl
theorem x_tup {as : Xs} : evalX c (.tup as) l h = (evalXs c as l h).bind fun vs h => if vs.length <= sizeLim then .ok (.tup vs) h else .bad := rfl
theorem x_list {as : Xs} : evalX c (.list as) l h = (evalXs c as l h).bind fun vs h => newList vs h := rfl
theorem x_dict0 : evalX c .dict0 l h = .ok (.loc h.length) (h ++ [.dict [] 0]) := rfl
theorem x_range {as : Xs} : evalX c (.range as) l h = (evalXs c as l h).bind fun vs h => okO (rangeOf vs) h := rfl
theorem xs_nil : evalXs c .nil l h = .ok [] h := rfl
theorem xs_cons {x : X} {xs : Xs} : evalXs c (.cons x xs) l h = (evalX c x l h).bind fun v h => (evalXs c xs l h).bind fun vs h => .ok (v :: vs) h := rfl
end
theorem semF_at {prog : Prog} {f : Str} {d : FDef} (h : prog.lookup f = some d) (n : Nat) (q : Bool) (as : List AV) (hp : AHeap) : semF prog (n + 1) q f as hp = runDef ⟨semF prog n q, semF prog n true, q, fuelOf⟩ d as hp := by
  show (match prog.lookup f with | some d => runDef ⟨semF prog n q, semF prog n true, q, fuelOf⟩ d as hp | none => .bad) = _
  rw [h]
end
section
open PySem PySem.Spec PyProof.Rows
abbrev Sg := List (Addr × Nat)
structure Bs where
  h₀ : Heap
  C : Addr
  attrs : List Str
abbrev ObjAt (h : Heap) (a : Addr) (cls : Value) (d : Data) : Prop := h.get? a = some { cls := cls, data := d }
mutual
noncomputable def RV (B : Bs) (h : Heap) (σ : Sg) : AV -> Value -> Prop
  | .none, v => v = .none
  | .bool b, v => v = .bool b
  | .int i, v => ∃ t, v = .int i t
  | .str s, v => ∃ t, v = .str ⟨s.toArray⟩ t
  | .tup xs, v => ∃ a ws n, v = .ref a /\ ObjAt h a (.type "tuple") (.seq ws n) /\ RVs B h σ xs ws.toList
  | .loc n, v => ∃ a off, v = .ref a /\ σ[n]? = some (a, off)
  | .rng a b s, v => ∃ r t u x, v = .ref r /\ IsRange h r a b s t u x
  | .scr xs, v => ∃ a items, v = .ref a /\ B.h₀.IsList a items /\ RIs xs items.toList
noncomputable def RVs (B : Bs) (h : Heap) (σ : Sg) : List AV -> List Value -> Prop
  | [], [] => True
  | x :: xs, w :: ws => RV B h σ x w /\ RVs B h σ xs ws
  | _, _ => False
noncomputable def RIs : List Int -> List Value -> Prop
  | [], [] => True
  | x :: xs, w :: ws => (∃ t, w = .int x t) /\ RIs xs ws
  | _, _ => False
end
noncomputable def fixed (o : Obj) : Prop := match o.data with
  | .seq _ _ => o.cls = .type "tuple"
  | .fields _ => o.cls = .type "range"
  | _ => False
noncomputable def Near (o : Obj) (r : Option Obj) : Prop := r = some o \/ ((∃ es ep, o.data = .dict es ep) /\ ∃ sl, r = some { o with slots := sl })
structure Grows (σ σ' : Sg) (X : List Addr) (h h' : Heap) : Prop where
  ext : ∃ τ, σ' = σ ++ τ /\ ∀ p ∈ τ, h.get? p.1 = none
  fix : ∀ b o, h.get? b = some o -> fixed o -> h'.get? b = some o
  oth : ∀ b o, h.get? b = some o -> b ∉ σ.map (·.1) -> b ∉ X -> Near o (h'.get? b)
  ex : ∀ b o, h.get? b = some o -> ∃ o', h'.get? b = some o'
theorem Near.refl : Near o (some o) := .inl rfl
theorem Near.trans (h1 : Near o r) (e : r = some o') (h2 : Near o' r') : Near o r' := by
  subst e
  rcases h1 with h1 | ⟨hc, sl, h1⟩
  . cases h1; exact h2
  . cases h1
    rcases h2 with h2 | ⟨_, sl', h2⟩
    . exact .inr ⟨hc, sl, h2⟩
    . exact .inr ⟨hc, sl', h2⟩
theorem Near.get (h : Near o r) : ∃ o', r = some o' /\ o'.cls = o.cls /\ o'.data = o.data /\ o'.dict = o.dict := by
  rcases h with h | ⟨_, sl, h⟩
  . exact ⟨o, h, rfl, rfl, rfl⟩
  . exact ⟨_, h, rfl, rfl, rfl⟩
theorem Grows.refl (σ : Sg) (X : List Addr) (h : Heap) : Grows σ σ X h h :=
  ⟨⟨[], by simp, fun _ hp => nomatch hp⟩, fun _ _ e _ => e, fun b o e _ _ => by rw [e]; exact .refl, fun b o e => ⟨o, e⟩⟩
theorem Grows.trans {X : List Addr} (x : Grows σ₁ σ₂ X h₁ h₂) (y : Grows σ₂ σ₃ X h₂ h₃) : Grows σ₁ σ₃ X h₁ h₃ := by
  refine xEA x.ext fun τ qq1 hτ => ?_; subst qq1
  refine xEA y.ext fun τ' qq1 hτ' => ?_; subst qq1
  refine ⟨⟨τ ++ τ', by simp, fun p hp => ?_⟩, fun b o e f => y.fix b o (x.fix b o e f) f, fun b o e h1 h2 => ?_, fun b o e => (x.ex b o e).elim fun o' e' => y.ex b o' e'⟩
  . rcases List.mem_append.mp hp with hp | hp
    . exact hτ p hp
    . rcases hq : h₁.get? p.1 with _ | o
      case none => rfl
      case some =>
        refine xE (x.ex _ o hq) fun o' e' => ?_
        rw [hτ' p hp] at e'; cases e'
  . have n := x.oth b o e h1 h2
    refine xEA n.get fun o' e' _ => ?_
    refine n.trans e' (y.oth b o' e' ?_ h2)
    rw [List.map_append, List.mem_append]
    rintro (hb | hb)
    . exact h1 hb
    . refine xEA (List.mem_map.mp hb) fun p hp qq1 => ?_; subst qq1
      rw [hτ p hp] at e; cases e
theorem Grows.drop {X Y : List Addr} (x : Grows σ σ' X h h') (hs : ∀ a ∈ X, a ∈ Y \/ h.get? a = none) : Grows σ σ' Y h h' :=
  ⟨x.ext, x.fix, fun b o e h1 h2 => x.oth b o e h1 fun hb => (hs b hb).elim h2 (fun q => by rw [q] at e; cases e), x.ex⟩
theorem Grows.more {X Y : List Addr} (x : Grows σ σ' X h h') (hs : ∀ a ∈ X, a ∈ Y) : Grows σ σ' Y h h' :=
  ⟨x.ext, x.fix, fun b o e h1 h2 => x.oth b o e h1 fun hb => h2 (hs b hb), x.ex⟩
theorem Grows.look {X : List Addr} (x : Grows σ σ' X h h') {n : Nat} (e : σ[n]? = some p) : σ'[n]? = some p := by
  refine xEA x.ext fun τ qq1 _ => ?_; subst qq1
  rw [List.getElem?_append_left (List.getElem?_eq_some_iff.mp e).1]; exact e
theorem objAt_fix {X : List Addr} (x : Grows σ σ' X h h') (o : ObjAt h a c d) (f : ∀ o : Obj, o.cls = c -> o.data = d -> fixed o) : ObjAt h' a c d :=
  x.fix a _ o (f _ rfl rfl)
theorem fixed_tuple (hc : o.cls = .type "tuple") (hd : o.data = .seq ws n) : fixed o := by
  unfold fixed; rw [hd]; exact hc
theorem fixed_fields (hd : o.data = .fields ws) (hc : o.cls = .type "range") : fixed o := by
  unfold fixed; rw [hd]; exact hc
abbrev Fixes (h h' : Heap) : Prop := ∀ b o, h.get? b = some o -> fixed o -> h'.get? b = some o
abbrev Looks' (σ σ' : Sg) : Prop := ∀ (n : Nat) p, σ[n]? = some p -> σ'[n]? = some p
mutual
theorem RV.mono (g : Fixes h h') (k : Looks' σ σ') : ∀ (x : AV) (v : Value), RV B h σ x v -> RV B h' σ' x v
  | .none, v, r => r
  | .bool b, v, r => r
  | .int i, v, r => r
  | .str s, v, r => r
  | .tup xs, v, r => xEEEAA r fun a ws n e o rs => ⟨a, ws, n, e, g a _ o (fixed_tuple rfl rfl), RVs.mono g k xs ws.toList rs⟩
  | .loc n, v, r => xEEA r fun a off e l => ⟨a, off, e, k n _ l⟩
  | .rng a b s, v, r => xEEEEA r fun r t u x e ho => ⟨r, t, u, x, e, g r _ ho (fixed_fields rfl rfl)⟩
  | .scr xs, v, r => r
theorem RVs.mono (g : Fixes h h') (k : Looks' σ σ') : ∀ (xs : List AV) (vs : List Value), RVs B h σ xs vs -> RVs B h' σ' xs vs
  | [], [], r => r
  | x :: xs, w :: ws, r => ⟨RV.mono g k x w r.1, RVs.mono g k xs ws r.2⟩
  | [], _ :: _, r => r.elim
  | _ :: _, [], r => r.elim
end
theorem RV.grows {X : List Addr} (g : Grows σ σ' X h h') (x : AV) (v : Value) (r : RV B h σ x v) : RV B h' σ' x v := RV.mono g.fix (fun _ _ => g.look) x v r
theorem RVs.grows {X : List Addr} (g : Grows σ σ' X h h') (x : List AV) (v : List Value) (r : RVs B h σ x v) : RVs B h' σ' x v := RVs.mono g.fix (fun _ _ => g.look) x v r
theorem RV.fixes (g : Fixes h h') (x : AV) (v : Value) (r : RV B h σ x v) : RV B h' σ x v := RV.mono g (fun _ _ e => e) x v r
theorem RVs.fixes (g : Fixes h h') (x : List AV) (v : List Value) (r : RVs B h σ x v) : RVs B h' σ x v := RVs.mono g (fun _ _ e => e) x v r
theorem RVs.length : ∀ {xs : List AV} {vs : List Value}, RVs B h σ xs vs -> xs.length = vs.length
  | [], [], _ => rfl
  | _ :: _, _ :: _, r => by simp [RVs.length r.2]
  | [], _ :: _, r => r.elim
  | _ :: _, [], r => r.elim
theorem RVs.nil (r : RVs B h σ [] vs) : vs = [] := by
  rcases vs with _ | ⟨w, ws⟩
  case nil => rfl
  case cons => exact r.elim
theorem RVs.cons (r : RVs B h σ (x :: xs) vs) : ∃ w ws, vs = w :: ws /\ RV B h σ x w /\ RVs B h σ xs ws := by
  rcases vs with _ | ⟨w, ws⟩
  case nil => exact r.elim
  case cons => exact ⟨w, ws, rfl, r⟩
theorem RVs.one (r : RVs B h σ [x] vs) : ∃ w, vs = [w] /\ RV B h σ x w := by
  refine xEEAA r.cons fun w ws qq1 r1 r2 => ?_; subst qq1
  rcases r2.nil with rfl
  exact ⟨w, rfl, r1⟩
theorem RVs.size {ws : Array Value} (r : RVs B h σ xs ws.toList) : xs.length = ws.size := r.length.trans Array.length_toList
theorem RVs.get : ∀ {xs : List AV} {vs : List Value}, RVs B h σ xs vs -> ∀ {i : Nat} {x : AV}, xs[i]? = some x -> ∃ v, vs[i]? = some v /\ RV B h σ x v
  | [], [], _, i, x, e => by simp at e
  | x :: xs, w :: ws, r, 0, y, e => by
    simp at e; subst e; exact ⟨w, by simp, r.1⟩
  | x :: xs, w :: ws, r, i + 1, y, e => by
    simp at e
    refine xEA (RVs.get r.2 e) fun v h1 h2 => ?_
    exact ⟨v, by simpa using h1, h2⟩
  | [], _ :: _, r, _, _, _ => r.elim
  | _ :: _, [], r, _, _, _ => r.elim
theorem RVs.append : ∀ {xs : List AV} {vs : List Value} {ys : List AV} {ws : List Value}, RVs B h σ xs vs -> RVs B h σ ys ws -> RVs B h σ (xs ++ ys) (vs ++ ws)
  | [], [], _, _, _, r => r
  | _ :: _, _ :: _, _, _, q, r => ⟨q.1, RVs.append q.2 r⟩
  | [], _ :: _, _, _, q, _ => q.elim
  | _ :: _, [], _, _, q, _ => q.elim
noncomputable def keyHash (w : World) : Key -> Int
  | .str s => hashStr w ⟨s.toArray⟩
  | .pair a b => reduceHash (Builtin.Tuple.tupleHashOf [hashInt a, hashInt b])
noncomputable def REs (w : World) (B : Bs) (h : Heap) (σ : Sg) : List (Key × AV) -> List DictEntry -> Prop
  | [], [] => True
  | p :: ps, e :: es => (e.hash = keyHash w p.1 /\ RV B h σ p.1.av e.key /\ RV B h σ p.2 e.val) /\ REs w B h σ ps es
  | _, _ => False
structure NsR (B : Bs) (h : Heap) (σ : Sg) (fs : List (Str × AV)) (mA : Str -> Option Value) : Prop where
  has : ∀ y av, fs.lookup y = some av -> ∃ v, mA y = some v /\ RV B h σ av v
  non : ∀ y, fs.lookup y = none -> mA y = none
  within : PySem.Within mA B.attrs
noncomputable def SetLen (o : Obj) (n : Nat) : Prop := ∃ es ep t, o.ExactSet /\ o.data = .set es ep t /\ t.fits es.size = true /\ es.size = n /\ n <= 70
theorem SetLen.not (h : SetLen o n) : ¬ fixed o := by
  refine xEEEAA h fun es ep t _ hd _ => ?_
  unfold fixed; rw [hd]; exact fun f => f
noncomputable def RO (w : World) (B : Bs) (h : Heap) (σ : Sg) (a : Addr) (off : Nat) : AObj -> Prop
  | .list xs => ∃ ws n, ObjAt h a (.type "list") (.seq ws n) /\ RVs B h σ xs ws.toList /\ xs.length <= sizeLine
  | .dict kvs ep => ∃ es, ObjAt h a (.type "dict") (.dict es (off + ep)) /\ REs w B h σ kvs es.toList /\ (kvs.map (·.1)).Nodup /\ (∀ p ∈ kvs, ∀ q ∈ kvs, p.1.sort = q.1.sort) /\ kvs.length <= sizeLine
  | .inst k => ∃ o off', h.get? a = some o /\ o.cls = .ref B.C /\ (∀ c, o.data ≠ .cls c) /\ o.dict = some off /\ off ≠ a /\ σ[k]? = some (off, off') /\ ∀ v, o.data ≠ .prim v
  | .ns fs => ∃ mA, h.Ns1 a mA /\ NsR B h σ fs mA
  | .set n => ∃ o, h.get? a = some o /\ SetLen o n
structure St (w : World) (B : Bs) (σ : Sg) (hp : AHeap) (h : Heap) : Prop where
  len : σ.length = hp.length
  nd : (σ.map (·.1)).Nodup
  obj : ∀ (n : Nat) a off o, σ[n]? = some (a, off) -> hp[n]? = some o -> RO w B h σ a off o
  base : B.h₀.StaysIn h
  new : ∀ p ∈ σ, B.h₀.get? p.1 = none
theorem REs.mono (g : Fixes h h') (k : Looks' σ σ') : ∀ {ps : List (Key × AV)} {es : List DictEntry}, REs w B h σ ps es -> REs w B h' σ' ps es
  | [], [], r => r
  | _ :: _, _ :: _, r => ⟨⟨r.1.1, RV.mono g k _ _ r.1.2.1, RV.mono g k _ _ r.1.2.2⟩, REs.mono g k r.2⟩
  | [], _ :: _, r => r.elim
  | _ :: _, [], r => r.elim
theorem REs.grows {X : List Addr} (g : Grows σ σ' X h h') {ps : List (Key × AV)} (r : REs w B h σ ps es) : REs w B h' σ' ps es := r.mono g.fix (fun _ _ => g.look)
theorem REs.length : ∀ {ps : List (Key × AV)} {es : List DictEntry}, REs w B h σ ps es -> ps.length = es.length
  | [], [], _ => rfl
  | _ :: _, _ :: _, r => by simp [REs.length r.2]
  | [], _ :: _, r => r.elim
  | _ :: _, [], r => r.elim
theorem REs.append : ∀ {ps : List (Key × AV)} {es : List DictEntry} {qs : List (Key × AV)} {fs : List DictEntry}, REs w B h σ ps es -> REs w B h σ qs fs -> REs w B h σ (ps ++ qs) (es ++ fs)
  | [], [], _, _, _, r => r
  | _ :: _, _ :: _, _, _, q, r => ⟨q.1, REs.append q.2 r⟩
  | [], _ :: _, _, _, q, _ => q.elim
  | _ :: _, [], _, _, q, _ => q.elim
theorem REs.get : ∀ {ps : List (Key × AV)} {es : List DictEntry}, REs w B h σ ps es -> ∀ {i : Nat} {p : Key × AV}, ps[i]? = some p ->
    ∃ e, es[i]? = some e /\ e.hash = keyHash w p.1 /\ RV B h σ p.1.av e.key /\ RV B h σ p.2 e.val
  | [], [], _, i, x, e => by simp at e
  | x :: xs, w :: ws, r, 0, y, e => by
    simp at e; subst e; exact ⟨w, by simp, r.1⟩
  | x :: xs, w :: ws, r, i + 1, y, e => by
    simp at e
    refine xEA (REs.get r.2 e) fun v h1 h2 => ?_
    exact ⟨v, by simpa using h1, h2⟩
  | [], _ :: _, r, _, _, _ => r.elim
  | _ :: _, [], r, _, _, _ => r.elim
theorem ns1_same {h h' : Heap} (e : h'.get? a = h.get? a) (x : h.Ns1 a m) : h'.Ns1 a m := by
  unfold Heap.Ns1 at x |-
  rw [e]; exact x
theorem ns1_there {h : Heap} (x : h.Ns1 a m) : ∃ ob, h.get? a = some ob /\ ¬ fixed ob := by
  refine xEEEAA x.ns fun o es ep ho hd _ => ?_
  exact ⟨o, ho, by unfold fixed; rw [hd]; exact fun f => f⟩
theorem not_fixed_ref (h : o.cls = .ref C) : ¬ fixed o := by
  unfold fixed
  rw [h]
  rcases o.data with _ | _ <;> first | exact fun e => e | exact fun e => nomatch e
theorem RO.mono {h h' : Heap} (g : Fixes h h') (k : Looks' σ σ') (e : h'.get? a = h.get? a) : ∀ {o : AObj}, RO w B h σ a off o -> RO w B h' σ' a off o
  | .list xs, r => xEEAA r fun ws n o r q => ⟨ws, n, (e.trans o), RVs.mono g k _ _ r, q⟩
  | .dict kvs ep, r => xEAA r fun es o r q => ⟨es, (e.trans o), r.mono g k, q⟩
  | .inst j, r => xEEAAAAAA r fun o off' h1 h2 h3 h4 h5 h6 h7 => ⟨o, off', e.trans h1, h2, h3, h4, h5, k _ _ h6, h7⟩
  | .ns fs, r => xEA r fun mA h1 h2 => ⟨mA, ns1_same e h1, fun y av q => xEA (h2.has y av q) fun v a b => ⟨v, a, RV.mono g k _ _ b⟩, h2.non, h2.within⟩
  | .set n, r => xEA r fun o h1 h2 => ⟨o, e.trans h1, h2⟩
theorem RO.keep {X : List Addr} {off : Nat} (g : Grows σ σ' X h h') (e : h'.get? a = h.get? a) (r : RO w B h σ a off o) : RO w B h' σ' a off o := r.mono g.fix (fun _ _ => g.look) e
theorem RO.fixes (g : Fixes h h') (e : h'.get? a = h.get? a) (r : RO w B h σ a off o) : RO w B h' σ a off o := r.mono g (fun _ _ e => e) e
theorem RO.there : ∀ {o : AObj}, RO w B h σ a off o -> ∃ ob, h.get? a = some ob /\ ¬ fixed ob
  | .list xs, r => xEEA r fun ws n ho r => ⟨_, ho, fun f => absurd (Value.type.inj f) (by decide)⟩
  | .dict kvs ep, r => xEA r fun es ho r => ⟨_, ho, fun f => f⟩
  | .inst j, r => xEEAA r fun o off' h1 h2 _ => ⟨o, h1, not_fixed_ref h2⟩
  | .ns fs, r => xEA r fun mA h1 h2 => ns1_there h1
  | .set n, r => xEA r fun o h1 h2 => ⟨o, h1, h2.not⟩
theorem St.there (S : St w B σ hp h) (hm : p ∈ σ) : ∃ ob, h.get? p.1 = some ob /\ ¬ fixed ob := by
  refine xE (List.mem_iff_getElem.mp hm) fun n qq1 => ?_; refine xE qq1 fun hn e => ?_
  have e' : σ[n]? = some (p.1, p.2) := by rw [List.getElem?_eq_getElem hn, e]
  have hl : n < hp.length := S.len ▸ hn
  exact (S.obj n p.1 p.2 hp[n] e' (List.getElem?_eq_getElem hl)).there
theorem Grows.but {X : List Addr} (hs : ∀ c o, c ≠ b -> h.get? c = some o -> h'.get? c = some o) (hf : ∀ o, h.get? b = some o -> ¬ fixed o) (hm : b ∈ σ.map (·.1) \/ b ∈ X) (hself : h'.get? b = some ob) : Grows σ σ X h h' := by
  refine ⟨⟨[], (List.append_nil _).symm, fun _ hp => nomatch hp⟩, fun c o e f => hs c o (fun q => hf o (q ▸ e) f) e, fun c o e h1 h2 => ?_, fun c o e => ?_⟩
  . rw [hs c o (fun q => by subst q; exact hm.elim h1 h2) e]; exact .refl
  . by_cases q : c = b
    . subst q; exact ⟨_, hself⟩
    . exact ⟨o, hs c o q e⟩
theorem Grows.sameBut {X : List Addr} (hs : Heap.SameBut b h h') (hf : ∀ o, h.get? b = some o -> ¬ fixed o) (hm : b ∈ σ.map (·.1) \/ b ∈ X) (hself : h'.get? b = some ob) : Grows σ σ X h h' :=
  .but (fun c o q e => (hs.2 c q).trans e) hf hm hself
theorem Grows.push {X : List Addr} (o : Obj) : Grows σ σ X h (h.push o) :=
  ⟨⟨[], by simp, fun _ hp => nomatch hp⟩, fun c o' e _ => Heap.get?_push_of_some o e, fun c o' e _ _ => by rw [Heap.get?_push_of_some o e]; exact .refl, fun c o' e => ⟨o', Heap.get?_push_of_some o e⟩⟩
theorem grows_keep {X : List Addr} (hk : ∀ b o, h.get? b = some o -> h'.get? b = some o) : Grows σ σ X h h' :=
  ⟨⟨[], by simp, fun _ hp => nomatch hp⟩, fun c o e _ => hk c o e, fun c o e _ _ => by rw [hk c o e]; exact .refl, fun c o e => ⟨o, hk c o e⟩⟩
theorem push_size (h : Heap) (o : Obj) : (h.push o).objs.size = h.objs.size + 1 := by rcases h with ⟨_, _⟩; simp [Heap.push]
theorem St.step {X : List Addr} (S : St w B σ hp h) (g : Grows σ σ X h h') (same : ∀ p ∈ σ, h'.get? p.1 = h.get? p.1) (hb : B.h₀.StaysIn h') : St w B σ hp h' :=
  ⟨S.len, S.nd, fun n a off o e e' => (S.obj n a off o e e').keep g (same (a, off) (List.mem_of_getElem? e)), hb, S.new⟩
theorem St.keep {σ : Sg} (S : St w B σ hp h) (hk : ∀ b o, h.get? b = some o -> h'.get? b = some o) : St w B σ hp h' :=
  S.step (X := []) (grows_keep hk) (fun p hp => by refine xEA (S.there hp) fun ob e _ => ?_; rw [hk _ _ e, e]) fun b o e => hk b o (S.base b o e)
theorem St.push {σ : Sg} (S : St w B σ hp h) (o : Obj) : St w B σ hp (h.push o) :=
  S.step (X := []) (.push o) (fun p hp => by refine xEA (S.there hp) fun ob e _ => ?_; rw [Heap.get?_push_of_some o e, e]) fun b o' e => Heap.get?_push_of_some o (S.base b o' e)
theorem St.sameBut {X : List Addr} (S : St w B σ hp h) (hs : Heap.SameBut b h h') (hf : ∀ o, h.get? b = some o -> ¬ fixed o) (hm : b ∉ σ.map (·.1)) (hb : B.h₀.get? b = none) (hX : b ∈ X) (hself : h'.get? b = some ob) : St w B σ hp h' /\ Grows σ σ X h h' := by
  have g : Grows σ σ X h h' := .sameBut hs hf (.inr hX) hself
  refine ⟨S.step g (fun p hp => hs.2 p.1 fun q => hm (q ▸ List.mem_map_of_mem hp)) fun c o e => ?_, g⟩
  have : c ≠ b := fun q => by subst q; rw [hb] at e; cases e
  exact (hs.2 c this).trans (S.base c o e)
theorem St.fresh (S : St w B σ hp h) : h.objs.size ∉ σ.map (·.1) := fun hm => by
  refine xEA (List.mem_map.mp hm) fun p hp e => ?_
  refine xEA (S.there hp) fun ob e' _ => ?_
  have h1 : p.1 < h.objs.size := Heap.lt_size e'
  exact absurd e (Nat.ne_of_lt h1)
theorem St.adopt (S : St w B σ hp h) (hn : a ∉ σ.map (·.1)) (hb : B.h₀.get? a = none)
    (hr : Looks' σ (σ ++ [(a, off)]) -> RO w B h (σ ++ [(a, off)]) a off ao) : St w B (σ ++ [(a, off)]) (hp ++ [ao]) h := by
  have k : Looks' σ (σ ++ [(a, off)]) := fun n p e => by
    rw [List.getElem?_append_left (List.getElem?_eq_some_iff.mp e).1]; exact e
  refine ⟨by rw [List.length_append, List.length_append, S.len]; rfl, ?_, fun n b off' o' e e' => ?_, S.base, fun p hp => ?_⟩
  . rw [List.map_append, List.nodup_append]
    refine ⟨S.nd, List.pairwise_singleton _ _, fun x hx y hy e => ?_⟩
    cases List.mem_singleton.mp hy
    exact hn ((show x = a from e) ▸ hx)
  . rcases Nat.lt_trichotomy n σ.length with hl | hl | hl
    . rw [List.getElem?_append_left hl] at e
      rw [List.getElem?_append_left (S.len ▸ hl)] at e'
      exact (S.obj n b off' o' e e').mono (fun _ _ x _ => x) k rfl
    . have e1 : (σ ++ [(a, off)])[n]? = some (a, off) := by rw [hl]; exact List.getElem?_concat_length
      have e2 : (hp ++ [ao])[n]? = some ao := by rw [hl, S.len]; exact List.getElem?_concat_length
      rw [e1] at e; rw [e2] at e'
      cases e; cases e'
      exact hr k
    . exact absurd (List.getElem?_eq_some_iff.mp e).1 (by rw [List.length_append, List.length_singleton]; lia)
  . rcases List.mem_append.mp hp with hp | hp
    . exact S.new p hp
    . rcases List.mem_singleton.mp hp with rfl; exact hb
theorem Grows.adopt {X : List Addr} (g : Grows σ σ' X h h') (ha : h.get? a = none) : Grows σ (σ' ++ [(a, off)]) X h h' := by
  refine xEA g.ext fun τ qq1 hτ => ?_; subst qq1
  refine ⟨⟨τ ++ [(a, off)], (List.append_assoc ..), fun p hp => ?_⟩, g.fix, g.oth, g.ex⟩
  rcases List.mem_append.mp hp with hp | hp
  . exact hτ p hp
  . rcases List.mem_singleton.mp hp with rfl; exact ha
theorem free_size (h : Heap) : h.get? h.objs.size = none := by
  rcases hq : h.get? h.objs.size with _ | o'
  case none => rfl
  case some => exact absurd (Heap.lt_size hq) (Nat.lt_irrefl _)
theorem St.alloc {X : List Addr} {hp : AHeap} (S : St w B σ hp h) (o : Obj) (off : Nat) (ao : AObj)
    (hr : Grows σ (σ ++ [(h.objs.size, off)]) X h (h.push o) -> RO w B (h.push o) (σ ++ [(h.objs.size, off)]) h.objs.size off ao) :
    St w B (σ ++ [(h.objs.size, off)]) (hp ++ [ao]) (h.push o) /\ Grows σ (σ ++ [(h.objs.size, off)]) X h (h.push o) :=
  have g := (Grows.push (σ := σ) (X := X) o).adopt (free_size h) (off := off)
  ⟨(S.push o).adopt S.fresh S.base.fresh fun _ => hr g, g⟩
theorem St.upd {X : List Addr} (S : St w B σ hp h) (hn : σ[n]? = some (a, off)) (hs : ∀ c o, c ≠ a -> h.get? c = some o -> h'.get? c = some o) (ao : AObj)
    {ob' : Obj} (hself : h'.get? a = some ob') (hr : Grows σ σ X h h' -> RO w B h' σ a off ao) : St w B σ (hp.set n ao) h' /\ Grows σ σ X h h' := by
  have hmem := List.mem_of_getElem? hn
  refine xEA (S.there hmem) fun ob e₁ hf => ?_
  have g : Grows σ σ X h h' := .but hs (fun o e => by rw [e₁] at e; cases e; exact hf) (.inl (List.mem_map_of_mem (f := (·.1)) hmem)) hself
  refine ⟨⟨by simp [S.len], S.nd, fun k b off' o' e e' => ?_, fun c o e => ?_, S.new⟩, g⟩
  . by_cases hk : k = n
    . subst hk
      rw [hn] at e; cases e
      have hl : k < hp.length := S.len ▸ (List.getElem?_eq_some_iff.mp hn).1
      rw [List.getElem?_set_self hl] at e'
      cases e'
      exact hr g
    . rw [List.getElem?_set_ne (Ne.symm hk)] at e'
      have hne : b ≠ a := fun q => by
        have h1 : (σ.map (·.1))[k]? = some b := by rw [List.getElem?_map, e]; rfl
        have h2 : (σ.map (·.1))[n]? = some a := by rw [List.getElem?_map, hn]; rfl
        exact hk ((List.getElem?_inj (List.getElem?_eq_some_iff.mp h1).1 S.nd).mp (by rw [h1, h2, q]))
      refine xEA (S.there (List.mem_of_getElem? e)) fun ob e2 _ => ?_
      exact (S.obj k b off' o' e e').keep g ((hs b ob hne e2).trans e2.symm)
  . have : c ≠ a := fun q => by subst q; have := S.new _ hmem; rw [this] at e; cases e
    exact hs c o this (S.base c o e)
end
section
open PySem PySem.Spec PyProof.Rows
structure Par where
  prog : Program
  w : World
  B : Bs
  mg : Str -> Option Value
  mb : Str -> Option Value
  N : Addr
  mN : Str -> Option Value
  meths : List Str
noncomputable def Par.fn (P : Par) (f : Str) : Option Value := if P.meths.contains f then P.mN f else P.mg f
structure After (P : Par) (σ σ' : Sg) (X : List Addr) (hp' : AHeap) (s s' : Shared) : Prop where
  ctl : s' = { s with heap := s'.heap, toks := s'.toks }
  st : St P.w P.B σ' hp' s'.heap
  gr : Grows σ σ' X s.heap s'.heap
theorem After.trans {X : List Addr} (x : After P σ₁ σ₂ X hp₂ s₁ s₂) (y : After P σ₂ σ₃ X hp₃ s₂ s₃) : After P σ₁ σ₃ X hp₃ s₁ s₃ :=
  ⟨by rw [y.ctl, x.ctl], y.st, x.gr.trans y.gr⟩
theorem After.more {X Y : List Addr} (x : After P σ σ' X hp' s s') (hs : ∀ a ∈ X, a ∈ Y) : After P σ σ' Y hp' s s' := ⟨x.ctl, x.st, x.gr.more hs⟩
theorem After.refl {X : List Addr} (S : St P.w P.B σ hp s.heap) : After P σ σ X hp s s := ⟨rfl, S, .refl ..⟩
theorem After.tok {X : List Addr} (S : St P.w P.B σ hp s.heap) (t : Nat) : After P σ σ X hp s { s with toks := t } := ⟨rfl, S, .refl ..⟩
abbrev NE : Value -> Shared -> Prop := fun _ _ => False
structure Fly (P : Par) (σ : Sg) (h₀ : Heap) (k : Str) (e : Addr) (h : Heap) : Prop where
  obj : ∃ oe vs C, h.get? e = some oe /\ P.mg k = some (.ref C) /\ oe.cls = .ref C /\ oe.data = .fields vs /\
    (vs[1]? = some .none \/ ∃ T oT ts fl, vs[1]? = some (.ref T) /\ T ≠ e /\ h.get? T = some oT /\ oT.cls = .type "traceback" /\ oT.data = .fields ts /\ ts[3]? = some fl /\ h₀.get? T = none /\ T ∉ σ.map (·.1))
  new : h₀.get? e = none
  out : e ∉ σ.map (·.1)
inductive QE (P : Par) (σ : Sg) (s : Shared) {α : Type} (r : Res α) (v : Value) (s' : Shared) : Prop
  | mk (k : Str) (hp' : AHeap) (σ' : Sg) (e : Addr) (er : r = .exc k hp') (ev : v = .ref e) (a : After P σ σ' [] hp' s s') (f : Fly P σ' s.heap k e s'.heap)
theorem new_before {X : List Addr} (g : Grows σ σ' X h h') (e : h'.get? a = none) : h.get? a = none := by
  rcases hq : h.get? a with _ | o
  case none => rfl
  case some => refine xE (g.ex a o hq) fun o' e' => ?_; rw [e] at e'; cases e'
theorem Fly.lift {X : List Addr} (g : Grows σ σ₁ X h h₁) (f : Fly P σ' h₁ k e h') : Fly P σ' h k e h' := by
  refine xEEEAAAA f.obj fun oe vs C h1 h2 h3 h4 h5 => ?_
  exact ⟨⟨oe, vs, C, h1, h2, h3, h4, h5.imp id fun q => xEEEEAAAAAAA q fun T oT ts fl a b c d x w y z => ⟨T, oT, ts, fl, a, b, c, d, x, w, new_before g y, z⟩⟩, new_before g f.new, f.out⟩
theorem QE.lift (a : After P σ σ₁ [] hp₁ s s₁) (q : QE P σ₁ s₁ r v s') : QE P σ s r v s' := by
  obtain ⟨k, hp', σ', e, er, ev, b, f⟩ := q
  exact ⟨k, hp', σ', e, er, ev, a.trans b, f.lift a.gr⟩
theorem QE.bind {α β : Type} {r : Res α} {f : α -> AHeap -> Res β} (q : QE P σ s r v s') : QE P σ s (r.bind f) v s' := by
  obtain ⟨k, hp', σ', e, er, ev, b, fl⟩ := q
  exact ⟨k, hp', σ', e, by rw [er]; rfl, ev, b, fl⟩
inductive QV (P : Par) (σ : Sg) (s : Shared) (r : Res AV) (v : Value) (s' : Shared) : Prop
  | mk (av : AV) (hp' : AHeap) (σ' : Sg) (e : r = .ok av hp') (a : After P σ σ' [] hp' s s') (rv : RV P.B s'.heap σ' av v)
inductive QVs (P : Par) (σ : Sg) (s : Shared) (r : Res (List AV)) (v : List Value) (s' : Shared) : Prop
  | mk (av : List AV) (hp' : AHeap) (σ' : Sg) (e : r = .ok av hp') (a : After P σ σ' [] hp' s s') (rv : RVs P.B s'.heap σ' av v)
theorem QV.lift (a : After P σ σ' [] hp' s s') (q : QV P σ' s' r v s'') : QV P σ s r v s'' := by
  obtain ⟨av, hp, σ₂, e, b, rv⟩ := q
  exact ⟨av, hp, σ₂, e, a.trans b, rv⟩
structure Frm (P : Par) (h : Heap) (σ : Sg) (env : Env) (cx : Cx) (l : Locs) : Prop where
  kind : env.scope.kind = .function
  len : l.length = cx.n
  inj : ∀ x y i, cx.slot x = some i -> cx.slot y = some i -> x = y
  lt : ∀ x i, cx.slot x = some i -> i < cx.n
  glob : ∀ x, cx.isGlob x = true -> env.kindOf x = some .globalImplicit
  wr : ∀ x i, cx.slotW x = some i -> env.kindOf x ≠ some .free
  names : ∃ m, h.Ns env.locals m /\ ∀ x i, cx.slot x = some i ->
    (env.kindOf x = some .local /\ ∀ av, l[i]? = some (some av) -> ∃ v, m x = some v /\ RV P.B h σ av v) \/
    ((env.kindOf x = some .cell \/ env.kindOf x = some .free) /\ ∃ c ov, env.cells.lookup x = some c /\ h.IsCell c ov /\ ∀ av, l[i]? = some (some av) -> ∃ v, ov = some v /\ RV P.B h σ av v)
  out : env.locals ∉ σ.map (·.1) /\ ∀ p ∈ env.cells, p.2 ∉ σ.map (·.1)
  new : P.B.h₀.get? env.locals = none /\ ∀ p ∈ env.cells, P.B.h₀.get? p.2 = none
  globals : env.globals = mainGlobals
  builtins : env.builtins = builtinsNs
  cells : ∀ p ∈ env.cells, ∃ o v, h.get? p.2 = some o /\ o.data = .cell v
  apart : ∀ p ∈ env.cells, ∀ q ∈ env.cells, p.2 = q.2 -> p.1 = q.1
  kinds : ∀ x k, cx.sc.names.lookup x = some k -> k = .local \/ k = .cell -> env.kindOf x = some k
structure ArndC (n : Nat) (q : Bool) (A : Around) : Prop where
  frames : ∃ outer, A.frames = some outer
  depth : A.depth + 2 * n + 150 < recursionLimit
  units : A.units + 100 * n + 100 < cLine
  handled : q = false -> A.handled = none
structure Arnd (n : Nat) (q : Bool) (A : Around) : Prop extends ArndC n q A where
  depth1 : A.depth + 2 * n + 151 < recursionLimit
  units1 : A.units + 100 * n + 150 < cLine
  frame : ∃ f outer, A.frames = some (f :: outer) /\ f.scope.isGenerator = false /\ f.scope.isCoroutine = false /\ f.builtins = builtinsNs /\ f.globals = mainGlobals
noncomputable def Frs (P : Par) (h : Heap) (σ : Sg) (A : Around) : Prop := ∀ l, A.frames = some l -> ∀ f ∈ l, f.scope.kind ≠ .module /\ ∃ L o es ep, f.frame = some L /\ P.B.h₀.get? L = none /\ h.get? L = some o /\ o.data = .dict es ep /\ L ∉ σ.map (·.1)
structure Inv (P : Par) (cx : Cx) (n : Nat) (q : Bool) (env : Env) (A : Around) (σ : Sg) (l : Locs) (hp : AHeap) (s : Shared) : Prop where
  st : St P.w P.B σ hp s.heap
  fr : Frm P s.heap σ env cx l
  ar : Arnd n q A
  fs : Frs P s.heap σ A
theorem near_ns {h h' : Heap} (n : h.Ns a m) (hk : ∀ o, h.get? a = some o -> Near o (h'.get? a)) : h'.Ns a m := by
  refine xEEEAA n fun o es ep ho hd r => ?_
  refine xEAAA ((hk o ho).get) fun o' e _ hd' _ => ?_
  exact ⟨o', es, ep, e, hd'.trans hd, r⟩
theorem near_cell {h h' : Heap} (n : h.IsCell a v) (hk : ∀ o, h.get? a = some o -> Near o (h'.get? a)) : h'.IsCell a v := by
  refine xEA n fun o ho hd => ?_
  refine xEAAA ((hk o ho).get) fun o' e _ hd' _ => ?_
  exact ⟨o', e, hd'.trans hd⟩
theorem not_mem_grown {X : List Addr} (g : Grows σ σ' X h h') (ho : h.get? a = some o) (hn : a ∉ σ.map (·.1)) : a ∉ σ'.map (·.1) := by
  refine xEA g.ext fun τ qq1 hτ => ?_; subst qq1
  rw [List.map_append, List.mem_append]
  rintro (hb | hb)
  . exact hn hb
  . refine xEA (List.mem_map.mp hb) fun p hp qq1 => ?_; subst qq1
    rw [hτ p hp] at ho; cases ho
theorem mem_of_lookup' {α : Type} : ∀ {l : List (Str × α)} {n : Str} {c : α}, l.lookup n = some c -> (n, c) ∈ l := PySem.mem_of_lookup
theorem Frm.after (f : Frm P s.heap σ env cx l) (a : After P σ σ' [] hp' s s') : Frm P s'.heap σ' env cx l := by
  refine xEA f.names fun m hn hm => ?_
  have hL : ∀ o, s.heap.get? env.locals = some o -> Near o (s'.heap.get? env.locals) := fun o ho => a.gr.oth _ o ho f.out.1 (by simp)
  have hC : ∀ p ∈ env.cells, ∀ o, s.heap.get? p.2 = some o -> Near o (s'.heap.get? p.2) := fun p hp o ho => a.gr.oth _ o ho (f.out.2 p hp) (by simp)
  refine ⟨f.kind, f.len, f.inj, f.lt, f.glob, f.wr, ⟨m, near_ns hn hL, fun x i hx => ?_⟩, ⟨?_, fun p hp => ?_⟩, f.new, f.globals, f.builtins, fun p hp => ?_, f.apart, f.kinds⟩
  . rcases hm x i hx with ⟨hk, hv⟩ | ⟨hk, c, ov, hc, hi, hv⟩
    . exact .inl ⟨hk, fun av e => (hv av e).imp fun _ q => ⟨q.1, RV.grows a.gr _ _ q.2⟩⟩
    . exact .inr ⟨hk, c, ov, hc, near_cell hi (hC (x, c) (mem_of_lookup' hc)), fun av e => (hv av e).imp fun _ q => ⟨q.1, RV.grows a.gr _ _ q.2⟩⟩
  . refine xEEEA hn fun o _ _ ho _ => ?_
    exact not_mem_grown a.gr ho f.out.1
  . refine xEEA (f.cells p hp) fun o v ho _ => ?_
    exact not_mem_grown a.gr ho (f.out.2 p hp)
  . refine xEEA (f.cells p hp) fun o v ho hd => ?_
    refine xEAAA ((hC p hp o ho).get) fun o' e _ hd' _ => ?_
    exact ⟨o', v, e, hd'.trans hd⟩
theorem Frs.after (F : Frs P h σ A) (g : Grows σ σ' [] h h') : Frs P h' σ' A := fun l hl f hf => by
  refine xAEEEEAAAA (F l hl f hf) fun hk L o es ep h1 h2 h3 h4 h5 => ?_
  refine xEAAA ((g.oth L o h3 h5 (fun q => nomatch q)).get) fun o' e _ hd _ => ?_
  exact ⟨hk, L, o', es, ep, h1, h2, e, hd.trans h4, not_mem_grown g h3 h5⟩
theorem Inv.after (I : Inv P cx n q env A σ l hp s) (a : After P σ σ' [] hp' s s') : Inv P cx n q env A σ' l hp' s' :=
  ⟨a.st, I.fr.after a, I.ar, I.fs.after a.gr⟩
noncomputable def bltPairs : List (Str × Value) := [("len", .builtin "len"), ("isinstance", .builtin "isinstance"), ("range", .type "range"), ("min", .builtin "min"), ("list", .type "list"), ("str", .type "str"), ("int", .type "int"), ("bool", .type "bool"), ("tuple", .type "tuple"), ("dict", .type "dict"), ("set", .type "set")]
theorem blt_len : (("len" : Str), Value.builtin "len") ∈ bltPairs := .head _
theorem blt_isi : (("isinstance" : Str), Value.builtin "isinstance") ∈ bltPairs := .tail _ (.head _)
theorem blt_range : (("range" : Str), Value.type "range") ∈ bltPairs := .tail _ (.tail _ (.head _))
theorem blt_min : (("min" : Str), Value.builtin "min") ∈ bltPairs := .tail _ (.tail _ (.tail _ (.head _)))
theorem blt_list : (("list" : Str), Value.type "list") ∈ bltPairs := .tail _ (.tail _ (.tail _ (.tail _ (.head _))))
theorem blt_str : (("str" : Str), Value.type "str") ∈ bltPairs := .tail _ (.tail _ (.tail _ (.tail _ (.tail _ (.head _)))))
theorem blt_int : (("int" : Str), Value.type "int") ∈ bltPairs := .tail _ (.tail _ (.tail _ (.tail _ (.tail _ (.tail _ (.head _))))))
theorem blt_bool : (("bool" : Str), Value.type "bool") ∈ bltPairs := .tail _ (.tail _ (.tail _ (.tail _ (.tail _ (.tail _ (.tail _ (.head _)))))))
theorem blt_tuple : (("tuple" : Str), Value.type "tuple") ∈ bltPairs := .tail _ (.tail _ (.tail _ (.tail _ (.tail _ (.tail _ (.tail _ (.tail _ (.head _))))))))
theorem blt_dict : (("dict" : Str), Value.type "dict") ∈ bltPairs := .tail _ (.tail _ (.tail _ (.tail _ (.tail _ (.tail _ (.tail _ (.tail _ (.tail _ (.head _)))))))))
theorem blt_set : (("set" : Str), Value.type "set") ∈ bltPairs := .tail _ (.tail _ (.tail _ (.tail _ (.tail _ (.tail _ (.tail _ (.tail _ (.tail _ (.tail _ (.head _))))))))))
structure Par.Ok (P : Par) : Prop where
  blt : ∀ x v, (x, v) ∈ bltPairs -> P.mg x = none /\ P.mb x = some v
  g : P.B.h₀.Ns mainGlobals P.mg
  b : P.B.h₀.Ns builtinsNs P.mb
  nolimit : P.B.h₀.NoLimit
  seer : P.B.h₀.NoSeer
  tree : P.prog.given.tree = none
  mods : ∃ o, P.B.h₀.get? sysModules = some o
  cls : ClsAt P.B.h₀ P.B.C P.N P.mN
  q1 : P.mN "__setattr__" = none
  q2 : P.mN "__getattribute__" = none
  q3 : P.mN "__getattr__" = none
  qa : ∀ a, P.B.attrs.contains a = true -> P.mN a = none /\ typeLookup (.type "object") a = pure none
  qm : ∀ m, P.meths.contains m = true -> ∃ y, typeLookup (.type "object") m = pure y
  few : P.B.attrs.length <= sizeLine
  init : P.meths.contains "__init__" = true
noncomputable def FSim (P : Par) (funs : List Str) (F : Str -> List AV -> AHeap -> Res AV) (n : Nat) (q : Bool) : Prop :=
  ∀ f, funs.contains f = true -> ∃ a o fd, P.fn f = some (.ref a) /\ P.B.h₀.get? a = some o /\ (P.meths.contains f = true -> o.cls = .type "function") /\ o.data = .func fd /\
    ∀ avs vs σ hp s A, St P.w P.B σ hp s.heap -> RVs P.B s.heap σ avs vs -> ArndC n q A -> Frs P s.heap σ A -> F f avs hp ≠ .bad ->
      wpAny (model P.prog P.w) A (call (.ref a) vs) (QV P σ s (F f avs hp)) (QE P σ s (F f avs hp)) s
noncomputable def ConstR (k : Const) (v : Value) : Prop := match k with
  | .int i => ∃ t, v = .int i t
  | .str x => ∃ t, v = .str x t
  | _ => False
noncomputable def excBm : List Value := [.type "ValueError", .type "Exception", .type "BaseException", .type "object"]
inductive OwnX (C : Addr) (bmB : List Value) (newId : String) (h : Heap) : Prop
  | mk (bm : List Value) (N : Addr) (nm q : Str) (bs : List Value) (hdct : Bool) (sn : List Str) (sub : List Value) (ab : Bool) (col : Option Bool) (dd : Option Addr) (k0 k1 k2 k3 k5 : Option Value) (mN : Str -> Option Value)
    (hC : h.get? C = some (excClassObj nm q C N bs bm hdct sn sub ab col dd k0 k1 k2 k3 k5 newId)) (hN : h.Ns N mN) (hq : ∀ n ∈ quietNames, mN n = none) (T : OwnTailQ h bmB bm) : OwnX C bmB newId h
theorem ownX (O : OwnClsQ x C bmB newId mg h) : OwnX C bmB newId h := by
  refine xEEEEEEEEEEEE O.obj fun bm N nm q bs hdct sn sub ab col dd k0 qq1 => ?_; refine xEEEEEAAA qq1 fun k1 k2 k3 k5 mN hC hN hq T => ?_
  exact .mk bm N nm q bs hdct sn sub ab col dd k0 k1 k2 k3 k5 mN hC hN hq T
structure ExcsR (P : Par) (excs : List (Str × List Str)) : Prop where
  own : ∀ k ks, excs.lookup k = some ks -> ∃ C, OwnClsQ k C excBm "ValueError.__new__" P.mg P.B.h₀
  cat : ∀ j, (excs.any fun p => p.2.contains j) = true -> ∃ D, OwnClsQ j D excBm "ValueError.__new__" P.mg P.B.h₀
  sub : ∀ k ks j C D o cd, excs.lookup k = some ks -> (excs.any fun p => p.2.contains j) = true -> P.mg k = some (.ref C) -> P.mg j = some (.ref D) -> P.B.h₀.get? C = some o -> o.data = .cls cd -> cd.mro.contains (.ref D) = ks.contains j
structure Sims (P : Par) (cx : Cx) (c : Ctx) (n : Nat) : Prop where
  ok : P.Ok
  f : FSim P cx.funs c.F n c.q
  fq : FSim P cx.funs c.Fq n true
  meths : cx.meths = P.meths
  attrs : cx.attrs = P.B.attrs
  cls : P.mg cx.cls = some (.ref P.B.C)
  init : cx.funs.contains "__init__" = true
  exc : ExcsR P cx.excs
  g : ∀ x k, cx.consts.lookup x = some k -> ∃ v, P.mg x = some v /\ ConstR k v
noncomputable def SimE (P : Par) (cx : Cx) (e : Expr) (x : X) : Prop :=
  ∀ c n env A σ l hp s, Sims P cx c n -> Inv P cx n c.q env A σ l hp s -> evalX c x l hp ≠ .bad ->
    wpAny (model P.prog P.w) A (eval e env) (QV P σ s (evalX c x l hp)) (QE P σ s (evalX c x l hp)) s
noncomputable def SimEs (P : Par) (cx : Cx) (es : List Expr) (xs : Xs) : Prop :=
  ∀ c n env A σ l hp s pos, Sims P cx c n -> Inv P cx n c.q env A σ l hp s -> evalXs c xs l hp ≠ .bad ->
    wpAny (model P.prog P.w) A (spliced (backTo pos (starEach es env))) (QVs P σ s (evalXs c xs l hp)) (QE P σ s (evalXs c xs l hp)) s
theorem bind_ok {α β : Type} {r : Res α} {f : α -> AHeap -> Res β} (h : r.bind f ≠ .bad) : r ≠ .bad := fun e => h (by rw [e]; rfl)
theorem slot_plain {cx : Cx} (h : cx.slot x = some i) : (x == ("__debug__" : Str)) = false /\ (x == ("__classdict__" : Str)) = false := by
  refine xEA (Option.bind_eq_some_iff.mp h) fun k _ h => ?_
  refine xA (iteN h) fun hk _ => ?_
  simp only [plainName, Bool.and_eq_true, bne_iff_ne, ne_eq] at hk
  exact ⟨beq_eq_false_iff_ne.mpr hk.2.1, beq_eq_false_iff_ne.mpr hk.2.2⟩
theorem glob_plain {cx : Cx} (h : cx.isGlob x = true) : (x == ("__debug__" : Str)) = false /\ (x == ("__classdict__" : Str)) = false := by
  simp only [Cx.isGlob, plainName, Bool.and_eq_true, bne_iff_ne, ne_eq] at h
  exact ⟨beq_eq_false_iff_ne.mpr h.2.1, beq_eq_false_iff_ne.mpr h.2.2⟩
section
variable {P : Par} {cx : Cx}
theorem sim_none : SimE P cx (.Constant .none k pos) .none := fun c n env A σ l hp s _ I _ =>
  wpAny_Constant_none ⟨.none, hp, σ, rfl, .refl I.st, rfl⟩
theorem sim_bool : SimE P cx (.Constant (.bool b) k pos) (.bool b) := fun c n env A σ l hp s _ I _ =>
  wpAny_Constant_bool ⟨.bool b, hp, σ, rfl, .refl I.st, rfl⟩
theorem sim_int : SimE P cx (.Constant (.int i) k pos) (.int i) := fun c n env A σ l hp s _ I _ =>
  wpAny_Constant_int ⟨.int i, hp, σ, rfl, .tok I.st _, _, rfl⟩
theorem sim_str : SimE P cx (.Constant (.str x) k pos) (.str x.cps.toList) := fun c n env A σ l hp s _ I _ =>
  wpAny_Constant_str ⟨.str x.cps.toList, hp, σ, rfl, .tok I.st _, _, rfl⟩
theorem sim_loc {x : Str} (hx : cx.slot x = some i) : SimE P cx (.Name x pos) (.loc i) := by
  intro c n env A σ l hp s _ I hb
  refine xA (slot_plain hx) fun hd hcl => ?_
  rw [x_loc] at hb |-
  rcases hl : locAt l i with _ | av
  case none => rw [hl] at hb; exact absurd rfl hb
  case some =>
    have hl : l[i]? = some (some av) := by
      unfold locAt at hl
      split at hl
      . rename_i o e; rw [e, hl]
      . cases hl
    refine xEA I.fr.names fun m hn hm => ?_
    refine wpAny_Name ?_ hd
    rcases hm x i hx with ⟨hk, hv⟩ | ⟨hk, cc, ov, hc, hi, hv⟩
    . refine xEA (hv av hl) fun v e rv => ?_
      exact wpAny_loadName_local I.fr.kind hk hn e ⟨av, hp, σ, rfl, .refl I.st, rv⟩
    . refine xEA (hv av hl) fun v e rv => ?_
      subst e
      rcases hk with hk | hk
      . exact wpAny_loadName_cell I.fr.kind hk hc hi ⟨av, hp, σ, rfl, .refl I.st, rv⟩
      . exact wpAny_loadName_free I.fr.kind hk hc hi ⟨av, hp, σ, rfl, .refl I.st, rv⟩ hcl
theorem const_is (h : compConst k = some x) (r : ConstR k v) : (∃ i t, x = .int i /\ v = .int i t) \/ ∃ z t, x = .str z /\ v = .str ⟨z.toArray⟩ t := by
  cases k with
  | int i => cases h; refine xE r fun t qq1 => ?_; try clear r; subst qq1; exact .inl ⟨i, t, rfl, rfl⟩
  | str z => cases h; refine xE r fun t qq1 => ?_; try clear r; subst qq1; exact .inr ⟨_, t, rfl, rfl⟩
  | _ => exact r.elim
theorem sim_glob {k : Const} (hg : cx.isGlob x = true) (hk : cx.consts.lookup x = some k) (hx : compConst k = some xx) : SimE P cx (.Name x pos) xx := by
  intro c n env A σ l hp s C I hb
  refine xA (glob_plain hg) fun hd _ => ?_
  refine xEA (C.g x k hk) fun v e1 r => ?_
  refine wpAny_Name ?_ hd
  rw [loadName_read I.fr.kind (I.fr.glob x hg)]
  have hn : s.heap.Ns env.globals P.mg := by rw [I.fr.globals]; exact C.ok.g.keeps I.st.base
  refine Calls.loadGlobal_global hn e1 ?_
  rcases const_is hx r with ⟨i, t, rfl, rfl⟩ | ⟨z, t, rfl, rfl⟩
  . exact ⟨_, hp, σ, rfl, .refl I.st, _, rfl⟩
  . exact ⟨_, hp, σ, rfl, .refl I.st, _, rfl⟩
end
end
section
open PySem PySem.Spec PyProof.Rows PySem.SeqAt
theorem isTuple_of {ws : Array Value} (o : ObjAt h a (.type "tuple") (.seq ws n)) : h.IsTuple a ws :=
  ⟨_, o, rfl, n, rfl⟩
theorem isList_of {ws : Array Value} (o : ObjAt h a (.type "list") (.seq ws n)) : h.IsList a ws :=
  ⟨_, o, rfl, n, rfl⟩
theorem St.isList (S : St w B σ hp h) {n : Nat} {a : Addr} (e : hp[n]? = some (.list xs)) (hs : σ[n]? = some (a, off)) :
    ∃ ws, h.IsList a ws /\ RVs B h σ xs ws.toList := by
  refine xEEAA (S.obj n a off _ hs e) fun ws k o r _ => ?_
  exact ⟨ws, (isList_of o), r⟩
theorem str_eq_iff (x y : List Nat) : ((⟨x.toArray⟩ : Str) == ⟨y.toArray⟩) = decide (x = y) := by
  by_cases h : x = y
  . subst h; simp
  . rw [decide_eq_false h]
    refine beq_eq_false_iff_ne.mpr fun e => h ?_
    have := Str.mk.inj e
    simpa using this
theorem and2_is (h : and2 a b = some r) : ∃ x y, a = some x /\ b = some y /\ r = (x && y) := by
  rcases a with _ | x
  . exact none_ne h
  rcases b with _ | y
  . exact none_ne h
  exact ⟨x, y, rfl, rfl, (Option.some.inj h).symm⟩
theorem eqAll_spec : ∀ {xs ys : List AV} {r : Bool}, eqAll f xs ys = some r ->
    ∃ e : Nat -> Bool, (∀ j x y, xs[j]? = some x -> ys[j]? = some y -> f x y = some (e j)) /\ r = ((List.range (min xs.length ys.length)).all e && xs.length == ys.length) := by
  intro xs
  induction xs with
  | nil =>
    intro ys r h
    refine ⟨fun _ => true, fun j x y hx => (nomatch hx), ?_⟩
    rw [<- Option.some.inj h]
    rcases ys with _ | ⟨y, ys⟩ <;> rfl
  | cons x xs ih =>
    intro ys r h
    rcases ys with _ | ⟨y, ys⟩
    . rw [<- Option.some.inj h]
      exact ⟨fun _ => true, fun j x y _ hy => (nomatch hy), rfl⟩
    refine xEEAA (and2_is h) fun b r' h1 h2 h3 => ?_
    refine xEA (ih h2) fun e he hr => ?_
    refine ⟨fun j => Nat.casesOn j b e, fun j x' y' hx hy => ?_, ?_⟩
    . rcases j with _ | j
      . rcases Option.some.inj hx with rfl; rcases Option.some.inj hy with rfl; exact h1
      . exact he j x' y' hx hy
    . rw [h3, hr]
      simp only [List.length_cons, Nat.add_min_add_right, List.range_succ_eq_map, List.all_cons, List.all_map, Bool.and_assoc]
      have e1 : (xs.length + 1 == ys.length + 1) = (xs.length == ys.length) := by simp
      rw [e1]
      rfl
section
variable {w : World} {B : Bs} {σ : Sg} {hp : AHeap} {s : Shared}
theorem eqAt_of_rc {a b : Addr} (h : RcAt A s (.ref a) (.ref b) k) (hs : a = b -> k = true) : EqAt A s (.ref a) (.ref b) k := by
  by_cases e : a = b
  . subst e; rw [hs rfl]; exact EqAt.same _
  . exact .of_refs e h
theorem eqAll_same : ∀ {xs ys : List AV} {vs : List Value} {r : Bool}, eqAll f xs ys = some r -> RVs B s.heap σ xs vs -> RVs B s.heap σ ys vs ->
    (∀ x y v r, f x y = some r -> RV B s.heap σ x v -> RV B s.heap σ y v -> r = true) -> r = true := by
  intro xs
  induction xs with
  | nil =>
    intro ys vs r h rx ry _
    rw [rx.nil] at ry
    rw [<- Option.some.inj h]
    rcases ys with _ | ⟨y, ys⟩
    . rfl
    . exact ry.elim
  | cons x xs ih =>
    intro ys vs r h rx ry H
    refine xEEAA rx.cons fun v us qq1 r1 r2 => ?_; subst qq1
    rcases ys with _ | ⟨y, ys⟩
    . exact ry.elim
    refine xEEAA (and2_is h) fun b r' h1 h2 h3 => ?_
    rw [h3, H x y v b h1 r1 ry.1, ih h2 r2 ry.2 H]; rfl
theorem St.inj (S : St w B σ hp s.heap) {i j : Nat} {a : Addr} (hi : σ[i]? = some (a, o)) (hj : σ[j]? = some (a, o')) : i = j := by
  have h1 : (σ.map (·.1))[i]? = some a := by rw [List.getElem?_map, hi]; rfl
  have h2 : (σ.map (·.1))[j]? = some a := by rw [List.getElem?_map, hj]; rfl
  exact (List.getElem?_inj (List.getElem?_eq_some_iff.mp h1).1 S.nd).mp (by rw [h1, h2])
theorem objAt_uniq {c c' : Value} (x : ObjAt h a c d) (y : ObjAt h a c' d') : c = c' /\ d = d' := by
  have := x.symm.trans y
  cases this
  exact ⟨rfl, rfl⟩
theorem listAt_is {n : Nat} {xs : List AV} (h : listAt hp n = some xs) : hp[n]? = some (.list xs) := by
  unfold listAt at h
  rcases e : hp[n]? with _ | o <;> rw [e] at h
  case none => exact none_ne h
  case some => rcases o with _ | _ <;> first | exact none_ne h | (cases h; rfl)
theorem dictAt_is {n : Nat} {d : List (Key × AV) × Nat} (h : dictAt hp n = some d) : hp[n]? = some (.dict d.1 d.2) := by
  unfold dictAt at h
  rcases e : hp[n]? with _ | o <;> rw [e] at h
  case none => exact none_ne h
  case some => rcases o with _ | _ <;> first | exact none_ne h | (cases h; rfl)
theorem eqL_spec {a b : Option (List AV)} {r : Bool} (h : eqL f a b = some r) : ∃ xs ys, a = some xs /\ b = some ys /\ ((xs.length = ys.length /\ eqAll f xs ys = some r) \/ (xs.length ≠ ys.length /\ r = false)) := by
  rcases a with _ | xs
  case none => exact none_ne h
  case some =>
    rcases b with _ | ys
    case none => exact none_ne h
    case some =>
      refine ⟨xs, ys, rfl, rfl, ?_⟩
      change (if xs.length = ys.length then _ else _) = _ at h
      by_cases e : xs.length = ys.length
      . rw [if_pos e] at h; exact .inl ⟨e, h⟩
      . rw [if_neg e] at h; exact .inr ⟨e, (Option.some.inj h).symm⟩
inductive EqK (hp : AHeap) (n : Nat) : AV -> AV -> Bool -> Prop
  | none : EqK hp n .none .none true
  | nv (b : AV) (h : someV hp b = some false) : EqK hp n .none b false
  | vn (b : AV) (h : someV hp b = some false) : EqK hp n b .none false
  | int (x y : Int) : EqK hp n (.int x) (.int y) (decide (x = y))
  | str (x y : List Nat) : EqK hp n (.str x) (.str y) (decide (x = y))
  | tup (xs ys : List AV) (r : Bool) (h : eqAll (eqv hp n) xs ys = some r) : EqK hp n (.tup xs) (.tup ys) r
  | loc (i j : Nat) (r : Bool) (h : eqL (eqv hp n) (listAt hp i) (listAt hp j) = some r) : EqK hp n (.loc i) (.loc j) r
theorem someV_is {b : AV} {r : Bool} (h : someV hp b = some r) : r = false := by
  rcases b with _ | _
  case int => cases h; rfl
  case str => cases h; rfl
  case tup => cases h; rfl
  case loc i => obtain ⟨_, _, rfl⟩ := Option.map_eq_some_iff.mp (show (listAt hp i).map (fun _ => false) = some r from h); rfl
  all_goals exact none_ne h
theorem eqv_or {a b : AV} {r : Bool} (h : eqv hp (n + 1) a b = some r) : EqK hp n a b r := by
  rcases a with _ | _
  case none =>
    rcases b with _ | _
    case none => cases (show some true = some r from h); exact .none
    case int => cases (show some false = some r from h); exact .nv _ rfl
    case str => cases (show some false = some r from h); exact .nv _ rfl
    case tup => cases (show some false = some r from h); exact .nv _ rfl
    case loc i => have h : someV hp (.loc i) = some r := h; rcases someV_is h with rfl; exact .nv _ h
    all_goals exact none_ne h
  case int x =>
    rcases b with _ | _
    case int y => cases (show some (decide (x = y)) = some r from h); exact .int x y
    case none => cases (show some false = some r from h); exact .vn _ rfl
    all_goals exact none_ne h
  case str x =>
    rcases b with _ | _
    case str y => cases (show some (decide (x = y)) = some r from h); exact .str x y
    case none => cases (show some false = some r from h); exact .vn _ rfl
    all_goals exact none_ne h
  case tup xs =>
    rcases b with _ | _
    case tup ys => exact .tup xs ys r h
    case none => cases (show some false = some r from h); exact .vn _ rfl
    all_goals exact none_ne h
  case loc i =>
    rcases b with _ | _
    case loc j => exact .loc i j r h
    case none => have h : someV hp (.loc i) = some r := h; rcases someV_is h with rfl; exact .vn _ h
    all_goals exact none_ne h
  all_goals exact none_ne h
theorem someV_ne {b : AV} {v : Value} (h : someV hp b = some false) (r : RV B s.heap σ b v) : v ≠ .none := by
  rcases b with _ | _
  case int => refine xE r fun t qq1 => ?_; try clear r; subst qq1; exact fun e => nomatch e
  case str => refine xE r fun t qq1 => ?_; try clear r; subst qq1; exact fun e => nomatch e
  case tup => refine xEEEA r fun a _ _ qq1 _ => ?_; try clear r; subst qq1; exact fun e => nomatch e
  case loc => refine xEEA r fun a _ qq1 _ => ?_; try clear r; subst qq1; exact fun e => nomatch e
  all_goals exact none_ne h
theorem eqv_same (S : St w B σ hp s.heap) : ∀ (n : Nat) (a b : AV) (v : Value) (r : Bool), eqv hp n a b = some r -> RV B s.heap σ a v -> RV B s.heap σ b v -> r = true
  | 0, _, _, _, _, h, _, _ => nomatch h
  | n + 1, a, b, v, r, h, ra, rb => by
    have H : ∀ x y v r, eqv hp n x y = some r -> RV B s.heap σ x v -> RV B s.heap σ y v -> r = true := fun x y v r => eqv_same S n x y v r
    cases eqv_or h with
    | none => rfl
    | nv => rename_i hx; exact absurd (show v = .none from ra) (someV_ne hx rb)
    | vn => rename_i hx; exact absurd (show v = .none from rb) (someV_ne hx ra)
    | int x y => refine xE ra fun t qq1 => ?_; try clear ra; subst qq1; refine xE rb fun t' e => ?_; exact decide_eq_true (Value.int.inj e).1
    | str x y =>
      refine xE ra fun t qq1 => ?_; try clear ra; subst qq1; refine xE rb fun t' e => ?_
      exact decide_eq_true (by simpa using (Value.str.inj e).1)
    | tup xs ys r h =>
      refine xEEEAA ra fun a ws k qq1 oa rx => ?_; try clear ra; subst qq1; refine xEEEAA rb fun b us k' e ob ry => ?_
      cases e
      have := (objAt_uniq oa ob).2
      cases this
      exact eqAll_same h rx ry H
    | loc i j r h =>
      refine xEEA ra fun a o qq1 e1 => ?_; try clear ra; subst qq1; refine xEEA rb fun b o' e e2 => ?_
      cases e
      obtain rfl := S.inj e1 e2
      refine xEEAA (eqL_spec h) fun xs ys h1 h2 h3 => ?_
      rw [h1] at h2; cases h2
      rcases h3 with ⟨_, h3⟩ | ⟨h3, _⟩
      . refine xEA (S.isList (listAt_is h1) e1) fun ws hl rx => ?_
        exact eqAll_same h3 rx rx H
      . exact absurd rfl h3
structure EqAll (A : Around) (s : Shared) (v u : Value) (r : Bool) : Prop where
  rc : RcAt A s v u r
  ne : RcNeAt A s v u (!r)
  eq : EqAt A s v u r
theorem eq_seq {ws us : Array Value} (H : ∀ a b r v u, eqv hp n a b = some r -> RV B s.heap σ a v -> RV B s.heap σ b u -> EqAt A s v u r) (he : eqAll (eqv hp n) xs ys = some r) (rx : RVs B s.heap σ xs ws.toList) (ry : RVs B s.heap σ ys us.toList) :
    ∃ e : Nat -> Bool, r = ((List.range (min ws.size us.size)).all e && ws.size == us.size) /\ ∀ j (h1 : j < ws.size) (h2 : j < us.size), EqAt A s ws[j] us[j] (e j) := by
  refine xEA (eqAll_spec he) fun e h1 h2 => ?_
  refine ⟨e, by rw [h2, rx.size, ry.size], fun j h3 h4 => ?_⟩
  have ex : xs[j]? = some (xs[j]'(by rw [rx.size]; exact h3)) := List.getElem?_eq_getElem _
  have ey : ys[j]? = some (ys[j]'(by rw [ry.size]; exact h4)) := List.getElem?_eq_getElem _
  refine xEA (rx.get ex) fun v' e1 q1 => ?_
  refine xEA (ry.get ey) fun u' e2 q2 => ?_
  rw [Array.getElem?_toList, Array.getElem?_eq_getElem h3] at e1
  rw [Array.getElem?_toList, Array.getElem?_eq_getElem h4] at e2
  cases e1; cases e2
  exact H _ _ _ _ _ (h1 j _ _ ex ey) q1 q2
theorem eq_tups {r : Bool} (hu : A.units < cLine) (oa : ObjAt s.heap a (.type "tuple") (.seq ws k)) (ob : ObjAt s.heap b (.type "tuple") (.seq us k')) (hr : r = ((List.range (min ws.size us.size)).all e && ws.size == us.size))
    (he : ∀ j (h1 : j < ws.size) (h2 : j < us.size), EqAt A.in1 s ws[j] us[j] (e j)) (hs : a = b -> r = true) : EqAll A s (.ref a) (.ref b) r := by
  subst hr
  have hrc := RcAt.tuples (isTuple_of oa) (isTuple_of ob) hu he
  exact ⟨hrc, RcNeAt.tuples (isTuple_of oa) (isTuple_of ob) hu he, eqAt_of_rc hrc hs⟩
theorem eq_lsts {r : Bool} (hu : A.units < cLine) (hl : s.heap.IsList a ws) (hl' : s.heap.IsList b us) (hsz : ws.size = us.size) (hr : r = ((List.range (min ws.size us.size)).all e && ws.size == us.size))
    (he : ∀ j (h1 : j < ws.size) (h2 : j < us.size), EqAt A.in1 s ws[j] us[j] (e j)) (hs : a = b -> r = true) : EqAll A s (.ref a) (.ref b) r := by
  have er : r = (List.range ws.size).all e := by rw [hr, hsz, Nat.min_self, beq_self_eq_true, Bool.and_true]
  subst er
  have hrc := RcAt.lists hl hl' hsz hu he
  exact ⟨hrc, RcNeAt.lists hl hl' hsz hu he, eqAt_of_rc hrc hs⟩
theorem eq_locs (S : St w B σ hp s.heap) {A : Around} {i j : Nat} {v u : Value} (H : ∀ a b r v u, eqv hp n a b = some r -> RV B s.heap σ a v -> RV B s.heap σ b u -> EqAt A.in1 s v u r) (hu : A.units < cLine)
    (h : eqL (eqv hp n) (listAt hp i) (listAt hp j) = some r) (ra : RV B s.heap σ (.loc i) v) (rb : RV B s.heap σ (.loc j) u) : EqAll A s v u r := by
  refine xEEA ra fun a o qq1 e1 => ?_; try clear ra; subst qq1; refine xEEA rb fun b o' qq1 e2 => ?_; try clear rb; subst qq1
  have hs : a = b -> r = true := fun q => by
    subst q
    have ij := S.inj e1 e2
    subst ij
    exact eqv_same S (n + 1) (.loc i) (.loc i) (.ref a) r h ⟨a, o, rfl, e1⟩ ⟨a, o, rfl, e1⟩
  refine xEEAA (eqL_spec h) fun xs ys hi hj hc => ?_
  refine xEA (S.isList (listAt_is hi) e1) fun ws hl rx => ?_
  refine xEA (S.isList (listAt_is hj) e2) fun us hl' ry => ?_
  rcases hc with ⟨hlen, h⟩ | ⟨hlen, hr⟩
  . refine xEA (eq_seq H h rx ry) fun e hr he => ?_
    exact eq_lsts hu hl hl' (rx.size.symm.trans (hlen.trans ry.size)) hr he hs
  . subst hr
    have hsz : (ws.size != us.size) = true := bne_iff_ne.mpr fun q => hlen (rx.size.trans (q.trans ry.size.symm))
    exact ⟨RcAt.lists_lengths hl hl' hsz hu, RcNeAt.lists_lengths hl hl' hsz hu, eqAt_of_rc (RcAt.lists_lengths hl hl' hsz hu) hs⟩
theorem eq_nv (S : St w B σ hp s.heap) {b : AV} {u : Value} (hu : A.units < cLine) (h : someV hp b = some false) (rb : RV B s.heap σ b u) : EqAll A s .none u false /\ EqAll A s u .none false := by
  rcases b with _ | _
  case int => refine xE rb fun t qq1 => ?_; try clear rb; subst qq1; exact ⟨⟨RcAt.none_int _ _, RcNeAt.none_int _ _, EqAt.none_int _ _⟩, ⟨RcAt.int_none _ _, RcNeAt.int_none _ _, EqAt.int_none _ _⟩⟩
  case str => refine xE rb fun t qq1 => ?_; try clear rb; subst qq1; exact ⟨⟨RcAt.none_str _ _, RcNeAt.none_str _ _, EqAt.none_str _ _⟩, ⟨RcAt.str_none _ _, RcNeAt.str_none _ _, EqAt.str_none _ _⟩⟩
  case tup xs =>
    refine xEEEAA rb fun a ws k qq1 oa _ => ?_; try clear rb; subst qq1
    exact ⟨⟨RcAt.none_tuple (isTuple_of oa) hu, RcNeAt.none_tuple (isTuple_of oa) hu, EqAt.none_tuple (isTuple_of oa) hu⟩, ⟨RcAt.tuple_none (isTuple_of oa) hu, RcNeAt.tuple_none (isTuple_of oa) hu, EqAt.tuple_none (isTuple_of oa) hu⟩⟩
  case loc i =>
    refine xEA (Option.map_eq_some_iff.mp (show (listAt hp i).map (fun _ => false) = some false from h)) fun xs h1 _ => ?_
    refine xEEA rb fun a o qq1 e1 => ?_; try clear rb; subst qq1
    refine xEA (S.isList (listAt_is h1) e1) fun ws hl _ => ?_
    exact ⟨⟨RcAt.none_list hl hu, RcNeAt.none_list hl hu, EqAt.none_list hl hu⟩, ⟨RcAt.list_none hl hu, RcNeAt.list_none hl hu, EqAt.list_none hl hu⟩⟩
  all_goals exact none_ne h
theorem eqv_at (S : St w B σ hp s.heap) : ∀ (n : Nat) (a b : AV) (r : Bool) (A : Around) (v u : Value), eqv hp n a b = some r -> RV B s.heap σ a v -> RV B s.heap σ b u -> A.units + n < cLine -> EqAll A s v u r
  | 0, _, _, _, _, _, _, h, _, _, _ => nomatch h
  | n + 1, a, b, r, A, v, u, h, ra, rb, hu => by
    have hu' : A.units < cLine := by lia
    have H : ∀ a b r v u, eqv hp n a b = some r -> RV B s.heap σ a v -> RV B s.heap σ b u -> EqAt A.in1 s v u r := fun a b r v u h ra rb => (eqv_at S n a b r A.in1 v u h ra rb (by show A.units + 1 + n < _; lia)).eq
    cases eqv_or h with
    | none => rcases (show v = .none from ra) with rfl; rcases (show u = .none from rb) with rfl; exact ⟨RcAt.none_none, RcNeAt.none_none, EqAt.same _⟩
    | nv => rename_i hx; rcases (show v = .none from ra) with rfl; exact (eq_nv S hu' hx rb).1
    | vn => rename_i hx; rcases (show u = .none from rb) with rfl; exact (eq_nv S hu' hx ra).2
    | int x y =>
      refine xE ra fun t qq1 => ?_; try clear ra; subst qq1; refine xE rb fun t' qq1 => ?_; try clear rb; subst qq1
      have e : (x == y) = decide (x = y) := by by_cases q : x = y <;> simp [q]
      rw [<- e]
      exact ⟨RcAt.int_int _ _ _ _, RcNeAt.int_int _ _ _ _, EqAt.int_int _ _ _ _⟩
    | str x y =>
      refine xE ra fun t qq1 => ?_; try clear ra; subst qq1; refine xE rb fun t' qq1 => ?_; try clear rb; subst qq1
      rw [<- str_eq_iff]
      exact ⟨RcAt.str_str _ _ _ _, RcNeAt.str_str _ _ _ _, EqAt.str_str _ _ _ _⟩
    | tup xs ys r he =>
      have hs := eqv_same S (n + 1) (.tup xs) (.tup ys) v r h ra
      refine xEEEAA ra fun a ws k qq1 oa rx => ?_; try clear ra; subst qq1; refine xEEEAA rb fun b us k' qq1 ob ry => ?_; try clear rb; subst qq1
      refine xEA (eq_seq H he rx ry) fun e hr he => ?_
      exact eq_tups hu' oa ob hr he fun q => hs ⟨b, us, k', by rw [q], ob, ry⟩
    | loc i j r h => exact eq_locs S H hu' h ra rb
end
end
section
open PySem PySem.Spec PyProof.Rows PySem.SeqAt
theorem sizeLim_le {n : Nat} (h : n <= sizeLim) : n <= sizeLine := Nat.le_trans h (by decide +kernel)
section
variable {P : Par} {A : Around} {σ : Sg} {hp : AHeap} {s : Shared} {E : Value -> Shared -> Prop}
theorem Par.Ok.noLimit (ok : P.Ok) (S : St P.w P.B σ hp s.heap) : s.heap.NoLimit := ok.nolimit.keeps S.base
theorem Par.Ok.noSeer (ok : P.Ok) (S : St P.w P.B σ hp s.heap) : s.heap.NoSeer := ok.seer.keeps S.base
theorem mulOk_ok {a b : Int} (h : mulOk a b = true) : IntMulOk a b := by
  simp only [mulOk, Bool.or_eq_true, decide_eq_true_eq] at h
  rcases h with h | h
  . exact IntMulOk.of_left (intBits_le_64 (by omega) (by omega))
  . exact IntMulOk.of_right (intBits_le_64 (by omega) (by omega))
theorem qv_newList (S : St P.w P.B σ hp s.heap) {ws : Array Value} (hr : RVs P.B s.heap σ vs ws.toList) (hb : newList vs hp ≠ .bad) :
    ws.size <= sizeLine /\ QV P σ s (newList vs hp) (.ref s.heap.objs.size) { s with heap := s.heap.push { cls := .type "list", data := .seq ws } } := by
  unfold newList at hb |-
  split at hb
  . rename_i hsz
    have hl := hr.size
    refine ⟨sizeLim_le (hl ▸ hsz), ?_⟩
    rw [if_pos hsz]
    refine xA (S.alloc (X := []) { cls := .type "list", data := .seq ws } 0 (.list vs) fun g => ⟨ws, 0, Heap.get?_push_size _ rfl, RVs.grows g _ _ hr, sizeLim_le hsz⟩) fun S' g => ?_
    refine ⟨_, _, _, rfl, ⟨rfl, S', g⟩, s.heap.objs.size, 0, rfl, ?_⟩
    rw [<- S.len]; simp
  . exact absurd rfl hb
theorem St.isL (S : St P.w P.B σ hp s.heap) {n : Nat} {off : Nat} (e : hp[n]? = some (.list xs)) (hs : σ[n]? = some (a, off)) :
    ∃ ws k, IsL s.heap a ws k /\ RVs P.B s.heap σ xs ws.toList := by
  refine xEEAA (S.obj n a off _ hs e) fun ws k o r _ => ?_
  exact ⟨ws, k, o, r⟩
theorem St.isLen (S : St P.w P.B σ hp s.heap) {n : Nat} {off : Nat} (e : hp[n]? = some (.list xs)) (hs : σ[n]? = some (a, off)) : xs.length <= sizeLine := by
  refine xEEAA (S.obj n a off _ hs e) fun ws k o r q => ?_
  exact q
inductive BinK : BOp -> AV -> AV -> Prop
  | int (op : BOp) (x y : Int) : BinK op (.int x) (.int y)
  | str (x y : List Nat) : BinK .add (.str x) (.str y)
  | cat (n m : Nat) : BinK .add (.loc n) (.loc m)
theorem binAV_or {h : AHeap} (hb : binAV op a b h ≠ .bad) : BinK op a b := by
  rcases a with _ | _
  case int x =>
    rcases b with _ | _
    case int y => exact .int op x y
    all_goals exact absurd rfl hb
  case str x =>
    rcases b with _ | _
    case str y => rcases op with _ | _ <;> first | exact .str x y | exact absurd rfl hb
    all_goals exact absurd rfl hb
  case loc n =>
    rcases b with _ | _
    case loc m => rcases op with _ | _ <;> first | exact .cat n m | exact absurd rfl hb
    all_goals exact absurd rfl hb
  all_goals exact absurd rfl hb
theorem newListO_is {h : AHeap} (hb : newListO o h ≠ .bad) : ∃ vs, o = some vs /\ newList vs h ≠ .bad := by
  rcases o with _ | vs
  case none => exact absurd rfl hb
  case some => exact ⟨vs, rfl, hb⟩
theorem neg_if [Decidable c] {α : Type} {y : Res α} (hb : (if c then Res.bad else y) ≠ .bad) : ¬ c := fun hc => hb (if_pos hc)
theorem pos_if [Decidable c] {α : Type} {y : Res α} (hb : (if c then y else Res.bad) ≠ .bad) : c := Classical.byContradiction fun hc => hb (if_neg hc)
theorem bin_int (S : St P.w P.B σ hp s.heap) (hroom : PylongRoom (model P.prog P.w) A s) {t t' : Tok} (hop : compBOp op = some bop) (hb : binI bop x y hp ≠ .bad) : wpAny (model P.prog P.w) A (binaryOp op (.int x t) (.int y t')) (QV P σ s (binI bop x y hp)) E s := by
  rcases op with _ | _ <;> (try exact none_ne hop) <;> cases hop
  . exact add_int ⟨_, _, _, rfl, .tok S _, _, rfl⟩
  . exact sub_int ⟨_, _, _, rfl, .tok S _, _, rfl⟩
  . have hm := pos_if (c := mulOk x y = true) hb
    exact mul_int ⟨_, _, _, if_pos hm, .tok S _, _, rfl⟩ (mulOk_ok hm)
  . have hy := neg_if (c := y = 0) hb
    exact mod_int hy ⟨_, _, _, if_neg hy, .tok S _, _, rfl⟩
  . have hy := neg_if (c := y = 0) hb
    exact floordiv_int hy ⟨_, _, _, if_neg hy, .tok S _, _, rfl⟩ (.inr hroom)
theorem catL_is {vs : List AV} (h : catL a b = some vs) : ∃ xs ys, a = some xs /\ b = some ys /\ vs = xs ++ ys := by
  rcases a with _ | xs
  case none => exact none_ne h
  case some =>
    rcases b with _ | ys
    case none => exact none_ne h
    case some => exact ⟨xs, ys, rfl, rfl, (Option.some.inj h).symm⟩
theorem bin_cat (S : St P.w P.B σ hp s.heap) {v u : Value} (ra : RV P.B s.heap σ (.loc i) v) (rb : RV P.B s.heap σ (.loc j) u) (hb : newListO (catL (listAt hp i) (listAt hp j)) hp ≠ .bad) : wpAny (model P.prog P.w) A (binaryOp .Add v u) (QV P σ s (newListO (catL (listAt hp i) (listAt hp j)) hp)) E s := by
  refine xEEA ra fun a o qq1 e1 => ?_; try clear ra; subst qq1; refine xEEA rb fun b o' qq1 e2 => ?_; try clear rb; subst qq1
  refine xEA (newListO_is hb) fun vs hv hb => ?_
  rw [hv]
  refine xEEAA (catL_is hv) fun xs ys hi hj qq1 => ?_; subst qq1
  refine xEEA (S.isL (listAt_is hi) e1) fun ws k hl rx => ?_
  refine xEEA (S.isL (listAt_is hj) e2) fun us k' hl' ry => ?_
  have hr : RVs P.B s.heap σ (xs ++ ys) (ws ++ us).toList := by rw [Array.toList_append]; exact rx.append ry
  refine xA (qv_newList S hr hb) fun hsz hq => ?_
  exact PySem.P.add_list hl hl' hq (by rw [Array.size_append] at hsz; exact hsz)
theorem bin_prim (ok : P.Ok) (S : St P.w P.B σ hp s.heap) (ar : Arnd n q A) {v u : Value} (hop : compBOp op = some bop)
    (ra : RV P.B s.heap σ a v) (rb : RV P.B s.heap σ b u) (hb : binAV bop a b hp ≠ .bad) : wpAny (model P.prog P.w) A (binaryOp op v u) (QV P σ s (binAV bop a b hp)) E s := by
  cases binAV_or hb with
  | int bop x y =>
    refine xEEAAAA ar.frame fun f outer hf1 hf2 hf3 hf4 hf5 => ?_
    refine xE ra fun t qq1 => ?_; try clear ra; subst qq1; refine xE rb fun t' qq1 => ?_; try clear rb; subst qq1
    exact bin_int S (PylongRoom.of (ok.noLimit S) (by have := ar.depth; show A.depth + 100 < recursionLimit; lia) (SeerAt.of (ok.noSeer S) ok.tree hf1 hf2 hf3 hf4 hf5)) hop hb
  | str x y =>
    rcases op with _ | _ <;> (try exact none_ne hop) <;> cases hop
    refine xE ra fun t qq1 => ?_; try clear ra; subst qq1; refine xE rb fun t' qq1 => ?_; try clear rb; subst qq1
    have hsz := pos_if (c := x.length + y.length <= sizeLim) hb
    refine SB.add (fun t' k => ⟨.str (x ++ y), _, _, if_pos hsz, .tok S _, t', ?_⟩) (sizeLim_le hsz)
    show Value.str ⟨x.toArray ++ y.toArray⟩ t' = _
    rw [List.append_toArray]
  | cat i j =>
    rcases op with _ | _ <;> (try exact none_ne hop) <;> cases hop
    exact bin_cat S ra rb hb
end
end
section
open PySem PySem.Spec PyProof.Rows PySem.SeqAt
section
variable {w : World} {B : Bs} {σ : Sg} {hp : AHeap} {s : Shared}
theorem eqAll_fun : ∀ {xs ys vs : List AV} {us : List Value} {r r' : Bool}, eqAll f xs vs = some r -> eqAll f ys vs = some r' -> RVs B s.heap σ xs us -> RVs B s.heap σ ys us ->
    (∀ x y v u b b', f x v = some b -> f y v = some b' -> RV B s.heap σ x u -> RV B s.heap σ y u -> b = b') -> r = r' := by
  intro xs
  induction xs with
  | nil =>
    intro ys vs us r r' h h' rx ry _
    rw [rx.nil] at ry
    rcases ys with _ | ⟨y, ys⟩
    . rw [h] at h'; exact Option.some.inj h'
    . exact ry.elim
  | cons x xs ih =>
    intro ys vs us r r' h h' rx ry H
    refine xEEAA rx.cons fun u us qq1 r1 r2 => ?_; subst qq1
    rcases ys with _ | ⟨y, ys⟩
    . exact ry.elim
    rcases vs with _ | ⟨v, vs⟩
    . exact (Option.some.inj h).symm.trans (Option.some.inj h')
    refine xEEAA (and2_is h) fun b c h1 h2 h3 => ?_
    refine xEEAA (and2_is h') fun b' c' h1' h2' h3' => ?_
    rw [h3, h3', H x y v u b b' h1 h1' r1 ry.1, ih h2 h2' r2 ry.2 H]
noncomputable def decV : Value -> Option AV
  | .none => some .none
  | .bool b => some (.bool b)
  | .int i _ => some (.int i)
  | .str x _ => some (.str x.cps.toList)
  | _ => none
theorem RV.dec (r : RV B h σ x u) (hr : ∀ a, u ≠ .ref a) : decV u = some x := by
  rcases x with _ | b | i | t | xs | j | _
  . rw [show u = .none from r]; rfl
  . rw [show u = .bool b from r]; rfl
  . refine xE r fun t e => ?_; rw [e]; rfl
  . refine xE r fun t e => ?_; rw [e]; rfl
  . refine xEEEA r fun a _ _ e _ => ?_; exact absurd e (hr a)
  . refine xEEA r fun a _ e _ => ?_; exact absurd e (hr a)
  . refine xEEEEA r fun a _ _ _ e _ => ?_; exact absurd e (hr a)
  . refine xEEA r fun a _ e _ => ?_; exact absurd e (hr a)
theorem eqv_fun (S : St w B σ hp s.heap) : ∀ (n : Nat) (x y v : AV) (u : Value) (b b' : Bool), eqv hp n x v = some b -> eqv hp n y v = some b' -> RV B s.heap σ x u -> RV B s.heap σ y u -> b = b'
  | 0, _, _, _, _, _, _, h, _, _, _ => nomatch h
  | n + 1, x, y, v, u, b, b', h, h', rx, ry => by
    by_cases hr : ∃ a, u = .ref a
    . have H : ∀ x y v u b b', eqv hp n x v = some b -> eqv hp n y v = some b' -> RV B s.heap σ x u -> RV B s.heap σ y u -> b = b' := fun x y v u b b' => eqv_fun S n x y v u b b'
      refine xE hr fun a hu => ?_
      have ne : u ≠ .none := by rw [hu]; exact fun q => nomatch q
      cases eqv_or h with
      | none => exact absurd rx ne
      | nv => exact absurd rx ne
      | int => refine xE rx fun t e => ?_; rw [hu] at e; cases e
      | str => refine xE rx fun t e => ?_; rw [hu] at e; cases e
      | vn =>
        cases eqv_or h' with
        | none => exact absurd ry ne
        | nv => rename_i hv; exact none_ne hv
        | vn => rfl
      | tup xs zs b e =>
        cases eqv_or h' with
        | tup ys zs b' e' =>
          clear H hr
          refine xEEEAA rx fun a ws k qq oa rx1 => ?_
          refine xEEEAA ry fun c us k' q ob ry1 => ?_
          rw [qq] at q
          cases q
          have := (objAt_uniq oa ob).2
          cases this
          exact eqAll_fun e e' rx1 ry1 fun x y v u b b' => eqv_fun S n x y v u b b'
        | nv => exact absurd ry ne
      | loc i k b e =>
        cases eqv_or h' with
        | loc j k b' e' =>
          refine xEEA rx fun a o qq e1 => ?_
          refine xEEA ry fun c o' q e2 => ?_
          rw [qq] at q
          cases q
          obtain rfl := S.inj e1 e2
          rw [e] at e'; exact Option.some.inj e'
        | nv => exact absurd ry ne
    . have q := (rx.dec fun a e => hr ⟨a, e⟩).symm.trans (ry.dec fun a e => hr ⟨a, e⟩)
      rw [Option.some.inj q] at h
      exact Option.some.inj (h.symm.trans h')
theorem or2_is (h : or2 a b = some r) : ∃ x y, a = some x /\ b = some y /\ r = (x || y) := by
  rcases a with _ | x
  . exact none_ne h
  rcases b with _ | y
  . exact none_ne h
  exact ⟨x, y, rfl, rfl, (Option.some.inj h).symm⟩
theorem findEq_spec : ∀ {xs : List AV} {r : Bool}, findEq hp v xs = some r -> (∀ (j : Nat) x, xs[j]? = some x -> ∃ b, eqv hp eqFuel x v = some b) /\ (r = true ↔ ∃ (j : Nat) (x : AV), xs[j]? = some x /\ eqv hp eqFuel x v = some true)
  | [], r, h => by rw [<- Option.some.inj h]; simp
  | x :: xs, r, h => by
    refine xEEAA (or2_is h) fun b c h1 h2 h => ?_
    replace h := h.symm
    next =>
      next =>
        refine xA (findEq_spec h2) fun ih1 ih2 => ?_
        refine ⟨fun j y hy => ?_, ?_⟩
        . rcases j with _ | j
          case zero => simp at hy; subst hy; exact ⟨b, h1⟩
          case succ => simp at hy; exact ih1 j y hy
        . rw [<- h, Bool.or_eq_true, ih2]
          constructor
          . rintro (rfl | ⟨j, y, e1, e2⟩)
            . exact ⟨0, x, by simp, h1⟩
            . exact ⟨j + 1, y, by simpa using e1, e2⟩
          . rintro ⟨j, y, e1, e2⟩
            rcases j with _ | j
            case zero => simp at e1; subst e1; rw [h1] at e2; left; exact Option.some.inj e2
            case succ => right; exact ⟨j, y, by simpa using e1, e2⟩
open Classical in
theorem eq_items (S : St w B σ hp s.heap) {ws : Array Value} (hd : ∀ (j : Nat) x, xs[j]? = some x -> ∃ b, eqv hp eqFuel x v = some b) (rx : RVs B s.heap σ xs ws.toList) (rv : RV B s.heap σ v u) (hu : A.units + eqFuel < cLine) :
    ∃ e : Value -> Bool, (∀ y, y ∈ ws -> EqAt A s y u (e y)) /\ ∀ (j : Nat) y x, ws[j]? = some y -> xs[j]? = some x -> eqv hp eqFuel x v = some (e y) := by
  have key : ∀ (j : Nat) (y : Value) (x : AV), ws[j]? = some y -> xs[j]? = some x -> eqv hp eqFuel x v = some (decide (∃ (j : Nat) (x : AV), ws[j]? = some y /\ xs[j]? = some x /\ eqv hp eqFuel x v = some true)) := by
    intro j y x hy hx
    refine xE (hd j x hx) fun b hb => ?_
    rw [hb]
    congr 1
    rcases b with _ | _
    case true => exact (decide_eq_true ⟨j, x, hy, hx, hb⟩).symm
    case false =>
      refine (decide_eq_false ?_).symm
      rintro ⟨k, z, hy', hz, ht⟩
      refine xEA (rx.get hx) fun v1 e1 q1 => ?_
      refine xEA (rx.get hz) fun v2 e2 q2 => ?_
      rw [Array.getElem?_toList, hy] at e1
      rw [Array.getElem?_toList, hy'] at e2
      cases e1; cases e2
      exact absurd (eqv_fun S _ _ _ _ _ _ _ hb ht q1 q2) (by simp)
  refine ⟨fun y => decide (∃ (j : Nat) (x : AV), ws[j]? = some y /\ xs[j]? = some x /\ eqv hp eqFuel x v = some true), ?_, key⟩
  . intro y hy
    refine xE (Array.mem_iff_getElem.mp hy) fun j qq1 => ?_; refine xE qq1 fun hj e => ?_
    have ey : ws[j]? = some y := by rw [Array.getElem?_eq_getElem hj, e]
    have hl := rx.size
    have ex : xs[j]? = some xs[j] := List.getElem?_eq_getElem (by lia)
    refine xEA (rx.get ex) fun v1 e1 q1 => ?_
    rw [Array.getElem?_toList, ey] at e1
    cases e1
    exact (eqv_at S _ _ _ _ A _ _ (key j y _ ey ex) q1 rv hu).eq
theorem any_items {ws : Array Value} (h : findEq hp v xs = some r) (rx : RVs B s.heap σ xs ws.toList) (he : ∀ (j : Nat) y x, ws[j]? = some y -> xs[j]? = some x -> eqv hp eqFuel x v = some (e y)) : ws.any e = r := by
  refine xA (findEq_spec h) fun hd hr => ?_
  have hl := rx.size
  have : ws.any e = true ↔ r = true := by
    rw [hr, Array.any_eq_true]
    constructor
    . rintro ⟨j, hj, ht⟩
      have ex : xs[j]? = some xs[j] := List.getElem?_eq_getElem (by lia)
      exact ⟨j, _, ex, by rw [he j _ _ (Array.getElem?_eq_getElem hj) ex, ht]⟩
    . rintro ⟨j, x, hx, ht⟩
      have hj : j < ws.size := by have := (List.getElem?_eq_some_iff.mp hx).1; lia
      have := he j _ x (Array.getElem?_eq_getElem hj) hx
      rw [ht] at this
      exact ⟨j, hj, (Option.some.inj this).symm⟩
  rcases h1 : ws.any e with _ | _ <;> rcases h2 : r with _ | _ <;> simp_all
end
end
section
open PySem PySem.Spec PyProof.Rows PySem.SeqAt
section
variable {P : Par} {A : Around} {σ : Sg} {hp : AHeap} {s : Shared} {E : Value -> Shared -> Prop}
theorem key_tuple (r : RV B h σ (Key.pair a b).av v) : ∃ c, v = .ref c /\ IsTupleKey (intKind P.prog P.w) h [a, b] c := by
  refine xEEEAA r fun c ws n qq1 o rs => ?_; try clear r; subst qq1
  refine ⟨c, rfl, _, ws, n, o, rfl, rfl, ?_⟩
  obtain ⟨wl⟩ := ws
  replace rs : RVs B h σ [.int a, .int b] wl := rs
  refine xEEAA rs.cons fun x r1 qq1 qq2 rs2 => ?_; subst qq1; refine xE qq2 fun t qq1 => ?_; try clear qq2; subst qq1
  refine xEAE rs2.one fun y qq1 u qq2 => ?_; subst qq1; subst qq2
  exact .cons (by simp [intKind, Value.isInt]) (.cons (by simp [intKind, Value.isInt]) .nil)
theorem pyHash_prim (r : RV P.B s.heap σ k.av v) (hu : A.units < cLine) :
    ∃ d, ∀ (E : Value -> Shared -> Prop) (Q : Int -> Shared -> Prop), Q (keyHash P.w k) { s with toks := s.toks + d } -> wpAny (model P.prog P.w) A (pyHash v) Q E s := by
  rcases k with x | ⟨a, b⟩
  case str =>
    refine xE r fun t qq1 => ?_; try clear r; subst qq1
    exact ⟨1, fun E Q h => wpAny_pyHash_str h⟩
  case pair =>
    refine xEA (key_tuple (P := P) r) fun c qq1 ht => ?_; subst qq1
    exact ⟨3, fun E Q h => wpAny_pyHash_tuple hu ht h⟩
theorem REs.idx : ∀ {ps : List (Key × AV)} {es : List DictEntry}, REs w B h σ ps es ->
    (∀ p e, p ∈ ps -> e.hash = keyHash w p.1 -> RV B h σ p.1.av e.key -> f e = (p.1 == k)) -> es.findIdx? f = ps.findIdx? (fun p => p.1 == k)
  | [], [], _, _ => rfl
  | p :: ps, e :: es, r, H => by
    rw [List.findIdx?_cons, List.findIdx?_cons, H p e (.head _) r.1.1 r.1.2.1, REs.idx r.2 fun p e hp => H p e (.tail _ hp)]
  | [], _ :: _, r, _ => r.elim
  | _ :: _, [], r, _ => r.elim
theorem REs.mem : ∀ {ps : List (Key × AV)} {es : List DictEntry}, REs w B h σ ps es -> ∀ e ∈ es, ∃ p ∈ ps, e.hash = keyHash w p.1 /\ RV B h σ p.1.av e.key /\ RV B h σ p.2 e.val
  | [], [], _, e, he => nomatch he
  | p :: ps, e' :: es, r, e, he => by
    rcases List.mem_cons.mp he with rfl | he
    . exact ⟨p, .head _, r.1⟩
    . refine xEA (REs.mem r.2 e he) fun q hq x => ?_
      exact ⟨q, .tail _ hq, x⟩
  | [], _ :: _, r, _, _ => r.elim
  | _ :: _, [], r, _, _ => r.elim
noncomputable def pairK : Key -> List Int
  | .pair a b => [a, b]
  | _ => []
theorem REs.pairs : ∀ {ps : List (Key × AV)} {es : List DictEntry}, REs P.w B h σ ps es -> (∀ p ∈ ps, p.1.sort = true) ->
    ∃ xs : List (List Int × Addr × Value), es = xs.map (entryOfKey (tupleKind (intKind P.prog P.w))) /\ (∀ x ∈ xs, IsTupleKey (intKind P.prog P.w) h x.1 x.2.1) /\ xs.map (·.1) = ps.map (fun p => pairK p.1)
  | [], [], _, _ => ⟨[], rfl, fun _ hx => (nomatch hx), rfl⟩
  | p :: ps, e :: es, r, H => by
    refine xEAA (REs.pairs r.2 fun q hq => H q (.tail _ hq)) fun xs h1 h2 h3 => ?_
    obtain ⟨k, v⟩ := p
    rcases k with i | ⟨a, b⟩
    case str => exact absurd (H _ (.head _)) (by simp [Key.sort])
    case pair =>
      refine xEA (key_tuple (P := P) r.1.2.1) fun c hc ht => ?_
      refine ⟨([a, b], c, e.val) :: xs, ?_, ?_, ?_⟩
      . rw [List.map_cons, h1]
        congr 1
        obtain ⟨hh, hk, hv⟩ := e
        simp only [entryOfKey]
        have e1 := r.1.1
        simp only at e1 hc
        rw [e1, hc]
        rfl
      . intro x hx
        rcases List.mem_cons.mp hx with rfl | hx
        . exact ht
        . exact h2 x hx
      . rw [List.map_cons, h3]; rfl
  | [], _ :: _, r, _ => r.elim
  | _ :: _, [], r, _ => r.elim
theorem sortOk_iff : sortOk kvs k = true ↔ ∀ p ∈ kvs, p.1.sort = k.sort := by
  simp [sortOk, List.all_eq_true]
theorem pairK_inj (hk : k.sort = true) : pairK k = [a, b] ↔ k = .pair a b := by
  rcases k with _ | ⟨x, y⟩
  . exact nomatch hk
  . exact ⟨fun e => by cases e; rfl, fun e => by cases e; rfl⟩
theorem findIdx_of_nodup {ps : List (Key × AV)} (hn : (ps.map (·.1)).Nodup) (h : ps[j]? = some (k, v)) : ps.findIdx? (fun p => p.1 == k) = some j := by
  refine xE (List.getElem?_eq_some_iff.mp h) fun hj e => ?_
  rw [List.findIdx?_eq_some_iff_getElem]
  refine ⟨hj, by rw [e]; simp, fun i hi => ?_⟩
  have hi' : i < ps.length := by lia
  intro q
  have q := eq_of_beq q
  have h1 : (ps.map (·.1))[i]? = some k := by rw [List.getElem?_map, List.getElem?_eq_getElem hi']; simp [q]
  have h2 : (ps.map (·.1))[j]? = some k := by rw [List.getElem?_map, h]; rfl
  have := (List.getElem?_inj (by simpa using hi') hn).mp (h1.trans h2.symm)
  lia
theorem dictFind_prim {es : Array DictEntry} (ho : s.heap.get? a = some o) (hd : o.data = .dict es ep) (re : REs P.w P.B s.heap σ kvs es.toList) (hn : (kvs.map (·.1)).Nodup)
    {k : Key} {v : Value} (r : RV P.B s.heap σ k.av v) (hs : sortOk kvs k = true) (hu : A.units < cLine) {Q : Option Nat -> Shared -> Prop} (h : Q (kvs.findIdx? fun p => p.1 == k) s) :
    wpAny (model P.prog P.w) A (dictFind a v (keyHash P.w k)) Q E s := by
  have hsort := sortOk_iff.mp hs
  rcases k with x | ⟨p, q⟩
  case str =>
    refine xE r fun t qq1 => ?_; try clear r; subst qq1
    refine wpAny_dictFind_of (knd := PySem.strKind P.prog P.w) (k := ⟨x.toArray⟩) (by simp [PySem.strKind, Value.isStrOf]) ho hd (fun e he => ?_) ?_
    . refine xEAAA (re.mem e (Array.mem_toList_iff.mpr he)) fun p hp h1 h2 h3 => ?_
      have := hsort p hp
      obtain ⟨kk, vv⟩ := p
      rcases kk with _ | _ <;> simp [Key.sort] at this
      obtain ⟨t', h2⟩ := h2
      exact ⟨_, by rw [h2]; simp [PySem.strKind, Value.isStrOf], h1⟩
    . have : es.findIdx? (fun e => (PySem.strKind P.prog P.w).is ⟨x.toArray⟩ e.key) = kvs.findIdx? (fun p => p.1 == Key.str x) := by
        obtain ⟨el⟩ := es
        rw [List.findIdx?_toArray]
        refine re.idx fun p e hp h1 h2 => ?_
        have := hsort p hp
        obtain ⟨kk, vv⟩ := p
        rcases kk with _ | _ <;> simp [Key.sort] at this
        obtain ⟨t', h2⟩ := h2
        rw [h2]
        rename_i j
        show ((⟨j.toArray⟩ : Str) == ⟨x.toArray⟩) = (Key.str j == Key.str x)
        rw [str_eq_iff]
        by_cases q : j = x <;> simp [q]
      rw [this]; exact h
  case pair =>
    refine xEA (key_tuple (P := P) r) fun c qq1 ht => ?_; subst qq1
    refine xEAA (re.pairs (P := P) fun p hp => (hsort p hp).trans rfl) fun xs h1 h2 h3 => ?_
    have hlen : xs.length = kvs.length := by have := congrArg List.length h3; simpa using this
    have hnx : (xs.map (·.1)).Nodup := by
      rw [h3]
      have : kvs.map (fun p => pairK p.1) = (kvs.map (·.1)).map pairK := by simp
      rw [this]
      refine List.pairwise_map.mpr (List.Pairwise.imp_of_mem ?_ hn)
      intro x y hx hy hne e
      refine hne ?_
      refine xEA (List.mem_map.mp hx) fun p1 hp1 qq1 => ?_; subst qq1
      refine xEA (List.mem_map.mp hy) fun p2 hp2 qq1 => ?_; subst qq1
      have s1 := hsort p1 hp1
      have s2 := hsort p2 hp2
      obtain ⟨k1, _⟩ := p1
      obtain ⟨k2, _⟩ := p2
      rcases k1 with _ | ⟨x1, y1⟩
      . exact nomatch s1
      rcases k2 with _ | ⟨x2, y2⟩
      . exact nomatch s2
      exact (pairK_inj (a := x2) (b := y2) rfl).mp e
    have hat : ∀ j : Nat, (∃ w, xs[j]? = some ([p, q], w)) ↔ ∃ w, kvs[j]? = some (Key.pair p q, w) := by
      intro j
      have e := congrArg (·[j]?) h3
      simp only [List.getElem?_map] at e
      constructor
      . rintro ⟨w, hw⟩
        rw [hw] at e
        rcases hk : kvs[j]? with _ | y
        case none => rw [hk] at e; cases e
        case some =>
          rw [hk] at e
          simp only [Option.map_some, Option.some.injEq] at e
          obtain ⟨k, w'⟩ := y
          have hs' := hsort _ (List.mem_of_getElem? hk)
          have := (pairK_inj (a := p) (b := q) (hs'.trans rfl)).mp e.symm
          exact ⟨w', by simp at this; rw [this]⟩
      . rintro ⟨w, hw⟩
        rw [hw] at e
        rcases hk : xs[j]? with _ | y
        case none => rw [hk] at e; cases e
        case some =>
          rw [hk] at e
          obtain ⟨k, w'⟩ := y
          exact ⟨w', by rw [show k = [p, q] from Option.some.inj e]⟩
    refine wpAny_dictFind_heap (knd := tupleKind (intKind P.prog P.w)) (k := [p, q]) hu ht ho hd h1 h2 hnx (fun hno => ?_) (fun j w hj => ?_)
    . have : kvs.findIdx? (fun y => y.1 == Key.pair p q) = none := by
        rw [List.findIdx?_eq_none_iff]
        intro y hy
        refine xE (List.mem_iff_getElem.mp hy) fun j qq1 => ?_; refine xE qq1 fun hj e => ?_
        obtain ⟨k, w⟩ := y
        simp only [beq_eq_false_iff_ne, ne_eq]
        rintro rfl
        refine xE ((hat j).mpr ⟨w, by rw [List.getElem?_eq_getElem hj, e]⟩) fun w' hw' => ?_
        exact hno j w' hw'
      rw [this] at h; exact h
    . refine xE ((hat j).mp ⟨w, hj⟩) fun w' hw' => ?_
      rw [findIdx_of_nodup hn hw'] at h
      exact h
end
end
section
open PySem PySem.Spec PyProof.Rows PySem.SeqAt
section
variable {P : Par} {A : Around} {σ : Sg} {hp : AHeap} {s : Shared} {E : Value -> Shared -> Prop}
theorem find_lookup : ∀ (kvs : List (Key × AV)), (kvs.findIdx? (fun p => p.1 == k) = none /\ kvs.lookup k = none) \/ ∃ i v, kvs.findIdx? (fun p => p.1 == k) = some i /\ kvs[i]? = some (k, v) /\ kvs.lookup k = some v
  | [] => .inl ⟨rfl, rfl⟩
  | (k', v) :: r => by
    rw [List.findIdx?_cons, List.lookup_cons]
    by_cases h : k' = k
    . subst h
      exact .inr ⟨0, v, by simp, by simp, by simp⟩
    . have h1 : (k' == k) = false := beq_eq_false_iff_ne.mpr h
      have h2 : (k == k') = false := beq_eq_false_iff_ne.mpr fun e => h e.symm
      simp only [h1, h2, Bool.false_eq_true, if_false]
      rcases find_lookup r with ⟨e1, e2⟩ | ⟨i, w, e1, e2, e3⟩
      . exact .inl ⟨by rw [e1]; rfl, e2⟩
      . exact .inr ⟨i + 1, w, by rw [e1]; rfl, by simpa using e2, e3⟩
theorem St.isDict (S : St P.w P.B σ hp s.heap) {n : Nat} (e : hp[n]? = some (.dict kvs ep)) (hs : σ[n]? = some (a, off)) :
    ∃ es, ObjAt s.heap a (.type "dict") (.dict es (off + ep)) /\ REs P.w P.B s.heap σ kvs es.toList /\ (kvs.map (·.1)).Nodup /\ (∀ p ∈ kvs, ∀ q ∈ kvs, p.1.sort = q.1.sort) /\ kvs.length <= sizeLine :=
  S.obj n a off _ hs e
theorem St.notMods (S : St P.w P.B σ hp s.heap) (ok : P.Ok) {n : Nat} (hs : σ[n]? = some (a, off)) : (a == sysModules) = false := by
  refine beq_eq_false_iff_ne.mpr fun e => ?_
  refine xE ok.mods fun o ho => ?_
  have := S.new _ (List.mem_of_getElem? hs)
  simp only at this
  rw [e, ho] at this
  cases this
theorem dictGet_prim (S : St P.w P.B σ hp s.heap) {j : Nat} (hj : hp[j]? = some (.dict kvs ep)) (hs : σ[j]? = some (a, off))
    {k : Key} {v : Value} (r : RV P.B s.heap σ k.av v) (hso : sortOk kvs k = true) (hu : A.units < cLine) :
    ∃ d, ∀ (E : Value -> Shared -> Prop) (Q : Option Value -> Shared -> Prop), (kvs.lookup k = none -> Q none { s with toks := s.toks + d }) -> (∀ x u, kvs.lookup k = some x -> RV P.B s.heap σ x u -> Q (some u) { s with toks := s.toks + d }) ->
      wpAny (model P.prog P.w) A (dictGet a v) Q E s := by
  refine xEAAA (S.isDict hj hs) fun es ho re hn _ => ?_
  refine xE (pyHash_prim (A := A) r hu) fun d hh => ?_
  refine ⟨d, fun E Q h1 h2 => ?_⟩
  unfold dictGet
  refine wpAny_holding (wpAny_bind (hh _ _ (wpAny_bind (dictFind_prim (s := { s with toks := s.toks + d }) ho rfl re hn r hso hu ?_))))
  rcases find_lookup (k := k) kvs with ⟨e1, e2⟩ | ⟨i, x, e1, e2, e3⟩
  . rw [e1]
    exact wpAny_pure (h1 e2)
  . rw [e1]
    refine wpAny_bind (wpAny_dictEntries (s := { s with toks := s.toks + d }) ho rfl ?_)
    refine xEAAA (re.get e2) fun en f1 f2 f3 f4 => ?_
    rw [Array.getElem?_toList] at f1
    rw [f1]
    exact wpAny_pure (h2 x _ e3 f4)
theorem in_dict (ok : P.Ok) (S : St P.w P.B σ hp s.heap) {j : Nat} {ep : Nat} (hj : hp[j]? = some (.dict kvs ep)) (hs : σ[j]? = some (a, off))
    {k : Key} {v : Value} (r : RV P.B s.heap σ k.av v) (hso : sortOk kvs k = true) (hu : A.units + 1 < cLine) {Q : Bool -> Shared -> Prop} (h : ∀ d, Q (kvs.lookup k).isSome { s with toks := s.toks + d }) :
    wpAny (model P.prog P.w) A (contains (.ref a) v) Q E s := by
  refine xEAAA (S.isDict hj hs) fun es ho re hn _ => ?_
  have hT : s.TypeIs (.ref a) "dict" := ⟨_, ho, rfl⟩
  refine xE (dictGet_prim (A := A.in1) S hj hs r hso (by simpa using hu)) fun d hh => ?_
  unfold contains
  try with_reducible refine wpAny_holding ?_
  refine wpAny_bind (wpAny_specialOf hT slot_dict_contains.lookup ?_)
  show wpAny _ _ (if (some (Value.builtin "dict.__contains__") == some Value.none) = true then _ else _) _ E s
  rw [if_neg (by rw [beq_builtin_none]; exact Bool.false_ne_true)]
  refine wpAny_bind (wpAny_callSpecialUnlessNone?_slot (name := Str.ofString "__contains__") hT slot_dict_contains
    (wpAny_call_entry slot_dict_contains hT entry_dict_contains ?_ (args_dict_contains _ _)))
  show wpAny _ _ (dictGet a v >>= _) _ _ s
  refine wpAny_bind (hh _ _ (fun e => ?_) (fun x u e rx => ?_))
  . show wpAny _ _ (Builtin.Dict.pendingKey? a v >>= _) _ _ _
    refine wpAny_bind (wpAny_pendingKey_other (S.notMods ok hs) (wpAny_pure ⟨_, rfl, wpAny_truthy_bool ?_⟩))
    have := h d
    rw [e] at this
    exact this
  . show wpAny _ _ (ret (.bool true)) _ _ _
    refine wpAny_pure ⟨_, rfl, wpAny_truthy_bool ?_⟩
    have := h d
    rw [e] at this
    exact this
theorem intOf_is (h : intOf x = some i) : x = .int i := by
  rcases x with _ | _ <;> first | exact none_ne h | (cases h; rfl)
theorem key_av {a : AV} (h : a.key? = some k) : a = k.av := by
  rcases a with _ | _ | _ | s | vs | _ <;> try exact none_ne h
  case str => cases h; rfl
  case tup =>
    rcases vs with _ | ⟨x, _ | ⟨y, _ | ⟨z, t⟩⟩⟩ <;> try exact none_ne h
    refine xEA (Option.bind_eq_some_iff.mp h) fun a ha h => ?_
    refine xEA (Option.bind_eq_some_iff.mp h) fun b hb h => ?_
    cases h; rw [intOf_is ha, intOf_is hb]; rfl
theorem getItem_dict (ok : P.Ok) (S : St P.w P.B σ hp s.heap) {j : Nat} (hj : hp[j]? = some (.dict kvs ep)) (hs : σ[j]? = some (a, off))
    {k : Key} {v : Value} (r : RV P.B s.heap σ k.av v) (hso : sortOk kvs k = true) (hu : A.units + 1 < cLine) {x : AV} (hx : kvs.lookup k = some x) {Q : Value -> Shared -> Prop} (h : ∀ d u, RV P.B s.heap σ x u -> Q u { s with toks := s.toks + d }) :
    wpAny (model P.prog P.w) A (getItem (.ref a) v) Q E s := by
  refine xEAAA (S.isDict hj hs) fun es ho re hn _ => ?_
  have hT : s.TypeIs (.ref a) "dict" := ⟨_, ho, rfl⟩
  refine xE (dictGet_prim (A := A.in1) S hj hs r hso (by simpa using hu)) fun d hh => ?_
  unfold getItem
  try with_reducible refine wpAny_holding ?_
  refine wpAny_bind (wpAny_sequenceKey hT (by decide) ?_)
  refine wpAny_bind (wpAny_callSpecial?_slot (name := Str.ofString "__getitem__") hT slot_dict_getitem
    (wpAny_call_entry slot_dict_getitem hT entry_dict_getitem ?_ (args_dict_getitem _ _)))
  show wpAny _ _ (dictGet a v >>= _) _ _ s
  refine wpAny_bind (hh _ _ (fun e => ?_) (fun x' u e rx => ?_))
  . rw [hx] at e; cases e
  . rw [hx] at e; cases e
    exact wpAny_pure ⟨u, rfl, wpAny_pure (h d u rx)⟩
theorem REs.setAt (rv : RV B h σ x v) : ∀ {ps : List (Key × AV)} {es : List DictEntry}, REs w B h σ ps es -> ∀ {i : Nat}, ps.findIdx? (fun p => p.1 == k) = some i -> (ps.map (·.1)).Nodup ->
    REs w B h σ (ps.map (fun p => if p.1 == k then (p.1, x) else p)) (es.modify i fun e => { e with val := v })
  | p :: ps, e :: es, r, i, hi, hn => by
    rw [List.findIdx?_cons] at hi
    rw [List.map_cons, List.nodup_cons] at hn
    by_cases h : p.1 == k
    . rw [if_pos h] at hi
      cases hi
      have hrest : ps.map (fun p => if p.1 == k then (p.1, x) else p) = ps := by
        conv => rhs; rw [<- List.map_id ps]
        refine List.map_congr_left fun q hq => ?_
        have : (q.1 == k) = false := beq_eq_false_iff_ne.mpr fun e => hn.1 (by rw [eq_of_beq h, <- e]; exact List.mem_map_of_mem (f := (·.1)) hq)
        rw [if_neg (by rw [this]; simp)]; rfl
      rw [List.map_cons, if_pos h, hrest]
      exact ⟨⟨r.1.1, r.1.2.1, rv⟩, r.2⟩
    . rw [if_neg h] at hi
      rcases hj : ps.findIdx? (fun p => p.1 == k) with _ | j
      case none => rw [hj] at hi; cases hi
      case some =>
        rw [hj] at hi
        cases hi
        rw [List.map_cons, if_neg h]
        exact ⟨r.1, REs.setAt rv r.2 hj hn.2⟩
  | [], [], _, _, hi, _ => by cases hi
  | [], _ :: _, r, _, _, _ => r.elim
  | _ :: _, [], r, _, _, _ => r.elim
theorem map_put_keys (ps : List (Key × AV)) : (ps.map (fun p => if p.1 == k then (p.1, x) else p)).map (·.1) = ps.map (·.1) := by
  rw [List.map_map]
  refine List.map_congr_left fun q _ => ?_
  simp only [Function.comp]
  split <;> rfl
theorem any_eq_lookup (kvs : List (Key × AV)) : kvs.any (fun p => p.1 == k) = (kvs.lookup k).isSome := by
  induction kvs with
  | nil => rfl
  | cons p r ih =>
    obtain ⟨k', v⟩ := p
    rw [List.any_cons, List.lookup_cons, ih]
    by_cases h : k' = k
    . subst h; simp
    . have h1 : (k' == k) = false := beq_eq_false_iff_ne.mpr h
      have h2 : (k == k') = false := beq_eq_false_iff_ne.mpr fun e => h e.symm
      simp [h1, h2]
theorem dictSet_prim (S : St P.w P.B σ hp s.heap) {j : Nat} (hj : hp[j]? = some (.dict kvs ep)) (hs : σ[j]? = some (a, off))
    {k : Key} {v : Value} (r : RV P.B s.heap σ k.av v) (hso : sortOk kvs k = true) (hu : A.units < cLine) (hsz : kvs.length < sizeLim) {x : AV} {u : Value} (rx : RV P.B s.heap σ x u) {Q : Unit -> Shared -> Prop}
    (h : ∀ s', After P σ σ [] (hp.set j (.dict (dictPut kvs k x) (if (kvs.lookup k).isSome then ep else ep + 1))) s s' -> Q () s') :
    wpAny (model P.prog P.w) A (dictSet a v u) Q E s := by
  refine xEAAAA (S.isDict hj hs) fun es ho re hn hone hle => ?_
  refine xE (pyHash_prim (A := A) r hu) fun d hh => ?_
  have hlen := re.length.trans Array.length_toList
  unfold dictSet
  refine wpAny_holding (wpAny_bind (hh _ _ ?_))
  unfold dictSetHashed
  refine wpAny_holding (wpAny_bind (dictFind_prim (s := { s with toks := s.toks + d }) ho rfl re hn r hso hu ?_))
  rcases find_lookup (k := k) kvs with ⟨e1, e2⟩ | ⟨i, x', e1, e2, e3⟩
  . rw [e1]
    have hs' : Heap.SameBut a s.heap (s.heap.update a (Obj.mapDictKeys fun es => es.push ⟨keyHash P.w k, v, u⟩)) := .update ..
    have hput : dictPut kvs k x = kvs ++ [(k, x)] := by unfold dictPut; rw [any_eq_lookup, e2]; rfl
    refine wpAny_bind (wpAny_rule (wpAny_updateDictKeys (s := { s with toks := s.toks + d }) ho rfl ?_ (hz := by have := sizeLim_le (Nat.le_of_lt hsz); lia)))
    refine xA (S.upd (X := []) hs hs'.extBut (.dict (dictPut kvs k x) (if (kvs.lookup k).isSome then ep else ep + 1)) (Heap.get?_update_self _ ho rfl) fun g => by
      refine ⟨es.push ⟨keyHash P.w k, v, u⟩, ?_, ?_, ?_, ?_, ?_⟩
      . rw [e2]
        exact Heap.get?_update_self _ ho rfl
      . rw [hput, Array.toList_push]
        exact (re.grows g).append ⟨⟨rfl, RV.grows g _ _ r, RV.grows g _ _ rx⟩, trivial⟩
      . rw [hput, List.map_append, List.nodup_append]
        refine ⟨hn, by simp, fun y hy z hz e => ?_⟩
        simp at hz; subst hz; subst e
        refine xEA (List.mem_map.mp hy) fun p hp' qq1 => ?_; subst qq1
        have := (List.findIdx?_eq_none_iff.mp e1) p hp'
        simp at this
      . rw [hput]
        have hk := sortOk_iff.mp hso
        have : ∀ p ∈ kvs ++ [(k, x)], p.1.sort = k.sort := fun p hp' => by
          rcases List.mem_append.mp hp' with hp' | hp'
          . exact hk p hp'
          . simp at hp'; subst hp'; rfl
        exact fun p hp' q hq => (this p hp').trans (this q hq).symm
      . rw [hput, List.length_append]
        have := sizeLim_le hsz
        simpa using this) fun S' g => ?_
    exact h _ ⟨rfl, S', g⟩
  . rw [e1]
    have hs' : Heap.SameBut a s.heap (s.heap.update a (Obj.mapDict fun es => es.modify i fun e => { e with val := u })) := .update ..
    have hput : dictPut kvs k x = kvs.map (fun p => if p.1 == k then (p.1, x) else p) := by unfold dictPut; rw [any_eq_lookup, e3]; rfl
    refine wpAny_bind (wpAny_rule (wpAny_bind (wpAny_updateDict (s := { s with toks := s.toks + d }) ho rfl (wpAny_point ?_) (hz := by simp))))
    refine xA (S.upd (X := []) hs hs'.extBut (.dict (dictPut kvs k x) (if (kvs.lookup k).isSome then ep else ep + 1)) (Heap.get?_update_self _ ho rfl) fun g => by
      refine ⟨es.modify i fun e => { e with val := u }, ?_, ?_, ?_, ?_, ?_⟩
      . rw [e3]
        exact Heap.get?_update_self _ ho rfl
      . rw [hput]
        have := REs.setAt (RV.grows g _ _ rx) (re.grows g) e1 hn
        obtain ⟨el⟩ := es
        simpa using this
      . rw [hput, map_put_keys]; exact hn
      . rw [hput]
        have hk := sortOk_iff.mp hso
        have : ∀ p ∈ kvs.map (fun p => if p.1 == k then (p.1, x) else p), p.1.sort = k.sort := fun p hp' => by
          refine xEA (List.mem_map.mp hp') fun q hq qq1 => ?_; subst qq1
          split <;> exact hk q hq
        exact fun p hp' q hq => (this p hp').trans (this q hq).symm
      . rw [hput, List.length_map]; exact hle) fun S' g => ?_
    exact h _ ⟨rfl, S', g⟩
theorem setItem_dict (S : St P.w P.B σ hp s.heap) {j : Nat} (hj : hp[j]? = some (.dict kvs ep)) (hs : σ[j]? = some (a, off))
    {k : Key} {v : Value} (r : RV P.B s.heap σ k.av v) (hso : sortOk kvs k = true) (hu : A.units + 1 < cLine) (hsz : kvs.length < sizeLim) {x : AV} {u : Value} (rx : RV P.B s.heap σ x u) {Q : Unit -> Shared -> Prop}
    (h : ∀ s', After P σ σ [] (hp.set j (.dict (dictPut kvs k x) (if (kvs.lookup k).isSome then ep else ep + 1))) s s' -> Q () s') :
    wpAny (model P.prog P.w) A (setItem (.ref a) v u) Q E s := by
  refine xEAAA (S.isDict hj hs) fun es ho re hn _ => ?_
  have hT : s.TypeIs (.ref a) "dict" := ⟨_, ho, rfl⟩
  unfold setItem
  try with_reducible refine wpAny_holding ?_
  refine wpAny_bind (wpAny_sequenceKey hT (by decide) ?_)
  refine wpAny_bind (wpAny_callSpecial?_slot (name := Str.ofString "__setitem__") hT slot_dict_setitem
    (wpAny_call_entry slot_dict_setitem hT entry_dict_setitem ?_ (args_dict_setitem _ _ _)))
  show wpAny _ _ (Builtin.Dict.notOrdered "__setitem__" ⟨[.ref a, v, u], []⟩ >>= _) _ _ s
  refine wpAny_bind (wpAny_notOrdered_dict hT ?_)
  show wpAny _ _ (dictSet a v u >>= _) _ _ s
  exact wpAny_bind (dictSet_prim (A := A.in1) S hj hs r hso (by simpa using hu) hsz rx fun s' a => wpAny_pure ⟨.none, rfl, wpAny_pure (h s' a)⟩)
end
end
section
open PySem PySem.Spec PyProof.Rows PySem.SeqAt
inductive QB (P : Par) (σ : Sg) (hp : AHeap) (s : Shared) (r : Option Bool) (c : Value) (s' : Shared) : Prop
  | mk (b : Bool) (e : c = .bool b) (er : r = some b) (a : After P σ σ [] hp s s')
section
variable {P : Par} {A : Around} {σ : Sg} {hp : AHeap} {s : Shared} {E : Value -> Shared -> Prop}
theorem inDict_is (h : inDict kvs o = some r) : ∃ k, o = some k /\ sortOk kvs k = true /\ r = (kvs.lookup k).isSome := by
  rcases o with _ | k
  case none => exact none_ne h
  case some => exact xA (iteN h) fun hs e => ⟨_, rfl, hs, (Option.some.inj e).symm⟩
theorem chrOf_is (h : chrOf v = some c) : v = .str [c] := by
  rcases v with _ | _
  case str x =>
    rcases x with _ | ⟨a, r⟩
    case nil => exact none_ne h
    case cons =>
      rcases r with _ | ⟨_, _⟩
      case nil => cases (show some a = some c from h); rfl
      case cons => exact none_ne h
  all_goals exact none_ne h
inductive InK (hp : AHeap) (a : AV) (r : Bool) : AV -> Prop
  | tup (xs : List AV) (h : findEq hp a xs = some r) : InK hp a r (.tup xs)
  | lst (j : Nat) (xs : List AV) (hj : hp[j]? = some (.list xs)) (h : findEq hp a xs = some r) : InK hp a r (.loc j)
  | dct (j : Nat) (kvs : List (Key × AV)) (ep : Nat) (hj : hp[j]? = some (.dict kvs ep)) (h : inDict kvs a.key? = some r) : InK hp a r (.loc j)
  | str (y : List Nat) (c : Nat) (h : a = .str [c]) (hr : r = decide (c ∈ y)) : InK hp a r (.str y)
theorem isIn_or (h : isIn hp a b = some r) : InK hp a r b := by
  rcases b with _ | _
  case tup xs => exact .tup xs h
  case str y =>
    refine xEA (Option.map_eq_some_iff.mp (show (chrOf a).map (fun c => decide (c ∈ y)) = some r from h)) fun c hc hr => ?_
    exact .str y c (chrOf_is hc) hr.symm
  case loc j =>
    delta isIn at h
    dsimp only at h
    rcases hj : hp[j]? with _ | o
    case none => rw [hj] at h; exact none_ne h
    case some =>
      rw [hj] at h
      rcases o with _ | _
      case list xs => exact .lst j xs hj h
      case dict kvs ep => exact .dct j kvs ep hj h
      all_goals exact none_ne h
  all_goals exact none_ne h
theorem in_prim (ok : P.Ok) (S : St P.w P.B σ hp s.heap) (ar : Arnd n q A) (ra : RV P.B s.heap σ a v) (rb : RV P.B s.heap σ b u) (h : isIn hp a b = some r) :
    wpAny (model P.prog P.w) A (compareOp .In v u) (QB P σ hp s (some r)) E s /\ wpAny (model P.prog P.w) A (compareOp .NotIn v u) (QB P σ hp s (some (!r))) E s := by
  have hu : A.in1.units + eqFuel < cLine := by have := ar.units; show A.units + 1 + 6 < _; lia
  have hk0 := isIn_or h
  clear h
  cases hk0 with
  | tup xs h =>
    refine xEEEAA rb fun c ws k qq1 ob rx => ?_; try clear rb; subst qq1
    refine xEA (eq_items S (A := A.in1) (findEq_spec h).1 rx ra hu) fun e h1 h2 => ?_
    have h3 := any_items h rx h2
    exact ⟨in_tupleAt e (isTuple_of ob) h1 ⟨r, by rw [h3], rfl, .refl S⟩, notIn_tupleAt e (isTuple_of ob) h1 ⟨!r, by rw [h3], rfl, .refl S⟩⟩
  | str y c ha hr =>
    subst ha hr
    refine xE ra fun t qq1 => ?_; try clear ra; subst qq1; refine xE rb fun t' qq1 => ?_; try clear rb; subst qq1
    have hf := StrLaws.found_one ⟨y.toArray⟩ c
    exact ⟨PySem.P.in_str ⟨_, by rw [hf], rfl, .refl S⟩, PySem.P.notIn_str ⟨_, by rw [hf], rfl, .refl S⟩⟩
  | lst j xs hj h =>
    refine xEEA rb fun c o qq1 e1 => ?_; try clear rb; subst qq1
    refine xEA (S.isList hj e1) fun ws hl rx => ?_
    refine xEA (eq_items S (A := A.in1) (findEq_spec h).1 rx ra hu) fun e h1 h2 => ?_
    have h3 := any_items h rx h2
    exact ⟨in_listAt e hl h1 ⟨r, by rw [h3], rfl, .refl S⟩, notIn_listAt e hl h1 ⟨!r, by rw [h3], rfl, .refl S⟩⟩
  | dct j kvs ep hj h =>
    refine xEEA rb fun c o qq1 e1 => ?_; try clear rb; subst qq1
    refine xEAA (inDict_is h) fun k hk hso qq1 => ?_; subst qq1
    have hu' : A.units + 1 < cLine := by have := ar.units; lia
    rw [key_av hk] at ra
    constructor
    . show wpAny _ _ (contains (Value.ref c) v >>= fun b => pure (Value.bool b)) _ _ _
      exact wpAny_bind (in_dict ok S hj e1 ra hso hu' fun d => wpAny_pure ⟨_, rfl, rfl, .tok S _⟩)
    . show wpAny _ _ (contains (Value.ref c) v >>= fun b => pure (Value.bool (!b))) _ _ _
      exact wpAny_bind (in_dict ok S hj e1 ra hso hu' fun d => wpAny_pure ⟨_, rfl, rfl, .tok S _⟩)
theorem ordAV_is (h : ordAV op a b = some r) : ∃ x y, a = .int x /\ b = .int y /\ cmpOrd op x y = some r := by
  rcases a with _ | _ <;> try exact none_ne h
  rcases b with _ | _ <;> try exact none_ne h
  exact ⟨_, _, rfl, rfl, h⟩
theorem instAt_is (h : instAt hp j = some fs) : ∃ k, hp[j]? = some (.inst k) /\ hp[k]? = some (.ns fs) := by
  delta instAt at h
  rcases hj : hp[j]? with _ | o
  case none => rw [hj] at h; exact none_ne h
  case some =>
    rw [hj] at h
    rcases o with _ | _
    case inst i =>
      dsimp only at h
      rcases hi : hp[i]? with _ | o
      case none => rw [hi] at h; exact none_ne h
      case some =>
        rw [hi] at h
        rcases o with _ | _
        case ns gs => cases (show some gs = some fs from h); exact ⟨i, rfl, hi⟩
        all_goals exact none_ne h
    all_goals exact none_ne h
theorem cmp_prim (ok : P.Ok) (S : St P.w P.B σ hp s.heap) (ar : Arnd n q A) (hop : compCOp op = some cop) (ra : RV P.B s.heap σ a v) (rb : RV P.B s.heap σ b u) (h : cmpAV hp cop a b = some r) :
    wpAny (model P.prog P.w) A (compareOp op v u) (QB P σ hp s (some r)) E s := by
  have hu : A.units + eqFuel < cLine := by have := ar.units; show A.units + 6 < _; lia
  have ord : ∀ {o : COp}, ordAV o a b = some r -> ∃ x y t t', v = .int x t /\ u = .int y t' /\ cmpOrd o x y = some r := fun h => by
    obtain ⟨x, y, rfl, rfl, h⟩ := ordAV_is h
    refine xE ra fun t qq1 => ?_; try clear ra; subst qq1; refine xE rb fun t' qq1 => ?_; try clear rb; subst qq1
    exact ⟨x, y, t, t', rfl, rfl, h⟩
  rcases op with _ | _ <;> (try exact none_ne hop) <;> cases hop
  . exact (eqv_at S _ _ _ _ A _ _ h ra rb hu).rc _ _ _ _ ⟨r, rfl, rfl, .refl S⟩
  . refine xEA (Option.map_eq_some_iff.mp (show (eqv hp eqFuel a b).map not = some r from h)) fun k he qq1 => ?_; subst qq1
    exact (eqv_at S _ _ _ _ A _ _ he ra rb hu).ne _ _ _ _ ⟨!k, rfl, rfl, .refl S⟩
  . obtain ⟨x, y, t, t', rfl, rfl, h⟩ := ord (o := .lt) h; cases h; exact PySem.P.lt_int ⟨_, rfl, rfl, .refl S⟩
  . obtain ⟨x, y, t, t', rfl, rfl, h⟩ := ord (o := .le) h; cases h; exact PySem.P.le_int ⟨_, rfl, rfl, .refl S⟩
  . obtain ⟨x, y, t, t', rfl, rfl, h⟩ := ord (o := .gt) h; cases h; exact PySem.P.gt_int ⟨_, rfl, rfl, .refl S⟩
  . obtain ⟨x, y, t, t', rfl, rfl, h⟩ := ord (o := .ge) h; cases h; exact PySem.P.ge_int ⟨_, rfl, rfl, .refl S⟩
  . exact (in_prim ok S ar ra rb h).1
  . refine xEA (Option.map_eq_some_iff.mp (show (isIn hp a b).map not = some r from h)) fun k he qq1 => ?_; subst qq1
    exact (in_prim ok S ar ra rb he).2
end
end
section
open PySem PySem.Spec PyProof.Rows PySem.SeqAt
section
variable {P : Par} {A : Around} {σ : Sg} {hp : AHeap} {s : Shared} {E : Value -> Shared -> Prop}
theorem lim_int (h : n <= sizeLim) : (n : Int) < 2 ^ 63 := by have : sizeLim = 1048576 := rfl; lia
theorem line_int (h : n <= sizeLine) : (n : Int) < 2 ^ 63 := by have : sizeLine = 16777216 := rfl; lia
theorem RIs.length : ∀ {xs : List Int} {vs : List Value}, RIs xs vs -> xs.length = vs.length
  | [], [], _ => rfl
  | _ :: _, _ :: _, r => by simp [RIs.length r.2]
  | [], _ :: _, r => r.elim
  | _ :: _, [], r => r.elim
theorem RIs.rvs : ∀ {xs : List Int} {vs : List Value}, RIs xs vs -> RVs B h σ (xs.map .int) vs
  | [], [], r => trivial
  | _ :: _, _ :: _, r => ⟨r.1, RIs.rvs r.2⟩
  | [], _ :: _, r => r.elim
  | _ :: _, [], r => r.elim
theorem len_dict_prim (ok : P.Ok) (S : St P.w P.B σ hp s.heap) {j : Nat} (hj : hp[j]? = some (.dict kvs ep)) (hs : σ[j]? = some (a, off))
    (h : ∀ t k, Q (.int kvs.length t) { s with toks := k }) : wpAny (model P.prog P.w) A (call (.builtin "len") [.ref a]) Q E s := by
  refine xEAAAA (S.isDict hj hs) fun es ho re hn hone hle => ?_
  have hT : s.TypeIs (.ref a) "dict" := ⟨_, ho, rfl⟩
  have hlen := re.length.trans Array.length_toList
  have hfit := line_int hle
  refine Calls.call_function_entry kind_len plain_len entry_len (args_len1 _) ?_
  unfold Builtin.«len»
  refine wpAny_bind (m := oneArg "len" _) (wpAny_pure ?_)
  refine wpAny_bind (m := callSpecial? (.ref a) (Str.ofString "__len__")) (wpAny_callSpecial?_slot (name := Str.ofString "__len__") hT F.slot_dict_len
    (wpAny_call_entry F.slot_dict_len hT F.entry_dict_len ?_ (F.args_dict_len_1 _)))
  show wpAny _ _ (dictSize a >>= _) _ _ s
  unfold dictSize
  refine wpAny_bind (wpAny_bind (wpAny_dictEntries ho rfl (wpAny_pure ?_)))
  show wpAny _ _ (Builtin.Dict.pendingCount a >>= _) _ _ s
  refine wpAny_bind (wpAny_pendingCount_other (S.notMods ok hs) ?_)
  refine wpAny_ret_mkInt ?_
  rw [Nat.add_zero, <- hlen]
  refine wpAny_bind (wpAny_holding (wpAny_pure ?_))
  refine wpAny_bind (wpAny_letGo ?_)
  show wpAny _ _ (if ((kvs.length : Nat) : Int) < 0 then _ else _) _ _ _
  rw [if_neg (by lia)]
  show wpAny _ _ (if ((kvs.length : Nat) : Int) >= 2 ^ 63 then _ else _) _ _ _
  rw [if_neg (by lia)]
  exact wpAny_bind (wpAny_mkInt (wpAny_pure ⟨_, rfl, h _ _⟩))
theorem scr_list (S : St P.w P.B σ hp s.heap) (h : P.B.h₀.IsList a items) : s.heap.IsList a items := by
  refine xEA h fun o ho r => ?_
  exact ⟨o, S.base a o ho, r⟩
theorem lim_if [Decidable p] {r : Res AV} (h : (if p then r else .bad) ≠ .bad) : p := Classical.byContradiction fun n => h (if_neg n)
theorem len_prim (ok : P.Ok) (S : St P.w P.B σ hp s.heap) {v : Value} (ra : RV P.B s.heap σ a v) (hb : lenAV a hp ≠ .bad) : wpAny (model P.prog P.w) A (call (.builtin "len") [v]) (QV P σ s (lenAV a hp)) E s := by
  rcases a with _ | _
  case str x =>
    refine xE ra fun t qq1 => ?_; try clear ra; subst qq1
    have hsz := lim_if hb
    rw [show lenAV (.str x) hp = .ok (.int x.length) hp from if_pos hsz]
    have hl : (⟨x.toArray⟩ : Str).length = x.length := List.size_toArray
    have := lim_int hsz
    exact PySem.P.len_str (by rw [hl]; lia) ⟨_, _, _, rfl, .tok S _, s.toks + 1, by rw [hl]⟩
  case tup xs =>
    refine xEEEAA ra fun a ws n qq1 o rx => ?_; try clear ra; subst qq1
    have hsz := lim_if hb
    rw [show lenAV (.tup xs) hp = .ok (.int xs.length) hp from if_pos hsz]
    have hl := rx.size
    have := lim_int hsz
    exact PySem.P.len_tuple o (by lia) ⟨_, _, _, rfl, .tok S _, s.toks + 1, by rw [hl]⟩
  case scr xs =>
    refine xEEAA ra fun a items qq1 hl rx => ?_; try clear ra; subst qq1
    have hsz := lim_if hb
    rw [show lenAV (.scr xs) hp = .ok (.int xs.length) hp from if_pos hsz]
    have hx := rx.length.trans Array.length_toList
    have := lim_int hsz
    exact len_list (scr_list S hl) (by lia) ⟨_, _, _, rfl, .tok S _, s.toks + 1, by rw [hx]⟩
  case loc j =>
    refine xEEA ra fun a o qq1 e1 => ?_; try clear ra; subst qq1
    delta lenAV at hb |-
    dsimp only at hb |-
    rcases hj : hp[j]? with _ | ob
    case none => rw [hj] at hb; exact absurd rfl hb
    case some =>
      rw [hj] at hb
      rcases ob with _ | _
      case list xs =>
        refine xEEA (S.isL hj e1) fun ws k hl rx => ?_
        have hx := rx.size
        have := line_int (S.isLen hj e1)
        exact len_list (isList_of hl) (by lia) ⟨_, _, _, rfl, .tok S _, s.toks + 1, by rw [hx]⟩
      case dict kvs ep => exact len_dict_prim ok S hj e1 fun t k => ⟨_, _, _, rfl, .tok S _, _, rfl⟩
      case set n =>
        obtain ⟨ob, ho, es, ep, t, hx, hd, hf, hn, h70⟩ := S.obj j a o _ e1 hj
        exact call_len_set ho hx hd hf (by lia) ⟨_, _, _, rfl, .tok S _, s.toks + 1, by rw [hn]⟩
      all_goals exact absurd rfl hb
  all_goals exact absurd rfl hb
theorem idx_seq {α : Type} {xs : List α} {x : α} (h : idx? xs k = some x) : ∃ j, seqIndex? k xs.length = some j /\ xs[j]? = some x /\ -(xs.length : Int) <= k /\ k < xs.length /\ (0 <= k -> j = k.toNat) /\ (k < 0 -> j = (k + xs.length).toNat) := by
  unfold idx? at h
  split at h
  . rename_i h0
    have hlt := (List.getElem?_eq_some_iff.mp h).1
    refine ⟨k.toNat, ?_, h, by lia, by lia, fun _ => rfl, fun h => by lia⟩
    unfold seqIndex?
    have h1 : ¬ k < 0 := by lia
    have h2 : k < (xs.length : Int) := by lia
    simp [h1, h0, h2]
  . split at h
    . rename_i h0 h1
      have hlt := (List.getElem?_eq_some_iff.mp h).1
      refine ⟨(k + xs.length).toNat, ?_, h, by lia, by lia, fun h => by lia, fun _ => rfl⟩
      unfold seqIndex?
      have h2 : k < 0 := by lia
      have h3 : k + (xs.length : Int) < (xs.length : Int) := by lia
      simp [h2, h1, h3]
    . cases h
theorem subI_is (h : subI xs (intOf i) = some x) : ∃ k, i = .int k /\ xs.length <= sizeLim /\ idx? xs k = some x := by
  rcases i with _ | _ | k | _ <;> try exact none_ne h
  exact xA (iteN h) fun hs h => ⟨_, rfl, hs, h⟩
theorem subD_is (h : subD kvs o = some x) : ∃ k, o = some k /\ sortOk kvs k = true /\ kvs.lookup k = some x := by
  rcases o with _ | k
  case none => exact none_ne h
  case some => exact xA (iteN h) fun hs h => ⟨_, rfl, hs, h⟩
theorem okO_is (hb : okO o h ≠ .bad) : ∃ v, o = some v := by
  rcases o with _ | v
  case none => exact absurd rfl hb
  case some => exact ⟨v, rfl⟩
inductive SubK (hp : AHeap) (i : AV) : AV -> AV -> Prop
  | str (xs : List Nat) (x : AV) (h : subI (xs.map fun c => .str [c]) (intOf i) = some x) : SubK hp i (.str xs) x
  | tup (xs : List AV) (x : AV) (h : subI xs (intOf i) = some x) : SubK hp i (.tup xs) x
  | scr (xs : List Int) (x : AV) (h : subI (xs.map .int) (intOf i) = some x) : SubK hp i (.scr xs) x
  | lst (j : Nat) (xs : List AV) (x : AV) (hj : hp[j]? = some (.list xs)) (h : subI xs (intOf i) = some x) : SubK hp i (.loc j) x
  | dct (j : Nat) (kvs : List (Key × AV)) (ep : Nat) (x : AV) (hj : hp[j]? = some (.dict kvs ep)) (h : subD kvs i.key? = some x) : SubK hp i (.loc j) x
theorem okO_eq (hb : okO o h ≠ .bad) : ∃ v, o = some v /\ okO o h = .ok v h := by
  rcases o with _ | v
  case none => exact absurd rfl hb
  case some => exact ⟨v, rfl, rfl⟩
theorem sub_kind (hb : subAV a i hp ≠ .bad) : ∃ x, subAV a i hp = .ok x hp /\ SubK hp i a x := by
  rcases a with _ | _
  case str xs => refine xEA (okO_eq hb) fun x hx e => ?_; exact ⟨x, e, .str xs x hx⟩
  case tup xs => refine xEA (okO_eq hb) fun x hx e => ?_; exact ⟨x, e, .tup xs x hx⟩
  case scr xs => refine xEA (okO_eq hb) fun x hx e => ?_; exact ⟨x, e, .scr xs x hx⟩
  case loc j =>
    delta subAV at hb |-
    dsimp only at hb |-
    rcases hj : hp[j]? with _ | ob
    case none => rw [hj] at hb; exact absurd rfl hb
    case some =>
      rw [hj] at hb
      rcases ob with _ | _
      case list xs => refine xEA (okO_eq hb) fun x hx e => ?_; exact ⟨x, e, .lst j xs x hj hx⟩
      case dict kvs ep => refine xEA (okO_eq hb) fun x hx e => ?_; exact ⟨x, e, .dct j kvs ep x hj hx⟩
      all_goals exact absurd rfl hb
  all_goals exact absurd rfl hb
theorem getItem_listAt {a : Addr} (hl : s.heap.IsList a ws) (rx : RVs P.B s.heap σ xs ws.toList) (hsz : xs.length <= sizeLim) (hi : idx? xs k = some x) {Q : Value -> Shared -> Prop} (h : ∀ w, RV P.B s.heap σ x w -> Q w s) :
    wpAny (model P.prog P.w) A (getItem (.ref a) (.int k t)) Q E s := by
  refine xEAAAAA (idx_seq hi) fun i h1 h2 h3 h4 h5 h6 => ?_
  have hlen := rx.size
  refine xEA (rx.get h2) fun w e rw' => ?_
  rw [Array.getElem?_toList] at e
  have := lim_int hsz
  by_cases h0 : 0 <= k
  . exact wpAny_getItem_list hl h0 (by lia) (by rw [<- h5 h0]; exact e) (h w rw')
  . exact wpAny_getItem_list_neg hl (by lia) (by lia) (by lia) (by rw [<- hlen, <- h6 (by lia)]; exact e) (h w rw')
theorem sub_prim (ok : P.Ok) (S : St P.w P.B σ hp s.heap) {q : Bool} (ar : Arnd n q A) {v u : Value} (ra : RV P.B s.heap σ a v) (rb : RV P.B s.heap σ b u) (hb : subAV a b hp ≠ .bad) : wpAny (model P.prog P.w) A (getItem v u) (QV P σ s (subAV a b hp)) E s := by
  refine xEA (sub_kind hb) fun x e K => ?_
  rw [e]
  cases K with
  | str xs x h =>
    refine xEAA (subI_is h) fun k qq1 hsz hi => ?_; subst qq1
    refine xE ra fun t qq1 => ?_; try clear ra; subst qq1
    refine xE rb fun t' qq1 => ?_; try clear rb; subst qq1
    refine xEAAAA (idx_seq hi) fun j h1 h2 h3 h4 _ => ?_
    rw [List.length_map] at h1 h3 h4 hsz
    rw [List.getElem?_map] at h2
    refine xEA (Option.map_eq_some_iff.mp h2) fun c hc qq1 => ?_; subst qq1
    have := lim_int hsz
    have hr : (decide (k < -(2 ^ 63 : Int)) || decide (k >= 2 ^ 63)) = false := by
      rw [decide_eq_false (by lia), decide_eq_false (by lia)]; rfl
    refine PySem.P.getItem_str (c := c) hr ?_ ⟨_, _, _, rfl, .tok S _, s.toks, rfl⟩
    have hl : (⟨xs.toArray⟩ : Str).length = xs.length := List.size_toArray
    rw [hl, h1]
    exact (List.getElem?_toArray ..).trans hc
  | tup xs x h =>
    refine xEAA (subI_is h) fun k qq1 hsz hi => ?_; subst qq1
    refine xEEEAA ra fun a ws m qq1 o rx => ?_; try clear ra; subst qq1
    refine xE rb fun t qq1 => ?_; try clear rb; subst qq1
    refine xEAAAA (idx_seq hi) fun j h1 h2 h3 h4 _ => ?_
    have hl := rx.size
    refine xEA (rx.get h2) fun w e rw' => ?_
    rw [Array.getElem?_toList] at e
    have := lim_int hsz
    exact getItem_tuple (isTuple_of o) (by lia) (by lia) (by rw [<- hl]; exact h1) e ⟨_, _, _, rfl, .refl S, rw'⟩
  | scr xs x h =>
    refine xEAA (subI_is h) fun k qq1 hsz hi => ?_; subst qq1
    refine xEEAA ra fun a items qq1 hl rx => ?_; try clear ra; subst qq1
    refine xE rb fun t' qq1 => ?_; try clear rb; subst qq1
    exact getItem_listAt (scr_list S hl) rx.rvs hsz hi fun w rw' => ⟨_, _, _, rfl, .refl S, rw'⟩
  | lst j xs x hj h =>
    refine xEAA (subI_is h) fun k qq1 hsz hi => ?_; subst qq1
    refine xEEA ra fun a o qq1 e1 => ?_; try clear ra; subst qq1
    refine xE rb fun t' qq1 => ?_; try clear rb; subst qq1
    refine xEA (S.isList hj e1) fun ws hl rx => ?_
    exact getItem_listAt hl rx hsz hi fun w rw' => ⟨_, _, _, rfl, .refl S, rw'⟩
  | dct j kvs ep x hj h =>
    refine xEAA (subD_is h) fun k hk hso hx => ?_
    refine xEEA ra fun a o qq1 e1 => ?_; try clear ra; subst qq1
    rw [key_av hk] at rb
    exact getItem_dict ok S hj e1 rb hso (by have := ar.units; lia) hx fun d w rw' => ⟨_, _, _, rfl, .tok S _, rw'⟩
end
end
section
open PySem PySem.Spec PyProof.Rows PySem.SeqAt
section
variable {P : Par} {A : Around} {σ : Sg} {hp : AHeap} {s : Shared} {E : Value -> Shared -> Prop}
theorem clip_full (n : Nat) : clipAt n (n : Int) = n := by rw [clipAt_nat]; lia
theorem clip_zero (n : Nat) : clipAt n 0 = 0 := by have := clipAt_nat n 0; simpa using this
noncomputable def partOf : AV -> Option Int
  | .int i => some i
  | _ => none
theorem part_is (r : RV P.B s.heap σ a v) (h : loOf a = some n) : IsPart v (partOf a) /\ ∃ p : Option (Int × Tok), v = partValue p /\ p.map (·.1) = partOf a := by
  rcases a with _ | _
  case none => rcases (show v = .none from r) with rfl; exact ⟨.none, none, rfl, rfl⟩
  case int i => refine xE r fun t qq1 => ?_; try clear r; subst qq1; exact ⟨.int _ _, some (_, t), rfl, rfl⟩
  all_goals exact none_ne h
theorem hi_lo (h : hiOf n a = some m) : ∃ k, loOf a = some k := by
  rcases a with _ | _
  case none => exact ⟨_, rfl⟩
  case int i => exact ⟨_, rfl⟩
  all_goals exact none_ne h
theorem lo_part (h : loOf a = some m) : (partOf a).elim 0 (clipAt n) = clipAt n m := by
  rcases a with _ | _
  case none => cases (show some (0 : Int) = some m from h); exact (clip_zero n).symm
  case int i => cases (show some i = some m from h); rfl
  all_goals exact none_ne h
theorem hi_part (h : hiOf n a = some m) : (partOf a).elim n (clipAt n) = clipAt n m := by
  rcases a with _ | _
  case none => cases (show some (n : Int) = some m from h); exact (clip_full n).symm
  case int i => cases (show some i = some m from h); rfl
  all_goals exact none_ne h
theorem RVs.drop : ∀ {xs : List AV} {vs : List Value}, RVs B h σ xs vs -> ∀ n, RVs B h σ (xs.drop n) (vs.drop n)
  | _, _, r, 0 => r
  | [], [], r, _ + 1 => r
  | _ :: _, _ :: _, r, n + 1 => RVs.drop r.2 n
  | [], _ :: _, r, _ => r.elim
  | _ :: _, [], r, _ => r.elim
theorem RVs.take : ∀ {xs : List AV} {vs : List Value}, RVs B h σ xs vs -> ∀ n, RVs B h σ (xs.take n) (vs.take n)
  | [], [], r, 0 => r
  | _ :: _, _ :: _, _, 0 => trivial
  | [], [], r, _ + 1 => r
  | _ :: _, _ :: _, r, n + 1 => ⟨r.1, RVs.take r.2 n⟩
  | [], _ :: _, r, _ => r.elim
  | _ :: _, [], r, _ => r.elim
theorem cut_eq {α : Type} (xs : List α) (lo hi : Int) : cutList xs lo hi = (xs.drop (clipAt xs.length lo)).take (clipAt xs.length hi - clipAt xs.length lo) := by
  unfold cutList
  rw [List.drop_take]
theorem RVs.cut (r : RVs B h σ xs vs) (lo hi : Int) : RVs B h σ (cutList xs lo hi) ((vs.drop (clipAt xs.length lo)).take (clipAt xs.length hi - clipAt xs.length lo)) := by
  rw [cut_eq]
  exact (r.drop _).take _
theorem str_pick (x : List Nat) (lo hi : Option Int) : (Builtin.Str.strSliceIndices lo hi 1 x.length).filterMap ((⟨x.toArray⟩ : Str).cps[·]?) = (x.drop (lo.elim 0 (clipAt x.length))).take (hi.elim x.length (clipAt x.length) - lo.elim 0 (clipAt x.length)) := by
  have h : Builtin.Str.strSliceIndices lo hi 1 x.length = sliceRange (lo.elim 0 (clipAt x.length) : Nat) (hi.elim x.length (clipAt x.length) : Nat) 1 := by
    unfold Builtin.Str.strSliceIndices
    rcases lo with _ | _ <;> rcases hi with _ | _ <;> simp [clipAt_cast]
  rw [h, sliceRange_one, pick_run]
theorem cutO_is {α : Type} {xs : List α} {lo hi : AV} {ys : List α} (h : cutO xs lo hi = some ys) : xs.length <= sizeLim /\ ∃ m k, loOf lo = some m /\ hiOf xs.length hi = some k /\ ys = cutList xs m k := by
  unfold cutO at h
  split at h
  . rename_i hl
    refine xEA (Option.bind_eq_some_iff.mp h) fun m hm h => ?_
    refine xEA (Option.map_eq_some_iff.mp h) fun k hk h => ?_
    exact ⟨hl, m, k, hm, hk, h.symm⟩
  . cases h
theorem clamp_le (n : Nat) (i : Int) : clipAt n i <= n := by have := clipAt_cast n i; omega
theorem cut_full {n a b : Nat} (h : b - a = n) (h2 : b <= n) : min (b - a) (n - a) = n := by lia
abbrev slObj (vl vu : Value) : Obj := { cls := .type "slice", data := .fields #[vl, vu, .none] }
theorem slice_str (S : St P.w P.B σ hp s.heap) {t : Tok} {lo hi : AV} {vl vu : Value} (rl : RV P.B s.heap σ lo vl) (rh : RV P.B s.heap σ hi vu) (h : cutO x lo hi = some y) :
    wpAny (model P.prog P.w) A (getItem (.str ⟨x.toArray⟩ t) (.ref s.heap.objs.size)) (QV P σ s (.ok (.str y) hp)) E { s with heap := s.heap.push (slObj vl vu) } := by
  have S₁ := S.push (slObj vl vu)
  have a₁ : After P σ σ [] hp s { s with heap := s.heap.push (slObj vl vu) } := ⟨rfl, S₁, .push _⟩
  refine xAEEAA (cutO_is h) fun hxl m k hl hh qq1 => ?_; subst qq1
  refine xAEA (part_is rl hl) fun _ p qq1 hp1 => ?_; subst qq1
  refine xE (hi_lo hh) fun k' hk' => ?_
  refine xAEA (part_is rh hk') fun _ q qq1 hq1 => ?_; subst qq1
  have hlen : (⟨x.toArray⟩ : Str).length = x.length := List.size_toArray
  refine wpAny_getItem_str_slice (l := p) (u := q) (st := none) ⟨_, Heap.get?_push_size _ rfl, rfl, rfl⟩ rfl ?_
  unfold sliceMade slicePicked
  rw [hp1, hq1, hlen]
  have hpick := str_pick x (partOf lo) (partOf hi)
  rw [lo_part hl, hi_part hh, <- cut_eq] at hpick
  split
  . rename_i hw
    have hle : (Builtin.Str.strSliceIndices (partOf lo) (partOf hi) 1 x.length).length = x.length := beq_iff_eq.mp (Bool.and_eq_true_iff.mp hw).2
    have hidx : cutList x m k = x := by
      refine List.Sublist.eq_of_length ((List.drop_sublist ..).trans (List.take_sublist ..)) ?_
      have hs : Builtin.Str.strSliceIndices (partOf lo) (partOf hi) 1 x.length = (List.range (clipAt x.length k - clipAt x.length m)).map (clipAt x.length m + ·) := by
        rw [<- lo_part (n := x.length) hl, <- hi_part hh, <- sliceRange_one]
        unfold Builtin.Str.strSliceIndices
        rcases partOf lo with _ | _ <;> rcases partOf hi with _ | _ <;> simp [clipAt_cast]
      have h2 := clamp_le x.length k
      rw [hs, List.length_map, List.length_range] at hle
      show (cutList x m k).length = _
      rw [cut_eq, List.length_take, List.length_drop]
      exact cut_full hle h2
    exact ⟨_, _, _, rfl, a₁, t, by rw [hidx]⟩
  . have hsz : (⟨(cutList x m k).toArray⟩ : Str).length <= sizeLine := by
      have h1 : (cutList x m k).length <= x.length := by rw [cut_eq, List.length_take, List.length_drop]; lia
      exact Nat.le_trans (Nat.le_of_eq List.size_toArray) (Nat.le_trans h1 (sizeLim_le hxl))
    show _ /\ _
    have e1 : (none : Option (Int × Tok)).map (·.1) = none := rfl
    rw [e1, Option.getD_none, hpick]
    exact ⟨hsz, _, _, _, rfl, a₁.trans (.tok S₁ _), _, rfl⟩
theorem slice_scr (S : St P.w P.B σ hp s.heap) {v : Value} {lo hi : AV} {vl vu : Value} (ra : RV P.B s.heap σ (.scr xs) v) (rl : RV P.B s.heap σ lo vl) (rh : RV P.B s.heap σ hi vu) (h : cutO xs lo hi = some ys) (hb : newList (ys.map .int) hp ≠ .bad) :
    wpAny (model P.prog P.w) A (getItem v (.ref s.heap.objs.size)) (QV P σ s (newList (ys.map .int) hp)) E { s with heap := s.heap.push (slObj vl vu) } := by
  have S₁ := S.push (slObj vl vu)
  have a₁ : After P σ σ [] hp s { s with heap := s.heap.push (slObj vl vu) } := ⟨rfl, S₁, .push _⟩
  refine xAEEAA (cutO_is h) fun hxl m k hl hh qq1 => ?_; subst qq1
  refine xEEAA ra fun a items qq1 hl0 rx => ?_; try clear ra; subst qq1
  refine xA (part_is rl hl) fun ip _ => ?_
  refine xE (hi_lo hh) fun k' hk' => ?_
  refine xA (part_is rh hk') fun iq _ => ?_
  have hlen := rx.length.trans Array.length_toList
  have hr : RVs P.B (s.heap.push (slObj vl vu)) σ ((cutList xs m k).map .int) (slicePick items (partOf lo) (partOf hi) none).toList := by
    rw [slicePick_plain]
    show RVs _ _ _ _ ((items.toList.drop _).take _)
    rw [<- hlen, lo_part hl, hi_part hh]
    have := RVs.cut (B := P.B) (h := s.heap.push (slObj vl vu)) (σ := σ) rx.rvs m k
    rw [List.length_map] at this
    have e : cutList (xs.map AV.int) m k = (cutList xs m k).map AV.int := by unfold cutList; rw [List.length_map, <- List.map_take, <- List.map_drop]
    rw [e] at this
    exact this
  refine xA (qv_newList (s := { s with heap := s.heap.push (slObj vl vu) }) S₁ hr hb) fun hsz hq => ?_
  exact wpAny_getItem_list_slice (scr_list (s := { s with heap := s.heap.push (slObj vl vu) }) S₁ hl0) (.new ..) ip iq .none (by simp) (hq.lift a₁) (by have := sizeLim_le hxl; lia)
theorem slice_list (S : St P.w P.B σ hp s.heap) {j : Nat} {xs ys : List AV} {v : Value} {lo hi : AV} {vl vu : Value} (ra : RV P.B s.heap σ (.loc j) v) (hj : hp[j]? = some (.list xs)) (rl : RV P.B s.heap σ lo vl) (rh : RV P.B s.heap σ hi vu) (h : cutO xs lo hi = some ys) (hb : newList ys hp ≠ .bad) :
    wpAny (model P.prog P.w) A (getItem v (.ref s.heap.objs.size)) (QV P σ s (newList ys hp)) E { s with heap := s.heap.push (slObj vl vu) } := by
  have S₁ := S.push (slObj vl vu)
  have a₁ : After P σ σ [] hp s { s with heap := s.heap.push (slObj vl vu) } := ⟨rfl, S₁, .push _⟩
  refine xAEEAA (cutO_is h) fun hxl m k hl hh qq1 => ?_; subst qq1
  refine xEEA ra fun a off qq1 e1 => ?_; try clear ra; subst qq1
  refine xEEA (St.isL (s := { s with heap := s.heap.push (slObj vl vu) }) S₁ hj e1) fun ws n hL rx => ?_
  refine xA (part_is rl hl) fun ip _ => ?_
  refine xE (hi_lo hh) fun k' hk' => ?_
  refine xA (part_is rh hk') fun iq _ => ?_
  have hlen := rx.size
  have hr : RVs P.B (s.heap.push (slObj vl vu)) σ (cutList xs m k) (slicePick ws (partOf lo) (partOf hi) none).toList := by
    rw [slicePick_plain]
    show RVs _ _ _ _ ((ws.toList.drop _).take _)
    rw [<- hlen, lo_part hl, hi_part hh]
    exact rx.cut m k
  refine xA (qv_newList (s := { s with heap := s.heap.push (slObj vl vu) }) S₁ hr hb) fun hsz hq => ?_
  exact wpAny_getItem_list_slice (isList_of hL) (.new ..) ip iq .none (by simp) (hq.lift a₁) (by have := sizeLim_le hxl; lia)
theorem slice_prim (S : St P.w P.B σ hp s.heap) {a lo hi : AV} (ra : RV P.B s.heap σ a v) (rl : RV P.B s.heap σ lo vl) (rh : RV P.B s.heap σ hi vu) (hb : sliceAV a lo hi hp ≠ .bad) :
    wpAny (model P.prog P.w) A (getItem v (.ref s.heap.objs.size)) (QV P σ s (sliceAV a lo hi hp)) E { s with heap := s.heap.push (slObj vl vu) } := by
  rcases a with _ | _
  case str x =>
    refine xEA (okO_eq (show okO ((cutO x lo hi).map AV.str) hp ≠ .bad from hb)) fun y hy e => ?_
    refine xEA (Option.map_eq_some_iff.mp hy) fun z hz qq1 => ?_; subst qq1
    refine xE ra fun t qq1 => ?_; try clear ra; subst qq1
    rw [show sliceAV (.str x) lo hi hp = .ok (.str z) hp from e]
    exact slice_str S rl rh hz
  case scr xs =>
    refine xEA (newListO_is (show newListO ((cutO xs lo hi).map fun ys => ys.map AV.int) hp ≠ .bad from hb)) fun y hy hb2 => ?_
    refine xEA (Option.map_eq_some_iff.mp hy) fun z hz qq1 => ?_; subst qq1
    have e : sliceAV (.scr xs) lo hi hp = newList (z.map .int) hp := by
      show newListO ((cutO xs lo hi).map fun ys => ys.map AV.int) hp = _
      rw [hz]; rfl
    rw [e]
    exact slice_scr S ra rl rh hz hb2
  case loc j =>
    refine xEA (newListO_is (show newListO ((listAt hp j).bind fun xs => cutO xs lo hi) hp ≠ .bad from hb)) fun y hy hb2 => ?_
    refine xEA (Option.bind_eq_some_iff.mp hy) fun xs hx hz => ?_
    have e : sliceAV (.loc j) lo hi hp = newList y hp := by
      show newListO ((listAt hp j).bind fun xs => cutO xs lo hi) hp = _
      rw [hy]; rfl
    rw [e]
    exact slice_list S ra (listAt_is hx) rl rh hz hb2
  all_goals exact absurd rfl hb
end
end
section
open PySem PySem.Spec PyProof.Rows PySem.SeqAt
noncomputable def tyName : Ty -> String
  | .int => "int" | .bool => "bool" | .str => "str" | .tuple => "tuple" | .list => "list"
section
variable {P : Par} {A : Around} {σ : Sg} {hp : AHeap} {s : Shared} {E : Value -> Shared -> Prop}
theorem isi_prim (S : St P.w P.B σ hp s.heap) {r : Bool} (ra : RV P.B s.heap σ a v) (h : isTy hp a t = some r) :
    wpAny (model P.prog P.w) A (call (.builtin "isinstance") [v, .type (tyName t)]) (QB P σ hp s (some r)) E s := by
  have q1 : ∀ b k, QB P σ hp s (some b) (.bool b) { s with toks := k } := fun b k => ⟨b, rfl, rfl, .tok S _⟩
  have q0 : ∀ b, QB P σ hp s (some b) (.bool b) s := fun b => ⟨b, rfl, rfl, .refl S⟩
  rcases a with _ | _
  case int =>
    refine xE ra fun _ qq1 => ?_; try clear ra; subst qq1
    rcases t with _ | _ <;> cases h
    . exact IsiPair.int_int (q0 _)
    . exact IsiPair.int_bool (q1 _ _)
    . exact IsiPair.int_str (q1 _ _)
    . exact IsiPair.int_tuple (q1 _ _)
    . exact IsiPair.int_list (q1 _ _)
  case str =>
    refine xE ra fun _ qq1 => ?_; try clear ra; subst qq1
    rcases t with _ | _ <;> cases h
    . exact IsiPair.str_int (q1 _ _)
    . exact IsiPair.str_bool (q1 _ _)
    . exact IsiPair.str_str (q0 _)
    . exact IsiPair.str_tuple (q1 _ _)
    . exact IsiPair.str_list (q1 _ _)
  case tup =>
    refine xEEEAA ra fun _ _ _ qq1 o _ => ?_; try clear ra; subst qq1
    rcases t with _ | _ <;> cases h
    . exact IsiPair.tuple_int o rfl (q1 _ _)
    . exact IsiPair.tuple_bool o rfl (q1 _ _)
    . exact IsiPair.tuple_str o rfl (q1 _ _)
    . exact IsiPair.tuple_tuple o rfl (q0 _)
    . exact IsiPair.tuple_list o rfl (q1 _ _)
  case loc j =>
    refine xEEA ra fun a off qq1 e1 => ?_; try clear ra; subst qq1
    rcases t with _ | _ <;> (try exact none_ne h)
    refine xEA (Option.map_eq_some_iff.mp h) fun xs hx qq1 => ?_; subst qq1
    refine xEEA (S.isL (listAt_is hx) e1) fun ws n hL _ => ?_
    exact IsiPair.list_list hL rfl (q0 _)
  all_goals exact none_ne h
inductive RangeK : List AV -> AV -> Prop
  | one (b : Int) : RangeK [.int b] (.rng 0 b 1)
  | two (a b : Int) : RangeK [.int a, .int b] (.rng a b 1)
  | down (a b : Int) : RangeK [.int a, .int b, .int (-1)] (.rng a b (-1))
theorem some_if [Decidable c] {α : Type} {x y : α} (h : (if c then some x else none) = some y) : c /\ x = y := by
  by_cases hc : c
  . rw [if_pos hc] at h; exact ⟨hc, Option.some.inj h⟩
  . rw [if_neg hc] at h; cases h
theorem range_or {r : AV} (h : rangeOf as = some r) : RangeK as r := by
  rcases as with _ | ⟨a, r1⟩
  case nil => exact none_ne h
  case cons =>
    rcases a with _ | _
    case int a =>
      rcases r1 with _ | ⟨b, r2⟩
      case nil => refine xA (some_if (show (if a.natAbs <= sizeLim then some (AV.rng 0 a 1) else none) = some r from h)) fun _ qq1 => ?_; subst qq1; exact .one a
      case cons =>
        rcases b with _ | _
        case int b =>
          rcases r2 with _ | ⟨c, r3⟩
          case nil => refine xA (some_if (show (if a.natAbs <= sizeLim /\ b.natAbs <= sizeLim then some (AV.rng a b 1) else none) = some r from h)) fun _ qq1 => ?_; subst qq1; exact .two a b
          case cons =>
            rcases r3 with _ | ⟨_, _⟩
            case cons => exact none_ne h
            case nil =>
              rcases c with _ | _
              case int c => refine xA (some_if (show (if c = -1 /\ a.natAbs <= sizeLim /\ b.natAbs <= sizeLim then some (AV.rng a b (-1)) else none) = some r from h)) fun hc qq1 => ?_; subst qq1; rw [hc.1]; exact .down a b
              all_goals exact none_ne h
        all_goals (cases r2 with | nil => exact none_ne h | cons c r3 => rcases r3 with _ | _ <;> exact none_ne h)
    all_goals (cases r1 with | nil => exact none_ne h | cons b r2 => cases r2 with | nil => exact none_ne h | cons c r3 => rcases r3 with _ | _ <;> exact none_ne h)
theorem range_prim (S : St P.w P.B σ hp s.heap) (ok : P.Ok) (ar : Arnd n q A) {r : AV} (ra : RVs P.B s.heap σ as vs) (h : rangeOf as = some r) :
    wpAny (model P.prog P.w) A (call (.type "range") vs) (QV P σ s (.ok r hp)) E s := by
  have push : ∀ (o : Obj) (k : Nat), After P σ σ [] hp s { s with heap := s.heap.push o, toks := k } := fun o k => ⟨rfl, S.push o, .push o⟩
  refine xEEAAAA ar.frame fun f outer hf1 hf2 hf3 hf4 hf5 => ?_
  have hroom : PylongRoom (model P.prog P.w) A s := PylongRoom.of (ok.noLimit S) (by have := ar.depth; show A.depth + 100 < recursionLimit; lia) (SeerAt.of (ok.noSeer S) ok.tree hf1 hf2 hf3 hf4 hf5)
  cases range_or h with
  | one b =>
    refine xEAE ra.one fun v qq1 t qq2 => ?_; subst qq1; subst qq2
    exact call_range_1 ⟨_, _, _, rfl, push _ _, _, _, _, _, rfl, IsRange.new ..⟩
  | two a b =>
    refine xEEAA ra.cons fun _ _ qq1 qq2 ra2 => ?_; subst qq1; refine xE qq2 fun t qq1 => ?_; try clear qq2; subst qq1
    refine xEAE ra2.one fun _ qq1 t' qq2 => ?_; subst qq1; subst qq2
    exact call_range_2 ⟨_, _, _, rfl, push _ _, _, _, _, _, rfl, IsRange.new ..⟩
  | down a b =>
    refine xEEAA ra.cons fun _ _ qq1 qq2 ra2 => ?_; subst qq1; refine xE qq2 fun t qq1 => ?_; try clear qq2; subst qq1
    refine xEEAA ra2.cons fun _ _ qq1 qq2 ra3 => ?_; subst qq1; refine xE qq2 fun t' qq1 => ?_; try clear qq2; subst qq1
    refine xEAE ra3.one fun _ qq1 t'' qq2 => ?_; subst qq1; subst qq2
    exact call_range_3 (by decide) ⟨_, _, _, rfl, push _ _, _, _, _, _, rfl, IsRange.new ..⟩ (.inr hroom)
theorem append_prim (S : St P.w P.B σ hp s.heap) (hj : hp[j]? = some (.list xs)) (e1 : σ[j]? = some (a, off)) (hsz : xs.length < sizeLim) {v : Value} (rx : RV P.B s.heap σ x v) :
    ∃ ws n, ws.size <= sizeLine /\ IsL s.heap a ws n /\ After P σ σ [] (hp.set j (.list (xs ++ [x]))) s { s with heap := s.heap.update a (Obj.mapSeq fun xs => xs.push v) } := by
  refine xEEA (S.isL hj e1) fun ws n hl r => ?_
  have hlen := r.size
  have hs' : Heap.SameBut a s.heap (s.heap.update a (Obj.mapSeq fun xs => xs.push v)) := .update ..
  refine xA (S.upd (X := []) e1 hs'.extBut (.list (xs ++ [x])) (IsL.update hl _) fun g =>
    ⟨ws.push v, _, IsL.update hl _, by rw [Array.toList_push]; exact (RVs.grows g _ _ r).append ⟨RV.grows g _ _ rx, trivial⟩, by rw [List.length_append]; exact sizeLim_le hsz⟩) fun S' g => ?_
  exact ⟨ws, n, by have := sizeLim_le (Nat.le_of_lt hsz); lia, hl, rfl, S', g⟩
theorem occ_idx {x : List Nat} {c i : Nat} (h : x.findIdx? (· == c) = some i) : ∃ rest, Builtin.Str.occurrences ⟨x.toArray⟩ ⟨#[c]⟩ 0 (⟨x.toArray⟩ : Str).length 1 = i :: rest := by
  refine xEA (List.findIdx?_eq_some_iff_getElem.mp h) fun hi he hn => ?_
  have hat : ∀ j, StrLaws.At (⟨x.toArray⟩ : Str) ⟨#[c]⟩ (⟨x.toArray⟩ : Str).length j ↔ x[j]? = some c := fun j => by
    have := StrLaws.subAt_one (⟨x.toArray⟩ : Str) c j
    simpa [StrLaws.At] using this
  have hc : x[i]? = some c := by rw [List.getElem?_eq_getElem hi, eq_of_beq he]
  rcases StrLaws.occ_head (⟨x.toArray⟩ : Str) ⟨#[c]⟩ 1 (Nat.le_refl 1) with ⟨_, h0⟩ | ⟨k, r, e, ha, hb⟩
  . exact absurd ((hat i).mpr hc) (h0 i)
  . have hk : k = i := by
      rcases Nat.lt_trichotomy k i with hlt | heq | hgt
      . have h1 := (hat k).mp ha
        refine xE (List.getElem?_eq_some_iff.mp h1) fun hk e' => ?_
        have := hn k hlt
        rw [e'] at this
        simp at this
      . exact heq
      . exact absurd ((hat i).mpr hc) (hb i hgt)
    subst hk
    exact ⟨r, e⟩
end
end
section
open PySem PySem.Spec PyProof.Rows PySem.SeqAt
abbrev KeyIter (h : Heap) (it d : Addr) (i n ep : Nat) : Prop := h.IsKeyIter it d i n ep
section
variable {P : Par} {A : Around} {σ : Sg} {hp : AHeap} {s : Shared} {E : Value -> Shared -> Prop}
theorem After.made (S : St P.w P.B σ hp s.heap) {a : Addr} (hk : ∀ b o, s.heap.get? b = some o -> h'.get? b = some o) (ha : s.heap.get? a = none) {ws : Array Value} (ho : ObjAt h' a (.type "list") (.seq ws n))
    {vs : List AV} (hr : RVs P.B h' σ vs ws.toList) (hb : newList vs hp ≠ .bad) : QV P σ s (newList vs hp) (.ref a) { s with heap := h', toks := t } := by
  unfold newList at hb |-
  split at hb
  . rename_i hsz
    rw [if_pos hsz]
    have hn : a ∉ σ.map (·.1) := fun hm => by
      refine xEA (List.mem_map.mp hm) fun p hp qq1 => ?_; subst qq1
      refine xEA (S.there hp) fun ob e _ => ?_
      rw [ha] at e; cases e
    have hb0 : P.B.h₀.get? a = none := by
      rcases e : P.B.h₀.get? a with _ | o
      case none => rfl
      case some => rw [S.base a o e] at ha; cases ha
    have S' := (S.keep hk).adopt (off := 0) (ao := .list vs) hn hb0 fun k => ⟨ws, n, ho, RVs.mono (fun _ _ x _ => x) k _ _ hr, sizeLim_le hsz⟩
    refine ⟨_, _, _, rfl, ⟨rfl, S', (grows_keep hk).adopt ha⟩, a, 0, rfl, ?_⟩
    rw [<- S.len]; exact List.getElem?_concat_length
  . exact absurd rfl hb
theorem list_prim (S : St P.w P.B σ hp s.heap) {j : Nat} {xs : List AV} {a : Addr} (hj : hp[j]? = some (.list xs)) (e1 : σ[j]? = some (a, off)) (hb : newList xs hp ≠ .bad) :
    wpAny (model P.prog P.w) A (call (.type "list") [.ref a]) (QV P σ s (newList xs hp)) E s := by
  refine xEEA (S.isL hj e1) fun ws n hl r => ?_
  have hlen := r.size
  have hle := S.isLen hj e1
  exact call_list_seq a (.inl rfl) hl rfl rfl (fun h' c' hk ho => After.made (t := s.toks) S hk (free_size _) ho (RVs.fixes (fun b o e _ => hk b o e) _ _ r) hb) (by lia)
theorem ris_of {vs : List Value} {xs : List Int} (h : IntsAre vs xs) : RIs xs vs := by
  induction h with
  | nil => trivial
  | cons n t r ih => exact ⟨⟨t, rfl⟩, ih⟩
theorem iterD {es : Array DictEntry} {ep : Nat} (hm : (d == sysModules) = false) (ho : ObjAt s.heap d (.type "dict") (.dict es ep))
    (hQ : Q (.ref s.heap.objs.size) { s with heap := s.heap.push { cls := .type "dict_keyiterator", data := .fields #[.ref d, .int 0 0, .int es.size 0, .int ep 0] } }) : wpAny (model P.prog P.w) A (pyIter (.ref d)) Q E s := by
  have hT : s.TypeIs (.ref d) "dict" := ⟨_, ho, rfl⟩
  refine wpAny_pyIter_slot hT F.slot_dict_iter (wpAny_call_entry F.slot_dict_iter hT F.entry_dict_iter ?_ (F.args_dict_iter_1 _))
  unfold Builtin.«dict.__iter__» Builtin.Dict.dictSlotNone
  refine wpAny_bind (wpAny_bind (wpAny_notOrdered_dict hT (wpAny_pure ?_)))
  show wpAny _ _ (Builtin.Dict.showsAll d >>= _) _ _ s
  unfold Builtin.Dict.showsAll
  rw [if_neg (by rw [hm]; exact Bool.false_ne_true)]
  refine wpAny_bind (wpAny_pure (wpAny_bind (wpAny_dictEntries ho rfl (wpAny_bind (wpAny_dictEpoch ho rfl ?_)))))
  exact wpAny_bind (wpAny_newObj_type (wpAny_pure ⟨_, rfl, "dict_keyiterator", _, ⟨_, Heap.get?_push_size _ rfl, rfl⟩, F.slot_dict_keyiterator_next.lookup, hQ⟩))
theorem nextD {i ep : Nat} {es : Array DictEntry} (hit : KeyIter s.heap it d i es.size ep) (ho : ObjAt s.heap d (.type "dict") (.dict es ep)) (hh : A.handled = none)
    (hitem : ∀ e h', es[i]? = some e -> KeyIter h' it d (i + 1) es.size ep -> Heap.SameBut it s.heap h' -> Q (some e.key) { s with heap := h' }) (hend : es[i]? = none -> ∀ h', Heap.ExtBut it s.heap h' -> Q none { s with heap := h' }) :
    wpAny (model P.prog P.w) A (pyNext (.ref it)) Q E s := by
  refine xEAA (id hit) fun oi hoi hci hdi => ?_
  have hown : Builtin.Dict_items.ownsTuple "dict_keyiterator" = false := by decide
  unfold pyNext
  refine wpAny_bind (wpAny_attempt (wpAny_callSpecial?_slot (name := Str.ofString "__next__") hit.typeIs F.slot_dict_keyiterator_next
    (wpAny_call_entry F.slot_dict_keyiterator_next hit.typeIs F.entry_dict_keyiterator_next ?_ (F.args_dict_keyiterator_next_1 _))))
  refine wpAny_bind (wpAny_pure ?_)
  refine wpAny_bind (wpAny_bind (wpAny_bind (wpAny_typeNameOfWhole_keyiter hit.typeIs (wpAny_pure ?_))))
  refine wpAny_bind (wpAny_fieldsOf hoi hdi ?_)
  rw [hown]
  show wpAny _ _ (if (Value.ref d == Value.none) = true then _ else _) _ _ s
  rw [if_neg (show ¬ ((Value.ref d == Value.none) = true) from Bool.false_ne_true)]
  refine wpAny_bind (wpAny_pure (wpAny_bind (wpAny_dictEntries ho rfl ?_)))
  rw [if_neg (by simp)]
  refine wpAny_bind (wpAny_pure (wpAny_bind (wpAny_dictEpoch ho rfl ?_)))
  rw [if_neg (by simp)]
  refine wpAny_pure ?_
  dsimp only
  rw [if_neg (Int.not_lt.mpr (Int.natCast_nonneg i)), Int.toNat_natCast]
  rcases he : es[i]? with _ | e
  case some =>
    refine wpAny_bind (wpAny_bind (wpAny_typeNameOfWhole_keyiter hit.typeIs (wpAny_pure ?_)))
    refine wpAny_bind (wpAny_isOneOf_keyiter hit.typeIs ?_)
    show wpAny _ _ (setField (.ref it) 1 (rawInt ((i : Int) + 1)) >>= _) _ _ s
    refine wpAny_bind (wpAny_setField hoi hdi (by simp) ?_)
    have hit' : KeyIter (s.heap.update it (Obj.mapFields (·.setIfInBounds 1 (rawInt ((i : Int) + 1))))) it d (i + 1) es.size ep :=
      ⟨_, Heap.get?_update_self _ hoi (Obj.isFreed_of_fields (Obj.data_mapFields hdi _)), (Obj.cls_mapFields ..).trans hci, by rw [Obj.data_mapFields hdi]; simp [rawInt]⟩
    refine wpAny_bind (wpAny_holding ?_)
    refine wpAny_bind (wpAny_isOneOf_keyiter (s := { s with heap := s.heap.update it (Obj.mapFields (·.setIfInBounds 1 (rawInt ((i : Int) + 1)))) }) hit'.typeIs ?_)
    show wpAny _ _ (pure e.key) _ _ _
    exact wpAny_pure (wpAny_pure ⟨_, rfl, wpAny_pure (hitem e _ he hit' (Heap.SameBut.update ..))⟩)
  case none =>
    refine wpAny_bind (wpAny_bind (wpAny_typeNameOfWhole_keyiter hit.typeIs (wpAny_pure ?_)))
    show wpAny _ _ (setField (.ref it) 0 .none >>= _) _ _ s
    refine wpAny_bind (wpAny_setField hoi hdi (by simp) ?_)
    show wpAny _ _ (newExc (.type "StopIteration") [] >>= _) _ _ _
    refine wpAny_bind ?_
    delta newExc newTuple
    refine wpAny_bind (wpAny_newObj_type ?_ (by size_fits))
    refine wpAny_bind (m := firstArgMember _ _) (wpAny_of_eq (a := Value.none) (by first | rfl | (simp only [firstArgMember]; rfl)) ?_)
    refine wpAny_newObj_type ?_ (by size_fits)
    show wpAny _ _ (handled >>= _) _ _ _
    refine wpAny_bind (wpAny_handled ?_)
    rw [show A.in1.handled = none from hh]
    refine wpAny_bind (wpAny_pure (wpAny_throw ?_))
    refine wpAny_bind (wpAny_isInstance (T := "StopIteration") (b := true) ⟨_, Heap.get?_push_size _ rfl, rfl⟩ isSubtype_stop ?_)
    exact wpAny_pure (hend he _ (((Heap.SameBut.update ..).extBut.push _).push _))
theorem walks_raw (hh : A.handled = none) (I d : Addr) (hne : d ≠ I) (es : Array DictEntry) (ep : Nat) :
    Walks P.prog P.w A I [I, d] [I] es.size (fun i v => ∃ e, es[i]? = some e /\ e.key = v) (fun i h => KeyIter h I d i es.size ep /\ ObjAt h d (.type "dict") (.dict es ep)) where
  sub := fun b hb => by rw [List.mem_singleton.mp hb]; exact List.mem_cons_self
  frame := fun _ _ _ st hk => ⟨st.1.at fun o e => hk I List.mem_cons_self o e, hk d (List.mem_cons_of_mem _ List.mem_cons_self) _ st.2⟩
  item := fun i s Q E hi st hQ => nextD (P := P) st.1 st.2 hh (fun e h' he hit' hs' => hQ e.key h' s.toks ⟨e, he, rfl⟩ ⟨hit', (hs'.2 d hne).trans st.2⟩ fun b o hb e => (hs'.2 b fun h => hb (List.mem_singleton.mpr h)).trans e)
    (fun he => absurd he (by rw [Array.getElem?_eq_getElem hi]; exact fun e => nomatch e))
  done := fun s Q E st hQ => nextD (P := P) st.1 st.2 hh (fun e h' he => absurd he (by rw [Array.getElem?_eq_none (Nat.le_refl _)]; exact fun e => nomatch e)) (fun _ h' he' => hQ h' s.toks fun b o hb e => he' b o (fun h => hb (List.mem_singleton.mpr h)) e)
  self := fun _ _ _ _ st hQ => wpAny_pyIter_keyiter st.1 hQ
theorem src_raw (lo : (d == sysModules) = false) (es : Array DictEntry) (ep : Nat) : W.KdlSrc P.prog P.w "dict" d d es.size (fun i v => ∃ e, es[i]? = some e /\ e.key = v) (fun h => ObjAt h d (.type "dict") (.dict es ep)) where
  type := fun _ hm => ⟨_, hm, rfl⟩
  there := fun _ hm => ⟨Heap.lt_size hm, Heap.lt_size hm⟩
  keep := fun _ _ hm hk => hk d (.inl rfl) _ hm
  notList := by decide
  notTuple := by decide
  hint := fun _ _ _ _ hm hq => W.kdl_hint_dict ⟨_, hm, rfl⟩ hq
  iter := fun _ _ hh hm => ⟨_, _, (fun _ _ hq => iterD (P := P) lo hm hq), walks_raw hh _ d (Nat.ne_of_lt (Heap.lt_size hm)) es ep, ⟨⟨_, Heap.get?_push_size _ rfl, rfl, rfl⟩, Heap.get?_push_of_some _ hm⟩⟩
theorem REs.keys {w : World} {B : Bs} : ∀ {ps : List (Key × AV)} {es : List DictEntry}, REs w B h σ ps es -> RVs B h σ (ps.map fun p => p.1.av) (es.map fun e => e.key)
  | [], [], _ => trivial
  | _ :: _, _ :: _, r => ⟨r.1.2.1, REs.keys r.2⟩
  | [], _ :: _, r => r.elim
  | _ :: _, [], r => r.elim
theorem items_keys {es acc : Array Value} {n : Nat} {ds : Array DictEntry} (h : ItemsOf (fun i v => ∃ e, ds[i]? = some e /\ e.key = v) acc ds.size) : acc.toList = ds.toList.map fun e => e.key := by
  refine List.ext_getElem? fun i => ?_
  rw [List.getElem?_map, Array.getElem?_toList, Array.getElem?_toList]
  rcases hi : acc[i]? with _ | v
  case none =>
    have : ds[i]? = none := by rw [Array.getElem?_eq_none_iff] at hi |-; rw [h.1] at hi; exact hi
    rw [this]; rfl
  case some =>
    refine xEA (h.2 i v hi) fun e h1 h2 => ?_
    rw [h1, <- h2]; rfl
inductive WalkK (hp : AHeap) (j : Nat) : List AV -> Prop
  | lst (xs : List AV) (hj : hp[j]? = some (.list xs)) : WalkK hp j xs
  | dct (kvs : List (Key × AV)) (ep : Nat) (hj : hp[j]? = some (.dict kvs ep)) : WalkK hp j (kvs.map fun p => p.1.av)
theorem walkOf_is {j : Nat} (h : walkOf hp j = some xs) : WalkK hp j xs := by
  delta walkOf at h
  rcases hj : hp[j]? with _ | o
  case none => rw [hj] at h; exact none_ne h
  case some =>
    rw [hj] at h
    rcases o with _ | _
    case list ys => cases (show some ys = some xs from h); exact .lst _ hj
    case dict kvs ep => cases (show some (kvs.map fun p => p.1.av) = some xs from h); exact .dct _ _ hj
    all_goals exact none_ne h
theorem list_call (ok : P.Ok) (S : St P.w P.B σ hp s.heap) (hh : A.handled = none) {j : Nat} {xs : List AV} {v : Value} (rv : RV P.B s.heap σ (.loc j) v) (hx : walkOf hp j = some xs) (hb : newList xs hp ≠ .bad) :
    wpAny (model P.prog P.w) A (call (.type "list") [v]) (QV P σ s (newList xs hp)) E s := by
  refine xEEA rv fun a off qq1 e1 => ?_; try clear rv; subst qq1
  cases walkOf_is hx with
  | lst xs hj => exact list_prim S hj e1 hb
  | dct kvs ep hj =>
    refine xEAAAA (S.isDict hj e1) fun es ho re hnd hone hle => ?_
    have hlen := re.length.trans Array.length_toList
    refine W.kdl_call (src_raw (P := P) (S.notMods ok e1) es (off + ep)) hh ho (by lia) fun h' tk acc' c' hk hS' hacc => After.made (t := tk) S hk (free_size _) hS' ?_ hb
    rw [items_keys (es := acc') (n := 0) hacc]
    exact RVs.fixes (fun b o e _ => hk b o e) _ _ re.keys
theorem REs.dropAt {B : Bs} {h : Heap} : ∀ {ps : List (Key × AV)} {es : List DictEntry}, REs w B h σ ps es -> ∀ {i : Nat}, ps.findIdx? (fun p => p.1 == k) = some i -> (ps.map (·.1)).Nodup ->
    REs w B h σ (dropKey ps k) (es.eraseIdx i)
  | p :: ps, e :: es, r, i, hi, hn => by
    rw [List.findIdx?_cons] at hi
    rw [List.map_cons, List.nodup_cons] at hn
    unfold dropKey
    by_cases h : p.1 == k
    . rw [if_pos h] at hi
      cases hi
      have hrest : ps.filter (fun p => !(p.1 == k)) = ps := by
        refine List.filter_eq_self.mpr fun q hq => ?_
        have : (q.1 == k) = false := beq_eq_false_iff_ne.mpr fun e => hn.1 (by rw [eq_of_beq h, <- e]; exact List.mem_map_of_mem (f := (·.1)) hq)
        rw [this]; rfl
      rw [List.filter_cons_of_neg (by rw [h]; exact Bool.false_ne_true), hrest]
      exact r.2
    . rw [if_neg h] at hi
      rcases hj : ps.findIdx? (fun p => p.1 == k) with _ | j
      case none => rw [hj] at hi; cases hi
      case some =>
        rw [hj] at hi
        cases hi
        rw [List.filter_cons_of_pos (by simpa using h)]
        exact ⟨r.1, REs.dropAt r.2 hj hn.2⟩
  | [], [], _, _, hi, _ => by cases hi
  | [], _ :: _, r, _, _, _ => r.elim
  | _ :: _, [], r, _, _, _ => r.elim
theorem drop_keys {ps : List (Key × AV)} (h : (ps.map (·.1)).Nodup) : ((dropKey ps k).map (·.1)).Nodup := (List.filter_sublist.map _).nodup h
theorem REs.at {w : World} {B : Bs} : ∀ {ps : List (Key × AV)} {es : List DictEntry}, REs w B h σ ps es -> ∀ {i : Nat} {k : Key} {v : AV}, ps[i]? = some (k, v) -> ∃ e, es[i]? = some e /\ RV B h σ v e.val
  | p :: ps, e :: es, r, 0, k, v, hi => by rcases (Option.some.inj hi) with rfl; exact ⟨e, rfl, r.1.2.2⟩
  | p :: ps, e :: es, r, i + 1, k, v, hi => REs.at r.2 (i := i) hi
  | [], [], _, _, _, _, hi => by cases hi
  | [], _ :: _, r, _, _, _, _ => r.elim
  | _ :: _, [], r, _, _, _, _ => r.elim
theorem pop_call (ok : P.Ok) (S : St P.w P.B σ hp s.heap) (hu : A.units + 1 < cLine) (hj : hp[j]? = some (.dict kvs ep)) (e1 : σ[j]? = some (a, off)) {k : Key} {y : AV} (rx : RV P.B s.heap σ k.av u) (hso : sortOk kvs k = true) (hy : kvs.lookup k = some y) :
    wpAny (model P.prog P.w) A (call (.builtin "dict.pop") [.ref a, u]) (QV P σ s (.ok y (hp.set j (.dict (dropKey kvs k) (ep + 1))))) E s := by
  refine xEAAAA (S.isDict hj e1) fun es ho re hnd hone hle => ?_
  have hT : s.TypeIs (.ref a) "dict" := ⟨_, ho, rfl⟩
  refine xE (pyHash_prim (A := A.in1) rx (by show A.units + 1 < _; exact hu)) fun d hh => ?_
  have hlen := re.length.trans Array.length_toList
  obtain ⟨i, y', f1, f2, f3⟩ : ∃ i v, kvs.findIdx? (fun p => p.1 == k) = some i /\ kvs[i]? = some (k, v) /\ kvs.lookup k = some v := by
    rcases find_lookup (k := k) kvs with ⟨_, e2⟩ | h
    . rw [e2] at hy; cases hy
    . exact h
  rw [hy] at f3; cases f3
  refine xEA (re.at f2) fun e he rv => ?_
  have he' : es[i]? = some e := by rw [<- he]; obtain ⟨l⟩ := es; simp
  have hi : i < es.size := (Array.getElem?_eq_some_iff.mp he').1
  refine wpAny_call_entry F.slot_dict_pop hT F.entry_dict_pop ?_ (F.args_dict_pop_2 _ _)
  unfold Builtin.«dict.pop»
  refine wpAny_bind ?_
  unfold Builtin.Dict.keyAndDefault
  refine wpAny_bind (wpAny_notOrdered_dict hT ?_)
  show wpAny _ _ (pure (a, u, none)) _ _ s
  refine wpAny_pure ?_
  have hs' : Heap.SameBut a s.heap (s.heap.update a (Obj.mapDictKeys fun es => es.eraseIdxIfInBounds i)) := .update ..
  have hle2 : (dropKey kvs k).length <= kvs.length := List.length_filter_le ..
  refine xA (S.upd (X := []) e1 hs'.extBut (.dict (dropKey kvs k) (ep + 1)) (Heap.get?_update_self _ ho rfl) fun g => by
    refine ⟨es.eraseIdxIfInBounds i, Heap.get?_update_self _ ho rfl, ?_, drop_keys hnd, fun p hp' q hq => hone p (List.mem_filter.mp hp').1 q (List.mem_filter.mp hq).1, by lia⟩
    have := (re.grows g).dropAt f1 hnd
    obtain ⟨el⟩ := es
    simpa using this) fun S' g => ?_
  have htake : wpAny (model P.prog P.w) A.in1 (Builtin.Dict.takeOut a u) (fun old s' => old = some e /\ s' = { s with heap := s.heap.update a (Obj.mapDictKeys fun es => es.eraseIdxIfInBounds i), toks := s.toks + d }) E s := by
    unfold Builtin.Dict.takeOut
    refine wpAny_holding (wpAny_bind (hh _ _ ?_))
    refine wpAny_bind (dictFind_prim (s := { s with toks := s.toks + d }) ho rfl re hnd rx hso (by show A.units + 1 < _; exact hu) ?_)
    rw [f1]
    refine wpAny_bind (wpAny_dictEntries (s := { s with toks := s.toks + d }) ho rfl ?_)
    rw [he']
    exact wpAny_bind (wpAny_updateDictKeys (s := { s with toks := s.toks + d }) ho rfl (wpAny_pure ⟨rfl, rfl⟩) (hz := by lia))
  have hne : es.isEmpty = false := by
    rcases q : es.isEmpty with _ | _
    case false => rfl
    case true => rw [Array.isEmpty_iff.mp q] at hi; exact absurd hi (Nat.not_lt_zero _)
  dsimp only
  split
  case' isTrue => refine wpAny_bind (wpAny_pure ?_)
  case' isFalse =>
    refine wpAny_bind (wpAny_dictEntries ho rfl ?_)
    rw [hne]
    refine wpAny_bind (wpAny_pure ?_)
  all_goals
    rw [if_neg Bool.false_ne_true]
    refine wpAny_bind (wpAny_mono htake ?_ fun _ _ q => q)
    rintro _ _ ⟨rfl, rfl⟩
    exact wpAny_bind (wpAny_letGo (wpAny_pure ⟨e.val, rfl, _, _, _, rfl, ⟨rfl, S', g⟩, RV.grows g _ _ rv⟩))
theorem get_call (ok : P.Ok) (S : St P.w P.B σ hp s.heap) (hu : A.units + 1 < cLine) {off : Nat} (hj : dictAt hp j = some d) (e1 : σ[j]? = some (a, off)) {x y : AV} (rx : RV P.B s.heap σ x u) (hy : getD d.1 x.key? = some y) :
    wpAny (model P.prog P.w) A (call (.builtin "dict.get") [.ref a, u]) (QV P σ s (.ok y hp)) E s := by
  refine xEAAA (S.isDict (dictAt_is hj) e1) fun es ho re hnd _ => ?_
  have hT : s.TypeIs (.ref a) "dict" := ⟨_, ho, rfl⟩
  have hk : ∃ k, x.key? = some k /\ sortOk d.1 k = true /\ y = (d.1.lookup k).getD .none := by
    rcases hq : x.key? with _ | k <;> rw [hq] at hy
    case none => exact none_ne hy
    case some => exact xA (iteN hy) fun hs h => ⟨_, rfl, hs, (Option.some.inj h).symm⟩
  obtain ⟨k, hk, hso, rfl⟩ := hk
  rw [key_av hk] at rx
  refine xE (dictGet_prim (A := A.in1) S (dictAt_is hj) e1 rx hso (by show A.units + 1 < _; exact hu)) fun n hg => ?_
  refine wpAny_call_entry F.slot_dict_get hT F.entry_dict_get ?_ (F.args_dict_get_2 _ _)
  show wpAny _ _ (dictGet a u >>= _) _ _ s
  refine wpAny_bind (hg _ _ (fun e => ?_) (fun z w e rz => ?_))
  . rw [e]
    show wpAny _ _ (Builtin.Dict.missed a u >>= _) _ _ _
    exact wpAny_bind (wpAny_missed_other (S.notMods ok e1) (wpAny_pure ⟨.none, rfl, _, _, _, rfl, .tok S _, rfl⟩))
  . rw [e]
    exact wpAny_pure ⟨w, rfl, _, _, _, rfl, .tok S _, rz⟩
end
end
section
open PySem PySem.Spec PyProof.Rows PySem.SeqAt
section
variable {P : Par} {A : Around} {σ : Sg} {hp : AHeap} {s : Shared} {E : Value -> Shared -> Prop}
theorem nsAt_is (h : nsAt hp j = some (k, fs)) : hp[j]? = some (.inst k) /\ hp[k]? = some (.ns fs) := by
  delta nsAt at h
  rcases hj : hp[j]? with _ | o
  case none => rw [hj] at h; exact none_ne h
  case some =>
    rw [hj] at h
    rcases o with _ | _
    case inst i =>
      dsimp only at h
      rcases hi : hp[i]? with _ | o
      case none => rw [hi] at h; exact none_ne h
      case some =>
        rw [hi] at h
        rcases o with _ | _
        case ns gs => cases (show some (i, gs) = some (k, fs) from h); exact ⟨rfl, hi⟩
        all_goals exact none_ne h
    all_goals exact none_ne h
structure InstIs (P : Par) (σ : Sg) (h : Heap) (x dx : Addr) (fs : List (Str × AV)) (mA : Str -> Option Value) : Prop where
  inst : h.Inst x P.B.C mA
  ns : NsR P.B h σ fs mA
  obj : ∃ o, h.get? x = some o /\ o.dict = some dx
  ne : dx ≠ x
theorem inst_of (S : St P.w P.B σ hp s.heap) {j k : Nat} (hj : hp[j]? = some (.inst k)) (hk : hp[k]? = some (.ns fs)) (e1 : σ[j]? = some (x, off)) : ∃ mA off', σ[k]? = some (off, off') /\ InstIs P σ s.heap x off fs mA := by
  refine xEEAAAAAA (S.obj j x off _ e1 hj) fun o off' h1 h2 h3 h4 h5 h6 _ => ?_
  refine xEA (S.obj k off off' _ h6 hk) fun mA n1 n2 => ?_
  exact ⟨mA, off', h6, ⟨⟨o, h1, h2, h3, .inr ⟨off, h4, h5, n1⟩⟩, n2, ⟨o, h1, h4⟩, h5⟩⟩
theorem RV.handed : ∀ {x : AV} {v : Value}, RV B h σ x v -> handedOut v = pure v
  | .none, v, r => by rcases (show v = .none from r) with rfl; rfl
  | .bool b, v, r => by rcases (show v = .bool b from r) with rfl; rfl
  | .int i, v, r => by refine xE r fun t qq1 => ?_; try clear r; subst qq1; rfl
  | .str i, v, r => by refine xE r fun t qq1 => ?_; try clear r; subst qq1; rfl
  | .tup i, v, r => by refine xEEEA r fun a _ _ qq1 _ => ?_; try clear r; subst qq1; rfl
  | .loc i, v, r => by refine xEEA r fun a _ qq1 _ => ?_; try clear r; subst qq1; rfl
  | .rng .., v, r => by refine xEEEEA r fun a _ _ _ qq1 _ => ?_; try clear r; subst qq1; rfl
  | .scr i, v, r => by refine xEEA r fun a _ qq1 _ => ?_; try clear r; subst qq1; rfl
theorem attr_prim (ok : P.Ok) (S : St P.w P.B σ hp s.heap) (hn : P.B.attrs.contains n = true) (rv : RV P.B s.heap σ a v) (hb : attrAV n a hp ≠ .bad) : wpAny (model P.prog P.w) A (getAttr v n true) (QV P σ s (attrAV n a hp)) E s := by
  rcases a with _ | _
  case loc j =>
    refine xEEA rv fun x off qq1 e1 => ?_; try clear rv; subst qq1
    refine xEA (okO_eq hb) fun y hy e => ?_
    rw [show attrAV n (.loc j) hp = .ok y hp from e]
    refine xEA (Option.bind_eq_some_iff.mp hy) fun fs hf hl => ?_
    refine xEA (instAt_is hf) fun k hj hk => ?_
    refine xEEA (inst_of S hj hk e1) fun mA off' e2 I => ?_
    refine xEA (I.ns.has n y hl) fun u hu ru => ?_
    refine xEEEEEEEEEEEE ((ok.cls.keeps S.base).obj) fun nm q bs sn sub col dd k0 k1 k2 k3 k5 hC => ?_
    refine xA (ok.qa n hn) fun q1 q2 => ?_
    exact load_attr hC (ok.cls.keeps S.base).ns ok.q2 q1 q2 I.inst hu ru.handed ⟨_, _, _, rfl, .tok S _, ru⟩
  all_goals exact absurd rfl hb
theorem setattr_prim (ok : P.Ok) (S : St P.w P.B σ hp s.heap) (hn : P.B.attrs.contains n = true) {a y : AV} (rv : RV P.B s.heap σ a v) (ru : RV P.B s.heap σ y u) (hs : setAttrAV n a y hp = some hp')
    (h : ∀ s', After P σ σ [] hp' s s' -> Q () s') : wpAny (model P.prog P.w) A (setAttr v n u) Q E s := by
  rcases a with _ | _
  case loc j =>
    refine xEA (Option.map_eq_some_iff.mp (show (nsAt hp j).map (fun p => hp.set p.1 (.ns ((n, y) :: p.2))) = some hp' from hs)) fun qq1 hk qq2 => ?_; obtain ⟨k, fs⟩ := qq1; subst qq2
    refine xA (nsAt_is hk) fun hj hk => ?_
    refine xEEA rv fun x off qq1 e1 => ?_; try clear rv; subst qq1
    refine xEEA (inst_of S hj hk e1) fun mA off' e2 I => ?_
    refine xEEEEEEEEEEEE ((ok.cls.keeps S.base).obj) fun nm q bs sn sub col dd k0 k1 k2 k3 k5 hC => ?_
    refine xA (ok.qa n hn) fun q1 q2 => ?_
    refine xEA I.obj fun o hx hd => ?_
    have hxC : x ≠ P.B.C := fun e => by
      refine xEEEEEEEEEEEE ok.cls.obj fun _ _ _ _ _ _ _ _ _ _ _ _ hC0 => ?_
      have := S.new _ (List.mem_of_getElem? e1)
      rw [show ((x, off) : Addr × Nat).1 = x from rfl, e] at this
      rw [this] at hC0; cases hC0
    refine store_attr PySem.F.store_object hC (ok.cls.keeps S.base).ns ok.q1 q1 q2 hxC I.inst (fun h' tk' I' hk' hsame => ?_) I.ns.within ok.few
    refine xEAAAA (hsame o hx) fun o₁ e₁ c₁ d₁ s₁ dk₁ => ?_
    have eo : o₁ = o := by
      have hd1 := dk₁ off hd
      rcases o with ⟨_, _, _, _⟩; rcases o₁ with ⟨_, _, _, _⟩
      cases c₁; cases d₁; cases s₁
      cases hd; cases hd1; rfl
    subst eo
    have hk2 : ∀ b ob, b ≠ off -> s.heap.get? b = some ob -> h'.get? b = some ob := fun b ob hb e => by
      by_cases q : b = x
      . subst q; rw [hx] at e; cases e; exact e₁
      . exact hk' b ob q (fun o₀ dx q1 q2 => by rw [hx] at q1; cases q1; rw [hd] at q2; cases q2; exact hb) e
    refine xEAAA I' fun o2 e2' _ _ hdd => ?_
    rw [e₁] at e2'; cases e2'
    have hns : h'.Ns1 off (fun y => if y = n then some u else mA y) := by
      rcases hdd with ⟨hn0, _⟩ | ⟨d', hd', _, hns'⟩
      . rw [hd] at hn0; cases hn0
      . rw [hd] at hd'; cases hd'; exact hns'
    refine xEA (ns1_there hns) fun ob hob _ => ?_
    have hN : ∀ g : Grows σ σ [] s.heap h', NsR P.B h' σ ((n, y) :: fs) (fun y => if y = n then some u else mA y) := fun g => by
      refine ⟨fun z av hz => ?_, fun z hz => ?_, fun z hz => ?_⟩
      . rw [List.lookup_cons] at hz
        rcases hq : z == n with _ | _
        case true =>
          rw [hq] at hz; cases hz
          exact ⟨u, if_pos (beq_iff_eq.mp hq), RV.grows g _ _ ru⟩
        case false =>
          rw [hq] at hz
          refine xEA (I.ns.has z av hz) fun w h1 h2 => ?_
          exact ⟨w, (if_neg (beq_eq_false_iff_ne.mp hq)).trans h1, RV.grows g _ _ h2⟩
      . rw [List.lookup_cons] at hz
        rcases hq : z == n with _ | _
        case true => rw [hq] at hz; cases hz
        case false =>
          rw [hq] at hz
          exact (if_neg (beq_eq_false_iff_ne.mp hq)).trans (I.ns.non z hz)
      . by_cases q : z = n
        . subst q; exact List.contains_iff_mem.mp hn
        . exact I.ns.within z (fun e => hz ((if_neg q).trans e))
    refine xA (S.upd (X := []) e2 hk2 (.ns ((n, y) :: fs)) hob fun g => ⟨_, hns, hN g⟩) fun S' g => ?_
    exact h _ ⟨rfl, S', g⟩
  all_goals exact none_ne hs
theorem St.made (S : St P.w P.B σ hp s.heap) (M : Heap.MadeObj s.heap h' x dx P.B.C) (hpl : ∀ o, h'.get? x = some o -> ∀ v, o.data ≠ .prim v) :
    St P.w P.B (σ ++ [(dx, 0)] ++ [(x, dx)]) (made hp) h' /\ Grows σ (σ ++ [(dx, 0)] ++ [(x, dx)]) [] s.heap h' := by
  refine xEAAA M.inst fun ox hx hcx hncx hdx => ?_
  have hdd := M.dict ox hx
  have hnsd : h'.Ns1 dx fun _ => none := by
    rcases hdx with ⟨hn0, _⟩ | ⟨d', hd', _, hns'⟩
    . rw [hn0] at hdd; cases hdd
    . rw [hdd] at hd'; cases hd'; exact hns'
  have hne : dx ≠ x := by
    rcases hdx with ⟨hn0, _⟩ | ⟨d', hd', hne', _⟩
    . rw [hn0] at hdd; cases hdd
    . rw [hdd] at hd'; cases hd'; exact hne'
  have free : ∀ b, s.heap.get? b = none -> b ∉ σ.map (·.1) /\ P.B.h₀.get? b = none := fun b hb => by
    refine ⟨fun hm => ?_, ?_⟩
    . refine xEA (List.mem_map.mp hm) fun p hp qq1 => ?_; subst qq1
      refine xEA (S.there hp) fun ob e _ => ?_
      rw [hb] at e; cases e
    . rcases hq : P.B.h₀.get? b with _ | o
      case none => rfl
      case some => have := S.base b o hq; rw [hb] at this; cases this
  have S1 := (S.keep M.keeps).adopt (off := 0) (ao := .ns []) (free dx M.newD).1 (free dx M.newD).2 fun _ => ⟨_, hnsd, ⟨fun y av e => (nomatch (show none = some av from e)), fun y _ => rfl, fun y hy => absurd rfl hy⟩⟩
  have hx2 : x ∉ (σ ++ [(dx, 0)]).map (fun p : Addr × Nat => p.1) := by
    rw [List.map_append, List.mem_append]
    rintro (q | q)
    . exact (free x M.newX).1 q
    . exact hne (List.mem_singleton.mp q).symm
  have hlook : (σ ++ [(dx, 0)] ++ [(x, dx)])[hp.length]? = some (dx, 0) := by
    rw [List.getElem?_append_left (by rw [List.length_append, S.len]; exact Nat.lt_succ_self _), <- S.len]; exact List.getElem?_concat_length
  have S2 := S1.adopt (off := dx) (ao := .inst hp.length) hx2 (free x M.newX).2 fun _ => ⟨ox, 0, hx, hcx, hncx, hdd, hne, hlook, hpl ox hx⟩
  refine ⟨?_, ((grows_keep M.keeps).adopt M.newD).adopt M.newX⟩
  have e : Mine.Internal.made hp = hp ++ [.ns []] ++ [.inst hp.length] := by unfold Mine.Internal.made; rw [List.append_assoc]; rfl
  rw [e]; exact S2
end
end
end Mine.Internal
set_option maxRecDepth 100000
namespace Mine.Internal
section
open PySem PyProof.Rows
section
variable {prog : Program} {w : World} {A : Around} {E : Value -> Shared -> Prop} {s : Shared}
theorem entries_tup {id : String} (ho : s.heap.get? o = some oo) (hd : oo.data = .dict es ep)
    (hk : ∀ e ∈ es, ∃ a ot, e.key = .ref a /\ s.heap.get? a = some ot /\ ot.cls = .type "tuple") (hh : ∀ e ∈ es, ¬ (es.filter (·.hash == e.hash)).size > 1) (hq : Q es s) : wpAny (model prog w) A (Builtin.Dict.entriesForEmpty id o) Q E s := by
  unfold Builtin.Dict.entriesForEmpty
  refine wpAny_bind (wpAny_dictEntries ho hd ?_)
  refine wpAny_bind (wpAny_forIn_array' _ (fun rest _ s' => s' = s /\ ∀ e ∈ rest, e ∈ es) _ ?_ ?_ es _ ⟨rfl, fun e he => Array.mem_toList_iff.mp he⟩)
  . rintro e rest b s' ⟨rfl, hin⟩
    have hm := hin e List.mem_cons_self
    refine xEEAA (hk e hm) fun a ot ek hot hct => ?_
    have nx : (s' : Shared) = s' /\ ∀ e ∈ rest, e ∈ es := ⟨rfl, fun x hx => hin x (List.mem_cons_of_mem _ hx)⟩
    rw [ek]
    unfold Builtin.Dict.quietEq
    refine wpAny_bind (wpAny_bind (wpAny_specialOf (T := "tuple") ⟨_, hot, hct⟩ F.slot_tuple_eq.lookup (wpAny_pure ?_)))
    rw [if_pos (by decide)]
    rw [if_neg (by simpa using hh e hm)]
    exact wpAny_pure nx
  . rintro b s' ⟨rfl, _⟩
    exact wpAny_pure hq
theorem dict_copy (hoS : (o == sysModules) = false) (ho : s.heap.get? o = some oo) (hc : oo.cls = .type "dict") (hd : oo.data = .dict es ep)
    (hk : ∀ e ∈ es, ∃ a ot, e.key = .ref a /\ s.heap.get? a = some ot /\ ot.cls = .type "tuple") (hh : ∀ e ∈ es, ¬ (es.filter (·.hash == e.hash)).size > 1) (hsz : es.size <= sizeLine)
    (h : ∀ h' ep', h'.get? s.heap.objs.size = some { cls := .type "dict", data := .dict es ep' } -> (∀ b o, s.heap.get? b = some o -> h'.get? b = some o) -> Q (.ref s.heap.objs.size) { s with heap := h' }) :
    wpAny (model prog w) A (call (.type "dict") [.ref o]) Q E s := by
  refine callType_codes (Q₁ := fun obj s₁ => obj = .ref s.heap.objs.size /\ s₁ = { s with heap := s.heap.push { cls := .type "dict", data := .dict #[] } }) F.kt_called_dict (F.kt_typeCall_dict_1 _) F.entry_dict_init (kt_code_dict_new _ ⟨rfl, rfl⟩) ?_
  rintro obj s₁ ⟨rfl, rfl⟩
  have keep : ∀ b o, s.heap.get? b = some o -> (s.heap.push { cls := .type "dict", data := .dict #[] }).get? b = some o := fun b o e => Heap.get?_push_of_some _ e
  have hnew : (s.heap.push { cls := .type "dict", data := .dict #[] }).get? s.heap.objs.size = some { cls := .type "dict", data := .dict #[] } := Heap.get?_push_size _ rfl
  have ho' := keep _ _ ho
  have hdo : s.heap.objs.size ≠ o := fun e => absurd (Heap.lt_size ho) (by rw [e]; exact Nat.lt_irrefl _)
  have t1 : ({ s with heap := s.heap.push { cls := .type "dict", data := .dict #[] } } : Shared).TypeIs (.ref s.heap.objs.size) "dict" := ⟨_, hnew, rfl⟩
  have t2 : ({ s with heap := s.heap.push { cls := .type "dict", data := .dict #[] } } : Shared).TypeIs (.ref o) "dict" := ⟨_, ho', hc⟩
  refine ⟨t1, F.args_dict_init_2 _ _, ?_⟩
  unfold Builtin.«dict.__init__»
  refine wpAny_bind ?_
  unfold Builtin.Dict.selfAndRest
  refine wpAny_bind (wpAny_notOrdered_dict t1 ?_)
  show wpAny _ _ (pure (s.heap.objs.size, [Value.ref o])) _ _ _
  refine wpAny_pure ?_
  show wpAny _ _ (Builtin.Dict.updateFrom "dict.__init__" s.heap.objs.size (.ref o) [] .none) _ _ _
  unfold Builtin.Dict.updateFrom
  refine wpAny_bind (wpAny_typeOf t2 ?_)
  rw [if_neg (by decide)]
  refine wpAny_bind ?_
  unfold Builtin.Dict.merge
  refine wpAny_bind ?_
  unfold Builtin.Dict.readDirectly
  refine wpAny_bind (wpAny_isInstance t2 isSubtype_dict_dict ?_)
  simp only [Bool.not_true, Bool.false_eq_true, if_false]
  refine wpAny_bind (wpAny_specialOf t2 F.slot_dict_iter.lookup (wpAny_pure ?_))
  simp only [beq_self_eq_true, if_true]
  refine wpAny_bind (wpAny_pure ?_)
  unfold Builtin.Dict.mergeDict
  rw [if_neg (by simpa using hdo)]
  unfold Builtin.Dict.showsAll
  rw [if_neg (by rw [hoS]; exact Bool.false_ne_true)]
  refine wpAny_bind (wpAny_pure ?_)
  refine wpAny_bind (wpAny_dictEntries ho' hd ?_)
  by_cases he : es = #[]
  . subst he
    dsimp only
    rw [if_neg (by simp)]
    refine wpAny_bind (wpAny_dictEpoch ho' hd ?_)
    refine wpAny_bind (wpAny_dictEntries ho' hd ?_)
    refine wpAny_bind ?_
    rw [Std.Legacy.Range.forIn_eq_forIn_range']
    refine wpAny_pure (wpAny_pure ?_)
    show wpAny _ _ (Builtin.Dict.addKeywords s.heap.objs.size [] >>= _) _ _ _
    exact wpAny_bind (wpAny_pure (wpAny_pure ⟨rfl, h _ _ hnew keep⟩))
  . have hfew : (decide (es.size <= 8) && es.all fun e => (keyPart e.key).isSome) = false := by
      have hp : 0 < es.size := Nat.pos_of_ne_zero fun q => he (Array.eq_empty_of_size_eq_zero q)
      refine xEEA (hk es[0] (Array.getElem_mem hp)) fun a ot ek _ => ?_
      have : (es.all fun e => (keyPart e.key).isSome) = false := by
        rw [Array.all_eq_false]
        exact ⟨0, hp, by rw [ek]; exact Bool.false_ne_true⟩
      rw [this, Bool.and_false]
    dsimp only
    rw [if_pos (by rw [hfew]; rfl)]
    refine wpAny_bind (wpAny_dictEntries hnew rfl ?_)
    rw [if_pos (by rfl)]
    refine wpAny_bind (entries_tup (s := { s with heap := s.heap.push { cls := .type "dict", data := .dict #[] } }) ho' hd (fun e he => xEEAA (hk e he) fun a ot h1 h2 h3 => ⟨a, ot, h1, keep _ _ h2, h3⟩) hh ?_)
    rw [if_pos (by simpa [Array.isEmpty] using he)]
    have hup : ((s.heap.push { cls := .type "dict", data := .dict #[] }).update s.heap.objs.size (Obj.mapDictKeys fun _ => es)).get? s.heap.objs.size = some { cls := .type "dict", data := .dict es 1 } := Heap.get?_update_self _ hnew rfl
    refine wpAny_bind (wpAny_updateDictKeysTo hnew rfl ?_ (Nat.le_succ_of_le hsz))
    refine wpAny_pure ?_
    show wpAny _ _ (Builtin.Dict.addKeywords s.heap.objs.size [] >>= _) _ _ _
    refine wpAny_bind (wpAny_pure (wpAny_pure ⟨rfl, h _ _ hup fun b o e => ?_⟩))
    rw [Heap.get?_update_other _ _ (Ne.symm (Nat.ne_of_lt (Heap.lt_size e)))]
    exact keep b o e
end
end
section
open PySem
noncomputable def pairHash (a b : Int) : Int := reduceHash (Builtin.Tuple.tupleHashOf [hashInt a, hashInt b])
noncomputable def unhash (k : Nat) (h : Int) : Nat :=
  let m : Nat := 18446744073709551616
  let x := ((h % 18446744073709551616).toNat + m - 2870177450013471924) % m
  let x := x * 614540362697595703 % m
  let x := (x * 8589934592) % m + x / 2147483648
  (x + m - k) % m * 839798700976720815 % m
theorem unhash_all : ((List.range 1000).all fun b => unhash 6823068795704846497 (pairHash 0 b) == b && unhash 8932352168822476794 (pairHash 1 b) == b && decide (1000 <= unhash 6823068795704846497 (pairHash 1 b))) = true := by decide +kernel
theorem unhash_at (h0 : 0 <= b) (h1 : b < 1000) : unhash 6823068795704846497 (pairHash 0 b) = b.toNat /\ unhash 8932352168822476794 (pairHash 1 b) = b.toNat /\ 1000 <= unhash 6823068795704846497 (pairHash 1 b) := by
  have := List.all_eq_true.mp unhash_all b.toNat (List.mem_range.mpr (by lia))
  rw [show ((b.toNat : Nat) : Int) = b from by lia, Bool.and_eq_true, Bool.and_eq_true, beq_iff_eq, beq_iff_eq, decide_eq_true_eq] at this
  exact ⟨this.1.1, this.1.2, this.2⟩
theorem pair_inj (ha : a = 0 \/ a = 1) (hb : 0 <= b /\ b < 1000) (ha' : a' = 0 \/ a' = 1) (hb' : 0 <= b' /\ b' < 1000) (e : pairHash a b = pairHash a' b') : a = a' /\ b = b' := by
  refine xAA (unhash_at hb.1 hb.2) fun x1 x2 x3 => ?_
  refine xAA (unhash_at hb'.1 hb'.2) fun y1 y2 y3 => ?_
  rcases ha with rfl | rfl <;> rcases ha' with rfl | rfl
  . rw [e, y1] at x1; lia
  . rw [e] at x1; lia
  . rw [<- e] at y1; lia
  . rw [e, y2] at x2; lia
end
section
open PySem PySem.Spec PyProof.Rows PySem.SeqAt
theorem REs.hashes : ∀ {ps : List (Key × AV)} {es : List DictEntry}, REs w B h σ ps es -> es.map (fun e => e.hash) = ps.map fun p => keyHash w p.1
  | [], [], _ => rfl
  | _ :: _, _ :: _, r => by rw [List.map_cons, List.map_cons, r.1.1, REs.hashes r.2]
  | [], _ :: _, r => r.elim
  | _ :: _, [], r => r.elim
theorem seatKey_is (h : seatKey k = true) : ∃ a b, k = .pair a b /\ (a = 0 \/ a = 1) /\ 0 <= b /\ b < 1000 := by
  rcases k with s | ⟨a, b⟩
  case str => exact absurd h Bool.false_ne_true
  case pair =>
    have h : ((a == 0 || a == 1) && decide (0 <= b) && decide (b < 1000)) = true := h
    rw [Bool.and_eq_true, Bool.and_eq_true, Bool.or_eq_true, beq_iff_eq, beq_iff_eq, decide_eq_true_eq, decide_eq_true_eq] at h
    exact ⟨a, b, rfl, h.1.1, h.1.2, h.2⟩
theorem hash_once {es : Array DictEntry} (re : REs w B h σ kvs es.toList) (nd : (kvs.map (·.1)).Nodup) (hs : ∀ p ∈ kvs, seatKey p.1 = true) (x : Int) : ¬ (es.filter (·.hash == x)).size > 1 := by
  have n2 : (es.toList.map fun e => e.hash).Nodup := by
    rw [re.hashes]
    rw [List.Nodup, List.pairwise_map] at nd |-
    refine nd.imp_of_mem fun {p q} hp hq hne e => hne ?_
    refine xEEAA (seatKey_is (hs p hp)) fun a b h1 ha hb => ?_
    refine xEEAA (seatKey_is (hs q hq)) fun a' b' h2 ha' hb' => ?_
    rw [h1, h2] at e |-
    refine xA (pair_inj ha hb ha' hb' e) fun qq1 qq2 => ?_; subst qq1; subst qq2
    rfl
  have := List.nodup_iff_count.mp n2 x
  rw [List.count_eq_countP, List.countP_map] at this
  have e : (es.filter (·.hash == x)).size = es.toList.countP ((fun y => y == x) ∘ fun e => e.hash) := by
    rw [<- Array.length_toList, Array.toList_filter, List.countP_eq_length_filter]; rfl
  omega
section
variable {P : Par} {A : Around} {σ : Sg} {hp : AHeap} {s : Shared} {E : Value -> Shared -> Prop}
theorem copy_prim (ok : P.Ok) (S : St P.w P.B σ hp s.heap) (rv : RV P.B s.heap σ (.loc j) v) (hb : copyD (dictAt hp j) hp ≠ .bad) :
    wpAny (model P.prog P.w) A (call (.type "dict") [v]) (QV P σ s (copyD (dictAt hp j) hp)) E s := by
  refine xEEA rv fun a off qq1 e1 => ?_; try clear rv; subst qq1
  rcases hd : dictAt hp j with _ | d
  case none => rw [hd] at hb; exact absurd rfl hb
  case some =>
    rw [hd] at hb
    have hall := pos_if (c := (d.1.all fun p => seatKey p.1) = true) hb
    rw [show copyD (some d) hp = .ok (.loc hp.length) (hp ++ [.dict d.1 0]) from if_pos hall]
    refine xEAAAA (S.isDict (dictAt_is hd) e1) fun es ho re hnd hone hle => ?_
    have hs : ∀ p ∈ d.1, seatKey p.1 = true := fun p hp => List.all_eq_true.mp hall p hp
    have hlen := re.length.trans Array.length_toList
    refine dict_copy (S.notMods ok e1) ho rfl rfl (fun e he => ?_) (fun e _ => hash_once re hnd hs e.hash) (by lia) fun h' ep' hn hk => ?_
    . refine xE (Array.mem_iff_getElem.mp he) fun i qq1 => ?_; obtain ⟨hi, rfl⟩ := qq1
      have hi' : i < d.1.length := by lia
      refine xEAAA (re.get (List.getElem?_eq_getElem hi')) fun e h1 _ h2 _ => ?_
      rw [Array.getElem?_toList, Array.getElem?_eq_getElem hi] at h1
      cases h1
      refine xEEA (seatKey_is (hs _ (List.getElem_mem hi'))) fun x y h3 _ => ?_
      rw [h3] at h2
      refine xEEEAA h2 fun b ws n h4 h5 _ => ?_
      exact ⟨b, _, h4, h5, rfl⟩
    . have S1 := (S.keep hk).adopt (a := s.heap.objs.size) (off := ep') (ao := .dict d.1 0) S.fresh S.base.fresh fun k => ⟨es, hn, re.mono (fun b o e _ => hk b o e) k, hnd, hone, hle⟩
      have g := (grows_keep (σ := σ) (X := []) hk).adopt (a := s.heap.objs.size) (free_size s.heap) (off := ep')
      exact ⟨_, _, _, rfl, ⟨rfl, S1, g⟩, _, ep', rfl, by rw [<- S.len]; exact List.getElem?_concat_length⟩
end
end
section
open PySem PySem.SetTable
noncomputable def adv (M : Nat) (p : Probe) : Probe :=
  if p.more > 0 then { p with j := p.j + 1, more := p.more - 1 }
  else { p with j := (leap M p.i p.perturb).1, more := runEnd M (leap M p.i p.perturb).1 - (leap M p.i p.perturb).1, i := (leap M p.i p.perturb).1, perturb := (leap M p.i p.perturb).2 }
noncomputable def rs (M i q : Nat) : Probe := ⟨i, runEnd M i - i, i, q, none⟩
noncomputable def seqP (M : Nat) (h : Int) : Nat -> Probe
  | 0 => rs M (bits h % (M + 1)) (bits h)
  | n + 1 => adv M (seqP M h n)
noncomputable def at_ (M : Nat) (h : Int) (n : Nat) : Nat := (seqP M h n).j
noncomputable def runs (M : Nat) (h : Int) : Nat -> Nat
  | 0 => bits h % (M + 1)
  | k + 1 => (leap M (runs M h k) (bits h / 32 ^ k)).1
theorem runEnd_le (M i : Nat) : i <= runEnd M i /\ runEnd M i <= i + 9 := by
  unfold runEnd
  rcases Nat.lt_or_ge M (i + 9) with h | h
  . rw [if_neg (Nat.not_le.mpr h)]; omega
  . rw [if_pos h]; omega
theorem seq_run (e : seqP M h n = rs M i q) : ∀ d, d <= runEnd M i - i -> seqP M h (n + d) = ⟨i + d, runEnd M i - i - d, i, q, none⟩
  | 0, _ => e
  | d + 1, hd => (congrArg (adv M) (seq_run e d (Nat.le_of_succ_le hd))).trans (if_pos (Nat.sub_pos_of_lt hd))
theorem seq_next (e : seqP M h n = rs M i q) : seqP M h (n + (runEnd M i - i) + 1) = rs M (leap M i q).1 (q / 32) :=
  (congrArg (adv M) (seq_run e _ (Nat.le_refl _))).trans (if_neg (by show ¬ (runEnd M i - i - (runEnd M i - i) > 0); rw [Nat.sub_self]; exact Nat.lt_irrefl 0))
theorem seq_runs (M : Nat) (h : Int) : ∀ k, ∃ n, n <= 10 * k /\ seqP M h n = rs M (runs M h k) (bits h / 32 ^ k)
  | 0 => ⟨0, Nat.le_refl _, by rw [Nat.pow_zero, Nat.div_one]; rfl⟩
  | k + 1 => by
    obtain ⟨n, hn, e⟩ := seq_runs M h k
    have := runEnd_le M (runs M h k)
    exact ⟨_, by omega, (seq_next e).trans (by rw [Nat.pow_succ, <- Nat.div_div_eq_div_mul]; rfl)⟩
theorem bits_lt (h : Int) : bits h < 2 ^ 64 := by unfold bits; omega
theorem bits_gone {h : Int} {k : Nat} (hk : 13 <= k) : bits h / 32 ^ k = 0 :=
  Nat.div_eq_of_lt (Nat.lt_of_lt_of_le (bits_lt h) (Nat.le_trans (by decide) (Nat.pow_le_pow_right (by decide) hk)))
noncomputable def itN (N : Nat) : Nat -> Nat -> Nat
  | 0, i => i
  | n + 1, i => itN N n ((i * 5 + 1) % N)
theorem it_add (N b i : Nat) : ∀ a i, itN N (a + b) i = itN N b (itN N a i)
  | 0, i => by rw [Nat.zero_add]; rfl
  | a + 1, i => by rw [Nat.succ_add]; exact it_add N b i a _
theorem runs_it {M : Nat} {h : Int} : ∀ m k, 13 <= k -> runs M h (k + m) = itN (M + 1) m (runs M h k)
  | 0, _, _ => rfl
  | m + 1, k, hk => by
    have e1 : runs M h (k + 1) = (runs M h k * 5 + 1) % (M + 1) := by
      show (leap M _ _).1 = _
      rw [bits_gone hk]; rfl
    rw [show k + (m + 1) = k + 1 + m from (Nat.succ_add k m).symm ▸ rfl, runs_it m (k + 1) (Nat.le_succ_of_le hk), e1]
    rfl
noncomputable def meets (N : Nat) : Nat -> Nat -> Nat -> Bool
  | 0, _, _ => false
  | f + 1, i, e => i == e || meets N f ((i * 5 + 1) % N) e
theorem meets_is {N e : Nat} : ∀ f i, meets N f i e = true -> ∃ m, m < f /\ itN N m i = e
  | 0, _, h => nomatch h
  | f + 1, i, h => ((Bool.or_eq_true ..).mp h).elim (fun h => ⟨0, Nat.succ_pos _, eq_of_beq h⟩) fun h => by
    obtain ⟨m, hm, e⟩ := meets_is f _ h
    exact ⟨m + 1, Nat.succ_lt_succ hm, e⟩
noncomputable def goodB (M : Nat) : Bool := (List.range (M + 1)).all fun i => meets (M + 1) (M + 1) i 0 && meets (M + 1) (M + 1) 0 i && itN (M + 1) (M + 1) i == i
noncomputable def GoodM (M : Nat) : Prop := M = 7 \/ M = 31 \/ M = 127
theorem good_is {M : Nat} (g : GoodM M) : goodB M = true := by
  rcases g with rfl | rfl | rfl <;> decide +kernel
theorem runs_lt (M : Nat) (h : Int) : ∀ k, runs M h k < M + 1
  | 0 => Nat.mod_lt _ (Nat.succ_pos _)
  | k + 1 => Nat.mod_lt _ (Nat.succ_pos _)
theorem good_at {M i : Nat} (g : GoodM M) (hi : i < M + 1) : (meets (M + 1) (M + 1) i 0 = true /\ meets (M + 1) (M + 1) 0 i = true) /\ itN (M + 1) (M + 1) i = i := by
  have := List.all_eq_true.mp (good_is g) i (List.mem_range.mpr hi)
  rw [Bool.and_eq_true, Bool.and_eq_true, beq_iff_eq] at this
  exact this
theorem hits {M : Nat} (g : GoodM M) (h : Int) {e : Nat} (he : e < M + 1) : ∃ k, k <= M + 13 /\ runs M h k = e := by
  have G := good_at g (runs_lt M h 13)
  obtain ⟨a, ha, ea⟩ := meets_is _ _ G.1.1
  obtain ⟨b, hb, eb⟩ := meets_is _ _ (good_at g he).1.2
  have e1 : itN (M + 1) (a + b) (runs M h 13) = e := by rw [it_add (M + 1) b 0, ea, eb]
  rcases Nat.lt_or_ge (a + b) (M + 1) with q | q
  . exact ⟨13 + (a + b), by omega, (runs_it _ _ (Nat.le_refl _)).trans e1⟩
  . refine ⟨13 + (a + b - (M + 1)), by omega, (runs_it _ _ (Nat.le_refl _)).trans ?_⟩
    rw [show a + b = M + 1 + (a + b - (M + 1)) from (Nat.add_sub_cancel' q).symm, it_add (M + 1) _ 0, G.2] at e1
    exact e1
theorem seq_dummy {M : Nat} {h : Int} : ∀ n, (seqP M h n).dummy = none
  | 0 => rfl
  | n + 1 => by
    show (adv M (seqP M h n)).dummy = none
    unfold adv
    rcases Nat.lt_or_ge 0 (seqP M h n).more with q | q
    . rw [if_pos q]; exact seq_dummy n
    . rw [if_neg (Nat.not_lt.mpr q)]; exact seq_dummy n
theorem least {p : Nat -> Prop} : ∀ n, p n -> ∃ m, m <= n /\ p m /\ ∀ k, k < m -> ¬ p k
  | n, h => Classical.byCases (fun q : ∃ k, k < n /\ p k => by
      obtain ⟨k, hk, hp⟩ := q
      obtain ⟨m, hm, x⟩ := least k hp
      exact ⟨m, Nat.le_trans hm (Nat.le_of_lt hk), x⟩) fun q => ⟨n, Nat.le_refl _, h, fun k hk hp => q ⟨k, hk, hp⟩⟩
noncomputable def First (M : Nat) (L : List Nat) (h : Int) (n : Nat) : Prop := at_ M h n ∉ L /\ ∀ m, m < n -> at_ M h m ∈ L
theorem cardM_le {α : Type} [DecidableEq α] : ∀ {l l' : List α}, l.Nodup -> (∀ x ∈ l, x ∈ l') -> l.length <= l'.length
  | [], _, _, _ => Nat.zero_le _
  | a :: l, l', nd, s => by
    have nd := List.nodup_cons.mp nd
    have ha := s a (.head _)
    have := cardM_le (l' := l'.erase a) nd.2 fun x hx => (List.mem_erase_of_ne fun (q : x = a) => nd.1 (q ▸ hx)).mpr (s x (.tail _ hx))
    rw [List.length_erase_of_mem ha] at this
    have := List.length_pos_of_mem ha
    exact Nat.lt_of_le_of_lt ‹_› (Nat.sub_lt this Nat.one_pos)
theorem free_there {M : Nat} {L : List Nat} (hl : L.length <= M) : ∃ e, e < M + 1 /\ e ∉ L := Classical.byContradiction fun hn => by
  have := cardM_le (l' := L) List.nodup_range fun x hx => Classical.byContradiction fun q => hn ⟨x, List.mem_range.mp hx, q⟩
  rw [List.length_range] at this
  omega
theorem first_is {M : Nat} (g : GoodM M) {L : List Nat} (hl : L.length <= M) (h : Int) : ∃ n, n <= 10 * (M + 13) /\ First M L h n := by
  obtain ⟨e, he, hn⟩ := free_there hl
  obtain ⟨k, hk, e1⟩ := hits g h he
  obtain ⟨n, hn', e2⟩ := seq_runs M h k
  have e3 : at_ M h n ∉ L := by unfold at_; rw [e2]; show runs M h k ∉ L; rw [e1]; exact hn
  obtain ⟨m, hm, h1, h2⟩ := least (p := fun n => at_ M h n ∉ L) n e3
  exact ⟨m, by omega, h1, fun k hk => Classical.byContradiction (h2 k hk)⟩
end
section
open PySem PySem.SetTable
abbrev Up (xs : Array Nat) : Prop := xs.toList.Pairwise (· < ·)
theorem Up.at {xs : Array Nat} (u : Up xs) {a b x y : Nat} (h : a < b) (ha : xs[a]? = some x) (hb : xs[b]? = some y) : x < y := by
  rw [<- Array.getElem?_toList] at ha hb
  obtain ⟨h1, rfl⟩ := List.getElem?_eq_some_iff.mp ha
  obtain ⟨h2, rfl⟩ := List.getElem?_eq_some_iff.mp hb
  exact List.pairwise_iff_getElem.mp u a b h1 h2 h
noncomputable def IsBelow (xs : Array Nat) (j p : Nat) : Prop := p <= xs.size /\ (∀ a x : Nat, a < p -> xs[a]? = some x -> x < j) /\ ∀ a x : Nat, p <= a -> xs[a]? = some x -> j <= x
theorem go_succ (xs : Array Nat) (j f lo hi : Nat) : below.go xs j (f + 1) lo hi = if lo < hi then (if xs.getD ((lo + hi) / 2) j < j then below.go xs j f ((lo + hi) / 2 + 1) hi else below.go xs j f lo ((lo + hi) / 2)) else lo := rfl
theorem below_go {xs : Array Nat} {j : Nat} (u : Up xs) : ∀ f lo hi, hi <= lo + f -> lo <= hi -> hi <= xs.size -> (∀ a x : Nat, a < lo -> xs[a]? = some x -> x < j) -> (∀ a x : Nat, hi <= a -> xs[a]? = some x -> j <= x) ->
    IsBelow xs j (below.go xs j f lo hi)
  | 0, lo, hi, h1, h2, h3, h4, h5 => ⟨Nat.le_trans h2 h3, h4, fun a x ha => h5 a x (Nat.le_trans h1 ha)⟩
  | f + 1, lo, hi, h1, h2, h3, h4, h5 => by
    rw [go_succ]
    rcases Nat.lt_or_ge lo hi with hlt | hge
    . rw [if_pos hlt]
      have hm : (lo + hi) / 2 < xs.size := by omega
      have hg : xs[(lo + hi) / 2]? = some (xs[(lo + hi) / 2]'hm) := Array.getElem?_eq_getElem hm
      rw [show xs.getD ((lo + hi) / 2) j = xs[(lo + hi) / 2]'hm by rw [Array.getD_eq_getD_getElem?, hg]; rfl]
      have at_mid : ∀ a x : Nat, xs[a]? = some x -> a = (lo + hi) / 2 -> x = xs[(lo + hi) / 2]'hm := fun a x he q => by
        subst q; rw [hg] at he; exact (Option.some.inj he).symm
      rcases Nat.lt_or_ge (xs[(lo + hi) / 2]'hm) j with hx | hx
      . rw [if_pos hx]
        refine below_go u f _ hi (by omega) (by omega) h3 (fun a x ha he => ?_) h5
        rcases Nat.lt_or_ge a ((lo + hi) / 2) with q | q
        . exact Nat.lt_trans (u.at q he hg) hx
        . rw [at_mid a x he (by omega)]; exact hx
      . rw [if_neg (Nat.not_lt.mpr hx)]
        refine below_go u f lo _ (by omega) (by omega) (by omega) h4 fun a x ha he => ?_
        rcases Nat.lt_or_ge ((lo + hi) / 2) a with q | q
        . exact Nat.le_of_lt (Nat.lt_of_le_of_lt hx (u.at q hg he))
        . rw [at_mid a x he (by omega)]; exact hx
    . rw [if_neg (Nat.not_lt.mpr hge)]
      exact ⟨Nat.le_trans h2 h3, h4, fun a x ha => h5 a x (Nat.le_trans hge ha)⟩
theorem below_is (u : Up xs) (j : Nat) : IsBelow xs j (below xs j) :=
  below_go u xs.size 0 xs.size (Nat.le_add_left _ _) (Nat.zero_le _) (Nat.le_refl _) (fun a x h => absurd h (Nat.not_lt_zero a)) fun a x h e => by
    rw [Array.getElem?_eq_none h] at e; exact nomatch e
theorem below_at {xs : Array Nat} {j i : Nat} (u : Up xs) (h : xs[i]? = some j) : below xs j = i := by
  obtain ⟨h1, h2, h3⟩ := below_is u j
  rcases Nat.lt_trichotomy (below xs j) i with q | q | q
  . have hb : below xs j < xs.size := Nat.lt_trans q (Array.getElem?_eq_some_iff.mp h).1
    exact absurd (u.at q (Array.getElem?_eq_getElem hb) h) (Nat.not_lt.mpr (h3 _ _ (Nat.le_refl _) (Array.getElem?_eq_getElem hb)))
  . exact q
  . exact absurd (h2 _ _ q h) (Nat.lt_irrefl j)
theorem slot_live {t : SetTable} {i j : Nat} (u : Up t.place) (h : t.place[i]? = some j) : t.slot j = .live i := by
  have e := below_at u h
  show (if (t.place[below t.place j]? == some j) = true then Slot.live (below t.place j) else _) = _
  rw [e, h]
  exact if_pos (beq_self_eq_true _)
theorem slot_empty {t : SetTable} {j : Nat} (hd : t.dummies = #[]) (h : j ∉ t.place.toList) : t.slot j = .empty := by
  show (if (t.place[below t.place j]? == some j) = true then _ else if has t.dummies j = true then _ else Slot.empty) = _
  rw [if_neg fun q => h (List.mem_of_getElem? ((Array.getElem?_toList ..).trans (eq_of_beq q))), hd]
  rfl
theorem insertAt_list {α : Type} (xs : Array α) (p : Nat) (x : α) : (insertAt xs p x).toList = xs.toList.take p ++ x :: xs.toList.drop p := by
  unfold insertAt
  rw [Array.toList_append, Array.toList_push, Array.toList_extract, Array.toList_extract, List.append_assoc]
  simp only [List.extract, Nat.sub_zero, List.drop_zero, List.singleton_append]
  rw [List.take_of_length_le (i := xs.size - p) (by rw [List.length_drop, Array.length_toList]; exact Nat.le_refl _)]
theorem ins_mem {α : Type} {xs : Array α} {p : Nat} {x y : α} (h : y ∈ (insertAt xs p x).toList) : y = x \/ y ∈ xs.toList := by
  rw [insertAt_list] at h
  exact (List.mem_append.mp h).elim (fun h => .inr (List.mem_of_mem_take h)) fun h => (List.mem_cons.mp h).imp_right List.mem_of_mem_drop
theorem ins_size {α : Type} {xs : Array α} {p : Nat} {x : α} (hp : p <= xs.size) : (insertAt xs p x).size = xs.size + 1 := by
  rw [<- Array.length_toList, insertAt_list, List.length_append, List.length_cons, List.length_take, List.length_drop, Array.length_toList]
  omega
structure Tab (t : SetTable) (n : Nat) : Prop where
  dum : t.dummies = #[]
  good : GoodM t.mask
  size : t.place.size = n
  room : n * 5 < t.mask * 3
  up : Up t.place
theorem Tab.fresh (f m : Nat) (led : Bool) : Tab (.fresh f m led) 0 := ⟨rfl, .inl rfl, rfl, (by decide : 0 * 5 < 7 * 3), .nil⟩
structure Tab1 (t t' : SetTable) (n : Nat) : Prop where
  dum : t'.dummies = #[]
  size : t'.place.size = n + 1
  up : Up t'.place
  mask : t'.mask = t.mask
theorem Tab.put {t : SetTable} (T : Tab t n) {j : Nat} (hj : j ∉ t.place.toList) (pl : Bool) : Tab1 t { (t.put j).1 with plain := pl } n /\ (t.put j).2 <= n := by
  obtain ⟨b1, b2, b3⟩ := below_is T.up j
  refine ⟨⟨?_, (ins_size b1).trans (congrArg (· + 1) T.size), ?_, rfl⟩, T.size ▸ b1⟩
  . show (if has t.dummies _ then _ else t.dummies) = _
    rw [T.dum]; rfl
  . show (insertAt t.place (below t.place j) j).toList.Pairwise (· < ·)
    rw [insertAt_list]
    have lo : ∀ x ∈ t.place.toList.take (below t.place j), x < j := fun x hx => by
      obtain ⟨i, hi, rfl⟩ := List.mem_take_iff_getElem.mp hx
      exact b2 i _ (Nat.lt_of_lt_of_le hi (Nat.min_le_left ..)) (by rw [<- Array.getElem?_toList]; exact List.getElem?_eq_getElem _)
    have hi : ∀ x ∈ t.place.toList.drop (below t.place j), j < x := fun x hx => by
      obtain ⟨i, hi, rfl⟩ := List.mem_drop_iff_getElem.mp hx
      exact Nat.lt_of_le_of_ne (b3 _ _ (Nat.le_add_right _ i) (by rw [<- Array.getElem?_toList]; exact List.getElem?_eq_getElem _)) fun q => hj (q ▸ List.getElem_mem _)
    exact List.pairwise_append.mpr ⟨T.up.sublist (List.take_sublist ..), List.pairwise_cons.mpr ⟨hi, T.up.sublist (List.drop_sublist ..)⟩, fun a ha b hb => (List.mem_cons.mp hb).elim (fun q => q ▸ lo a ha) fun q => Nat.lt_trans (lo a ha) (hi b q)⟩
theorem probe_succ (t : SetTable) (hashAt : Nat -> Int) (h : Int) (f : Nat) (p : Probe) : probe.go t hashAt h (f + 1) p = match t.slot p.j with
    | .empty => some (.empty p.j p.dummy)
    | .dummy => probe.go t hashAt h f (t.advance { p with dummy := some p.j })
    | .live i => if hashAt i == h then some (.candidate p.j i (t.advance p)) else probe.go t hashAt h f (t.advance p) := rfl
theorem probe_go {t : SetTable} (T : Tab t k) {hashAt : Nat -> Int} {h : Int} (hne : ∀ i, i < k -> hashAt i ≠ h) {n₀ : Nat} (F : First t.mask t.place.toList h n₀) : ∀ f n, n <= n₀ -> n₀ < n + f ->
    probe.go t hashAt h f (seqP t.mask h n) = some (.empty (at_ t.mask h n₀) none)
  | 0, n, h1, h2 => absurd h2 (Nat.not_lt.mpr h1)
  | f + 1, n, h1, h2 => by
    rw [probe_succ]
    rcases Nat.lt_or_eq_of_le h1 with hn | hn
    . obtain ⟨i, hi, ei⟩ := List.mem_iff_getElem.mp (F.2 n hn)
      rw [show t.slot (seqP t.mask h n).j = .live i from slot_live T.up (by rw [<- Array.getElem?_toList, List.getElem?_eq_getElem hi, ei]; rfl)]
      show (if (hashAt i == h) = true then _ else probe.go t hashAt h f (seqP t.mask h (n + 1))) = _
      rw [if_neg fun q => hne i (T.size ▸ (Array.length_toList ▸ hi)) (eq_of_beq q)]
      exact probe_go T hne F f (n + 1) hn (by omega)
    . subst hn
      rw [show t.slot (seqP t.mask h n).j = .empty from slot_empty T.dum F.1]
      show some (Met.empty _ (seqP t.mask h n).dummy) = _
      rw [seq_dummy]
      rfl
theorem Tab.free {t : SetTable} (T : Tab t k) {hashAt : Nat -> Int} {h : Int} (hne : ∀ i, i < k -> hashAt i ≠ h) : ∃ j, j ∉ t.place.toList /\ t.probe hashAt h (t.probeStart h) = some (.empty j none) := by
  have := T.room
  obtain ⟨n₀, hn₀, F⟩ := first_is T.good (L := t.place.toList) (by rw [Array.length_toList, T.size]; omega) h
  exact ⟨_, F.1, probe_go T hne F (10 * turns t.mask) 0 (Nat.zero_le _) (by unfold turns; omega)⟩
end
section
open PySem PySem.SetTable
structure LayT (M : Nat) (ow : Array (Option Nat)) (k : Nat) : Prop where
  size : ow.size = M + 1
  low : ∀ q, some q ∈ ow.toList -> q < k
  cnt : ow.toList.countP Option.isSome = k
theorem LayT.nil (M : Nat) : LayT M (Array.replicate (M + 1) none) 0 := by
  have hn : ∀ x ∈ (Array.replicate (M + 1) (none : Option Nat)).toList, x = none := fun x hx => by
    rw [Array.toList_replicate] at hx
    exact (List.mem_replicate.mp hx).2
  exact ⟨Array.size_replicate, fun q e => (nomatch hn _ e), List.countP_eq_zero.mpr fun x hx => by rw [hn x hx]; exact Bool.false_ne_true⟩
theorem free_succ (M : Nat) (ow : Array (Option Nat)) (f i q : Nat) : layClean.free M ow (f + 1) i q = match (List.range (runEnd M i + 1 - i)).find? fun k => (ow.getD (i + k) (some 0)).isNone with
    | some k => some (i + k)
    | none => layClean.free M ow f (leap M i q).1 (leap M i q).2 := rfl
theorem isNone_at {ow : Array (Option Nat)} {j : Nat} (h : (ow.getD j (some 0)).isNone = true) : ow[j]? = some none := by
  rw [Array.getD_eq_getD_getElem?] at h
  generalize ow[j]? = o at h |-
  rcases o with _ | o
  . exact nomatch h
  . exact congrArg some (Option.isNone_iff_eq_none.mp h)
theorem free_go {M : Nat} {ow : Array (Option Nat)} {h : Int} {K : Nat} (hK : ow[runs M h K]? = some none) : ∀ f k, k <= K -> K < k + f ->
    ∃ j, layClean.free M ow f (runs M h k) (bits h / 32 ^ k) = some j /\ ow[j]? = some none
  | 0, k, h1, h2 => absurd h2 (Nat.not_lt.mpr h1)
  | f + 1, k, h1, h2 => by
    rw [free_succ]
    generalize hf : (List.range (runEnd M (runs M h k) + 1 - runs M h k)).find? _ = r
    rcases r with _ | d
    . have hk : k ≠ K := fun q => by
        subst q
        refine List.find?_eq_none.mp hf 0 (List.mem_range.mpr (Nat.sub_pos_of_lt (Nat.lt_succ_of_le (runEnd_le M _).1))) ?_
        show (ow.getD (runs M h k) (some 0)).isNone = true
        rw [Array.getD_eq_getD_getElem?, hK]; rfl
      have := free_go hK f (k + 1) (Nat.lt_of_le_of_ne h1 hk) (by omega)
      rw [Nat.pow_succ, <- Nat.div_div_eq_div_mul] at this
      exact this
    . exact ⟨_, rfl, isNone_at (List.find?_some (p := fun d => (ow.getD (runs M h k + d) (some 0)).isNone) hf)⟩
theorem none_there {M : Nat} {ow : Array (Option Nat)} {k : Nat} (L : LayT M ow k) (hk : k <= M) : ∃ j, j < M + 1 /\ ow[j]? = some none := Classical.byContradiction fun hn => by
  have : ow.toList.countP Option.isSome = ow.toList.length := List.countP_eq_length.mpr fun x hx => by
    obtain ⟨j, hj, rfl⟩ := List.mem_iff_getElem.mp hx
    rw [Array.length_toList] at hj
    generalize hx : ow.toList[j] = x
    rcases x with _ | x
    . exact absurd ⟨j, L.size ▸ hj, (Array.getElem?_eq_getElem hj).trans (congrArg some hx)⟩ hn
    . rfl
  rw [L.cnt, Array.length_toList, L.size] at this
  omega
theorem LayT.step {M : Nat} (g : GoodM M) {ow : Array (Option Nat)} {k : Nat} (L : LayT M ow k) (hk : k <= M) (h : Int) :
    ∃ j, layClean.free M ow (turns M) (bits h % (M + 1)) (bits h) = some j /\ LayT M (ow.setIfInBounds j (some k)) (k + 1) := by
  obtain ⟨e, he, hn⟩ := none_there L hk
  obtain ⟨K, hK, e1⟩ := hits g h he
  obtain ⟨j, h1, h2⟩ := free_go (h := h) (K := K) (by rw [e1]; exact hn) (turns M) 0 (Nat.zero_le _) (by unfold turns; omega)
  rw [Nat.pow_zero, Nat.div_one] at h1
  obtain ⟨hj, h3⟩ := Array.getElem?_eq_some_iff.mp h2
  refine ⟨j, h1, (Array.size_setIfInBounds ..).trans L.size, fun q hq => ?_, ?_⟩
  . rw [Array.toList_setIfInBounds] at hq
    exact (List.mem_or_eq_of_mem_set hq).elim (fun hq => Nat.lt_succ_of_lt (L.low q hq)) fun hq => Option.some.inj hq ▸ Nat.lt_succ_self _
  . rw [Array.toList_setIfInBounds, List.countP_set (by rw [Array.length_toList]; exact hj), L.cnt, show ow.toList[j] = none from h3]
    rfl
noncomputable def layStep (M : Nat) (acc : Option (Array (Option Nat) × Nat)) (h : Int) : Option (Array (Option Nat) × Nat) := do
  let (owner, k) <- acc
  let j <- layClean.free M owner (turns M) (bits h % (M + 1)) (bits h)
  pure (owner.setIfInBounds j (some k), k + 1)
theorem lay_fold {M : Nat} (g : GoodM M) : ∀ (r : List Int) (ow : Array (Option Nat)) (k : Nat), k + r.length <= M + 1 -> LayT M ow k ->
    ∃ ow', r.foldl (layStep M) (some (ow, k)) = some (ow', k + r.length) /\ LayT M ow' (k + r.length)
  | [], ow, k, hk, L => ⟨ow, rfl, L⟩
  | h :: r, ow, k, hk, L => by
    rw [List.length_cons] at hk |-
    obtain ⟨j, e, L'⟩ := L.step g (by omega) h
    have es : layStep M (some (ow, k)) h = some (ow.setIfInBounds j (some k), k + 1) := by
      show (layClean.free M ow (turns M) (bits h % (M + 1)) (bits h)).bind _ = _
      rw [e]; rfl
    rw [List.foldl_cons, es, <- Nat.succ_add_eq_add_succ k r.length]
    exact lay_fold g r _ (k + 1) (by omega) L'
noncomputable def liveOf (M : Nat) (ow : Array (Option Nat)) : List (Nat × Nat) := (List.range (M + 1)).filterMap fun j => (ow.getD j none).map (j, ·)
theorem live_up {M : Nat} {ow : Array (Option Nat)} : (liveOf M ow).Pairwise fun a b => a.1 < b.1 := by
  refine List.Pairwise.filterMap _ ?_ List.pairwise_lt_range
  intro a b hab x hx y hy
  obtain ⟨_, _, rfl⟩ := Option.map_eq_some_iff.mp hx
  obtain ⟨_, _, rfl⟩ := Option.map_eq_some_iff.mp hy
  exact hab
theorem LayT.row (L : LayT M ow n) : (List.range (M + 1)).map (fun j => ow.getD j none) = ow.toList := by
  refine List.ext_getElem (by rw [List.length_map, List.length_range, Array.length_toList, L.size]) fun i h1 h2 => ?_
  rw [List.getElem_map, List.getElem_range, Array.getD_eq_getD_getElem?, Array.getElem?_eq_getElem (by rw [Array.length_toList] at h2; exact h2)]
  rfl
theorem LayT.length (L : LayT M ow n) : (liveOf M ow).length = n := by
  unfold liveOf
  rw [List.length_filterMap_eq_countP, <- L.cnt, <- L.row, List.countP_map]
  congr 1
  funext j
  show ((ow.getD j none).map (j, ·)).isSome = (ow.getD j none).isSome
  rw [Option.isSome_map]
theorem LayT.at (L : LayT M ow n) {p : Nat × Nat} (hp : p ∈ liveOf M ow) : p.2 < n := by
  obtain ⟨j, hj, e⟩ := List.mem_filterMap.mp hp
  obtain ⟨q, e1, rfl⟩ := Option.map_eq_some_iff.mp e
  exact L.low q (by rw [<- L.row, List.mem_map]; exact ⟨j, hj, e1⟩)
theorem laid_is {M : Nat} (g : GoodM M) {es : Array (Int × α)} (hM : es.size * 5 < M * 3) (f m : Nat) (led pl : Bool) :
    ∃ t' order, laid M f m led pl (es.map (·.1)) = some (t', order) /\ (order.filterMap (es[·]?)).size = es.size /\ Tab t' es.size /\ ∀ e ∈ (order.filterMap (es[·]?)).toList, e ∈ es.toList := by
  have hl : (es.map (·.1)).toList.length = es.size := by rw [Array.length_toList, Array.size_map]
  obtain ⟨ow, e, L⟩ := lay_fold g (es.map (·.1)).toList _ 0 (by omega) (LayT.nil M)
  rw [hl, Nat.zero_add] at L e
  refine ⟨⟨M, ((liveOf M ow).map (·.1)).toArray, #[], f, led, m, pl⟩, ((liveOf M ow).map (·.2)).toArray, ?_, ?_, ⟨rfl, g, ?_, hM, ?_⟩, fun x hx => ?_⟩
  . show (((es.map (·.1)).foldl (layStep M) (some (Array.replicate (M + 1) none, 0))).map (·.1)).bind _ = _
    rw [<- Array.foldl_toList, e]; rfl
  . rw [<- Array.length_toList, Array.toList_filterMap, List.length_filterMap_eq_countP, List.countP_eq_length.mpr, List.length_map, L.length]
    intro i hi
    obtain ⟨p, hp, rfl⟩ := List.mem_map.mp hi
    rw [Array.getElem?_eq_getElem (L.at hp)]; rfl
  . exact (List.length_map ..).trans L.length
  . exact List.pairwise_map.mpr live_up
  . rw [Array.toList_filterMap] at hx
    obtain ⟨i, _, ei⟩ := List.mem_filterMap.mp hx
    exact List.mem_of_getElem? ((Array.getElem?_toList ..).trans ei)
end
section
open PySem PySem.Spec PyProof.Rows PySem.SetTable
section
variable {prog : Program} {w : World} {A : Around} {E : Value -> Shared -> Prop} {s : Shared}
theorem int_items {ks : List Int} {vs : List Value} (h : ItemsAre (intKind prog w) ks vs) : ∀ v ∈ vs, ∃ i t, v = .int i t := by
  induction h with
  | nil => exact fun v hv => nomatch hv
  | @cons k v ks vs h1 _ ih =>
    intro v' hv'
    rcases List.mem_cons.mp hv' with rfl | hv'
    . obtain ⟨t, e⟩ := Value.isInt_shape h1
      exact ⟨k, t, e⟩
    . exact ih v' hv'
theorem hashBy_tuple {ks : List Int} {a : Addr} {Q : Bool -> Shared -> Prop} (hk : IsTupleKey (intKind prog w) s.heap ks a) (h : Q true s) : wpAny (model prog w) A (hashByValue 8 (.ref a)) Q E s := by
  have hT := hk.typeIs
  obtain ⟨o, items, n, ho, _, hd, hi⟩ := hk
  show wpAny _ _ (specialOf (.ref a) "__hash__" >>= _) _ _ s
  refine wpAny_bind (wpAny_specialOf hT F.slot_tuple_hash.lookup ?_)
  show wpAny _ _ (seqItems? (.ref a) >>= _) _ _ s
  refine wpAny_bind (wpAny_seqItems ho hd ?_)
  show wpAny _ _ (forIn items _ _ >>= _) _ _ s
  refine wpAny_bind ?_
  rw [<- Array.forIn_toList]
  refine wpAny_forIn_list _ (fun rest r s' => r.1 = none /\ s' = s /\ ∀ v ∈ rest, ∃ i t, v = .int i t) _ ?_ ?_ _ _ ⟨rfl, rfl, int_items hi⟩
  . rintro v rest r s' ⟨hr, rfl, hall⟩
    obtain ⟨i, t, rfl⟩ := hall v List.mem_cons_self
    show wpAny _ _ (pure true >>= _) _ _ _
    refine wpAny_bind (wpAny_pure ?_)
    rw [if_neg (by decide)]
    exact wpAny_pure ⟨rfl, rfl, fun u hu' => hall u (List.mem_cons_of_mem _ hu')⟩
  . rintro ⟨r1, r2⟩ s' ⟨hr, rfl, _⟩
    cases hr
    exact wpAny_pure h
noncomputable def setObj (es : Array (Int × Value)) (ep : Nat) (t : SetTable) : Obj := { cls := .type "set", dict := none, data := .set es ep t }
theorem fits_of {t : SetTable} {n : Nat} (hd : t.dummies = #[]) (hs : t.place.size = n) (hn : n <= t.mask) : t.fits n = true := by
  unfold SetTable.fits SetTable.fill
  rw [hd, hs, beq_self_eq_true, Bool.true_and, decide_eq_true_eq]
  exact hn
theorem Tab.fits' {t : SetTable} {n : Nat} (T : Tab t n) : t.fits n = true := fits_of T.dum T.size (by have := T.room; omega)
theorem put_store {h : Heap} {S : Addr} {es : Array (Int × Value)} {ep : Nat} {t : SetTable} (ho : h.get? S = some (setObj es ep t)) (es' : Array (Int × Value)) (t' : SetTable) :
    (h.update S (Obj.putSet es' t')).get? S = some (setObj es' (ep + 1) t') /\ Heap.SameBut S h (h.update S (Obj.putSet es' t')) :=
  ⟨Heap.get?_update_self (Obj.putSet es' t') ho rfl, Heap.SameBut.update h S _⟩
theorem relay_wp {S : Addr} {es : Array (Int × Value)} {ep W M : Nat} {t : SetTable} (ho : s.heap.get? S = some (setObj es ep t)) (hf : t.fits es.size = true) (hW : SetTable.sizeAbove W = M + 1) (g : GoodM M) (hM : es.size * 5 < M * 3) {Q : Unit -> Shared -> Prop}
    (h : ∀ es' t', Tab t' es'.size -> es'.size = es.size -> (∀ e ∈ es'.toList, e ∈ es.toList) -> Q () { s with heap := s.heap.update S (Obj.putSet es' t') }) :
    wpAny (model prog w) A (setRelay S W) Q E s := by
  obtain ⟨t', order, e, hsz, T', hm⟩ := laid_is g hM t.finger (t.movedTo M) t.led t.plain
  have hM' : M <= 127 := by rcases g with rfl | rfl | rfl <;> decide
  have e' : t.relaid (es.map (·.1)) W = some (t', order) := by
    unfold SetTable.relaid
    rw [hW]; exact e
  unfold setRelay
  refine wpAny_bind (wpAny_setState_of ho rfl hf ?_)
  dsimp only
  rw [hW, if_neg (by rw [sizeLine_eq]; omega), e']
  refine wpAny_bind ?_
  show wpAny _ _ (if ((order.filterMap (es[·]?)).size != es.size) = true then _ else _) _ _ _
  rw [hsz, if_neg (by rw [bne_self_eq_false]; exact Bool.false_ne_true)]
  refine wpAny_pure ?_
  exact wpAny_storeSet_of ho rfl (h _ _ (by rw [hsz]; exact T') hsz hm) (by rw [hsz, sizeLine_eq]; omega)
theorem store_tail {S : Addr} {es es1 : Array (Int × Value)} {ep : Nat} {t t1 : SetTable} (ho : s.heap.get? S = some (setObj es ep t)) (T : Tab t es.size) (T1 : Tab1 t t1 es.size) (h1 : es1.size = es.size + 1) (hn : es.size <= 70) {Q : Bool -> Shared -> Prop}
    (h : ∀ h' es' ep' t', Heap.SameBut S s.heap h' -> h'.get? S = some (setObj es' ep' t') -> Tab t' es'.size -> es'.size = es.size + 1 -> (∀ e ∈ es'.toList, e ∈ es1.toList) -> Q true { s with heap := h' }) :
    wpAny (model prog w) A (do
      storeSet S es1 t1
      if (!false && t1.tooFull) = true then setRelay S (SetTable.grown (es.size + 1))
      return true) Q E s := by
  refine wpAny_bind (wpAny_storeSet_of ho rfl ?_ (by rw [h1, sizeLine_eq]; omega))
  obtain ⟨ho1, sb1⟩ := put_store ho es1 t1
  have hr := T.room
  have hfull : t1.tooFull = decide ((es.size + 1) * 5 >= t.mask * 3) := by
    unfold SetTable.tooFull SetTable.fill
    rw [T1.dum, T1.size, T1.mask]; rfl
  rw [hfull]
  by_cases hc : (es.size + 1) * 5 >= t.mask * 3
  . rw [decide_eq_true hc]
    show wpAny _ _ (setRelay S (SetTable.grown (es.size + 1)) >>= fun _ => pure true) _ _ _
    have hM : ∃ M, SetTable.sizeAbove (SetTable.grown (es.size + 1)) = M + 1 /\ GoodM M /\ es1.size * 5 < M * 3 := by
      rcases T.good with g | g | g
      . have e : es.size = 4 := by omega
        rw [h1, e]; exact ⟨31, by decide, .inr (.inl rfl), by decide⟩
      . have e : es.size = 18 := by omega
        rw [h1, e]; exact ⟨127, by decide, .inr (.inr rfl), by decide⟩
      . omega
    obtain ⟨M, hW, g, hM⟩ := hM
    refine wpAny_bind (relay_wp (s := { s with heap := s.heap.update S (Obj.putSet es1 t1) }) ho1 (fits_of T1.dum (T1.size.trans h1.symm) (by rw [h1, T1.mask]; omega)) hW g hM fun es' t' T' hs' hm' => wpAny_pure ?_)
    obtain ⟨ho2, sb2⟩ := put_store ho1 es' t'
    exact h _ es' _ t' (sb1.trans sb2) ho2 T' (hs'.trans h1) hm'
  . rw [decide_eq_false hc]
    refine wpAny_pure (h _ es1 _ t1 sb1 ho1 ⟨T1.dum, T1.mask ▸ T.good, T1.size.trans h1.symm, ?_, T1.up⟩ h1 fun e he => he)
    rw [h1, T1.mask]; omega
theorem seat_inj {k k' : Key} (h : seatKey k = true) (h' : seatKey k' = true) (e : keyHash w k = keyHash w k') : k = k' := by
  obtain ⟨a, b, rfl, ha, hb⟩ := seatKey_is h
  obtain ⟨a', b', rfl, ha', hb'⟩ := seatKey_is h'
  obtain ⟨rfl, rfl⟩ := pair_inj ha hb ha' hb' e
  rfl
noncomputable def PairSet (w : World) (o : Obj) (seen : List Key) : Prop :=
  ∃ es ep t, o = setObj es ep t /\ Tab t es.size /\ es.size = seen.length /\ (∀ e ∈ es.toList, ∃ k ∈ seen, e.1 = keyHash w k) /\ ∀ k ∈ seen, seatKey k = true
noncomputable def PairIs (prog : Program) (w : World) (h : Heap) (k : Key) (v : Value) : Prop := seatKey k = true /\ ∃ a b c, k = .pair a b /\ v = .ref c /\ IsTupleKey (intKind prog w) h [a, b] c
theorem add_pair {S : Addr} {o : Obj} {seen : List Key} {k : Key} {v : Value} {Q : Bool -> Shared -> Prop} (hu : A.units < cLine) (ho : s.heap.get? S = some o) (I : PairSet w o seen) (hk : PairIs prog w s.heap k v) (hnew : k ∉ seen) (hlen : seen.length <= 70)
    (h : ∀ h' o' tk b, Heap.SameBut S s.heap h' -> h'.get? S = some o' -> PairSet w o' (seen ++ [k]) -> Q b { s with heap := h', toks := tk }) : wpAny (model prog w) A (setAdd S v) Q E s := by
  obtain ⟨es, ep, t, rfl, T, hn, el, hse⟩ := I
  obtain ⟨hsk, a, b, c, rfl, rfl, ht⟩ := hk
  unfold setAdd
  refine wpAny_holding (wpAny_bind (wpAny_pyHash_tuple hu ht ?_))
  show wpAny _ _ (setAddHashed S (.ref c) (keyHash w (.pair a b))) _ _ _
  have hg : ¬ (t.gaveWay = true) := by unfold SetTable.gaveWay; rcases T.good with g | g | g <;> rw [g] <;> decide
  have hne : ∀ i, i < es.size -> (es[i]?.map (·.1)).getD 0 ≠ keyHash w (.pair a b) := fun i hi q => by
    obtain ⟨k', hk', e⟩ := el es[i] (Array.mem_toList_iff.mpr (Array.getElem_mem hi))
    rw [Array.getElem?_eq_getElem hi] at q
    exact hnew (seat_inj (w := w) (hse k' hk') hsk (e.symm.trans q) ▸ hk')
  obtain ⟨j, hj, hpr⟩ := T.free (hashAt := fun i => (es[i]?.map (·.1)).getD 0) hne
  unfold setAddHashed setAddHashedIn
  refine wpAny_holding (wpAny_bind (wpAny_setState_of (s := { s with toks := _ }) ho rfl T.fits' ?_))
  dsimp only
  rw [show byScan (.ref c) es = false from rfl, if_neg Bool.false_ne_true]
  refine wpAny_bind ?_
  unfold setSearch
  show wpAny _ _ (setState S >>= _) _ _ _
  refine wpAny_bind (wpAny_setState_of (s := { s with toks := _ }) ho rfl T.fits' ?_)
  dsimp only
  rw [if_neg hg]
  generalize hp : t.probe _ _ _ = r
  have er : r = _ := hp.symm.trans hpr
  subst er
  refine wpAny_pure ?_
  dsimp only
  refine wpAny_bind (wpAny_setState_of (s := { s with toks := _ }) ho rfl T.fits' ?_)
  dsimp only
  obtain ⟨T1, hp⟩ := T.put hj (t.put j).1.plain
  have tail := store_tail (A := A) (E := E) (prog := prog) (w := w) (s := { s with toks := s.toks + 3 }) ho T T1 (ins_size (x := (keyHash w (.pair a b), Value.ref c)) hp) (hn ▸ hlen) (Q := Q) fun h' es' ep' t' sb ho' T' hs' hm => h h' _ _ true sb ho' ⟨es', ep', t', rfl, T', by rw [hs', hn, List.length_append]; rfl, fun e he => ?_, fun k hk => ?_⟩
  . split
    . exact wpAny_bind (hashBy_tuple (s := { s with toks := _ }) ht tail)
    . exact wpAny_bind (wpAny_pure tail)
  . rcases ins_mem (hm e he) with rfl | he
    . exact ⟨_, List.mem_append_right _ (.head _), rfl⟩
    . obtain ⟨k, hk, e⟩ := el e he
      exact ⟨k, List.mem_append_left _ hk, e⟩
  . rcases List.mem_append.mp hk with hk | hk
    . exact hse k hk
    . rcases List.mem_singleton.mp hk with rfl; exact hsk
noncomputable def StrSet (prog : Program) (w : World) (o : Obj) (seen : List Key) : Prop := ∃ ss : List Str, seen = ss.map (fun x => .str x.cps.toList) /\ o.SetObjOf (PySem.strKind prog w) (fun k => decide (k ∈ ss)) ss.length
noncomputable def StrIs (h : Heap) (k : Key) (v : Value) : Prop := ∃ x t, k = .str x /\ v = .str ⟨x.toArray⟩ t
theorem add_str {S : Addr} {o : Obj} {seen : List Key} {k : Key} {v : Value} {Q : Bool -> Shared -> Prop} (ho : s.heap.get? S = some o) (I : StrSet prog w o seen) (hk : StrIs s.heap k v) (hnew : k ∉ seen) (hlen : seen.length <= 70)
    (h : ∀ h' o' tk b, Heap.SameBut S s.heap h' -> h'.get? S = some o' -> StrSet prog w o' (seen ++ [k]) -> Q b { s with heap := h', toks := tk }) : wpAny (model prog w) A (setAdd S v) Q E s := by
  obtain ⟨ss, rfl, I⟩ := I
  obtain ⟨x, t, rfl, rfl⟩ := hk
  rw [List.length_map] at hlen
  have hx : (⟨x.toArray⟩ : Str) ∉ ss := fun q => hnew (List.mem_map.mpr ⟨_, q, rfl⟩)
  unfold setAdd
  have his : (PySem.strKind prog w).is ⟨x.toArray⟩ (.str ⟨x.toArray⟩ t) = true := by simp [PySem.strKind, Value.isStrOf]
  refine wpAny_holding (wpAny_bind ((PySem.strKind prog w).pyHash his ?_))
  refine wpAny_setAddHashed_of (knd := PySem.strKind prog w) (s := { s with toks := s.toks + 1 }) his rfl (I.setOf ho (by unfold scanBound; omega)) (by unfold scanBound; omega) fun h' sb hS => ?_
  obtain ⟨o', ho', hS⟩ := hS.objOf
  refine h h' o' _ _ sb ho' ⟨ss ++ [⟨x.toArray⟩], by rw [List.map_append]; rfl, ?_⟩
  rw [decide_eq_false hx] at hS
  rw [List.length_append]
  have e : (fun k => decide (k ∈ ss ++ [(⟨x.toArray⟩ : Str)])) = fun k => decide (k ∈ ss) || decide (k = ⟨x.toArray⟩) := by
    funext k
    simp [List.mem_append, Bool.decide_or]
  rw [e]
  exact hS
end
end
section
open PySem PySem.Spec PyProof.Rows PySem.SetTable
noncomputable def newSet0 (led : Bool) : Obj := setObj #[] 0 (.fresh 0 0 led)
structure SetK (prog : Program) (w : World) where
  is : Heap -> Key -> Value -> Prop
  Has : Obj -> List Key -> Prop
  new : ∀ led, Has (newSet0 led) []
  add : ∀ {A : Around} {E : Value -> Shared -> Prop} {s : Shared} {S : Addr} {o : Obj} {seen : List Key} {k : Key} {v : Value} {Q : Bool -> Shared -> Prop}, A.units < cLine -> s.heap.get? S = some o -> Has o seen -> is s.heap k v -> k ∉ seen -> seen.length <= 70 ->
    (∀ h' o' tk b, Heap.SameBut S s.heap h' -> h'.get? S = some o' -> Has o' (seen ++ [k]) -> Q b { s with heap := h', toks := tk }) -> wpAny (model prog w) A (setAdd S v) Q E s
  len : ∀ {o seen}, Has o seen -> seen.length <= 70 -> SetLen o seen.length
noncomputable def pairSets (prog : Program) (w : World) : SetK prog w where
  is := PairIs prog w
  Has := PairSet w
  new led := ⟨#[], 0, _, rfl, .fresh 0 0 led, rfl, fun _ h => (nomatch h), fun _ h => (nomatch h)⟩
  add := add_pair
  len h h70 := by
    obtain ⟨es, ep, t, rfl, T, hn, _⟩ := h
    exact ⟨es, ep, t, ⟨rfl, rfl, rfl⟩, rfl, T.fits', hn, h70⟩
noncomputable def strSets (prog : Program) (w : World) : SetK prog w where
  is := StrIs
  Has := StrSet prog w
  new led := ⟨[], rfl, setObjOf_fresh led⟩
  add _ := add_str
  len h h70 := by
    obtain ⟨ss, rfl, h1, es, ep, t, h2, _, _, h3, h4⟩ := h
    exact ⟨es, ep, t, h1, h2, h4, h3.trans (List.length_map ..).symm, h70⟩
section
variable {prog : Program} {w : World} {A : Around} {E : Value -> Shared -> Prop} {s : Shared} {R : Result -> Shared -> Prop} {Kd : SetK prog w} {h₀ : Heap} {l : Addr} {items : Array Value} {ks : List Key}
abbrev Ext (h h' : Heap) : Prop := ∀ b o, h.get? b = some o -> h'.get? b = some o
structure Laid (Kd : SetK prog w) (h₀ : Heap) (l : Addr) (items : Array Value) (ks : List Key) : Prop where
  lst : h₀.IsList l items
  len : ks.length = items.size
  nd : ks.Nodup
  few : ks.length <= 70
  is : ∀ h', Ext h₀ h' -> ∀ (j : Nat) (v : Value) (k : Key), items[j]? = some v -> ks[j]? = some k -> Kd.is h' k v
theorem list_in {h h' : Heap} (hx : Ext h h') (hl : h.IsList l items) : h'.IsList l items := by
  obtain ⟨o, h1, h2⟩ := hl
  exact ⟨o, hx _ _ h1, h2⟩
theorem set_loop (L : Laid Kd h₀ l items ks) {S I : Addr} (hh : A.in1.handled = none) (hu : A.in1.units < cLine) (hS : h₀.objs.size <= S) (hI : h₀.objs.size <= I) (hSI : S ≠ I) :
    ∀ (d i : Nat) (s : Shared) (o : Obj), i + d = items.size -> Ext h₀ s.heap -> s.heap.IsListIter I l i -> s.heap.get? S = some o -> Kd.Has o (ks.take i) ->
      (∀ h' tk o', Ext h₀ h' -> h'.get? S = some o' -> Kd.Has o' ks -> R (.ok (.ret .none)) { s with heap := h', toks := tk }) ->
      codeAny (model prog w) A (.builtin "set.update.loop" ⟨[.ref S, .ref I], []⟩) R s := by
  have nS : ∀ b o, h₀.get? b = some o -> b ≠ S := fun b o e => Nat.ne_of_lt (Nat.lt_of_lt_of_le (Heap.lt_size e) hS)
  have nI : ∀ b o, h₀.get? b = some o -> b ≠ I := fun b o e => Nat.ne_of_lt (Nat.lt_of_lt_of_le (Heap.lt_size e) hI)
  intro d
  induction d with
  | zero =>
    intro i s o hd hx hit ho hH hR
    refine codeAny_builtin F.entry_set_update_loop ?_
    rw [Around.under_plainId F.plain_set_update_loop _]
    show wpAny _ A.in1 (pyNext (.ref I) >>= _) _ _ s
    refine wpAny_bind (wpAny_pyNext_list_end hh hit (list_in hx L.lst) (Array.getElem?_eq_none (by omega)) fun h' hx' => ?_)
    show wpAny _ A.in1 (ret Value.none) _ _ _
    rw [List.take_of_length_le (by rw [L.len]; omega)] at hH
    exact wpAny_pure (hR h' s.toks o (fun b o e => hx' b o (nI b o e) (hx b o e)) (hx' S o hSI ho) hH)
  | succ d ih =>
    intro i s o hd hx hit ho hH hR
    have hlt : i < items.size := by omega
    have hlk : i < ks.length := by rw [L.len]; exact hlt
    have hki : ks[i]? = some ks[i] := List.getElem?_eq_getElem hlk
    refine codeAny_builtin F.entry_set_update_loop ?_
    rw [Around.under_plainId F.plain_set_update_loop _]
    show wpAny _ A.in1 (pyNext (.ref I) >>= _) _ _ s
    refine wpAny_bind (wpAny_pyNext_list_item hit (list_in hx L.lst) (Array.getElem?_eq_getElem hlt) fun h₁ hit₁ sb₁ => ?_)
    have hx₁ : Ext h₀ h₁ := fun b o e => (sb₁.2 b (nI b o e)).trans (hx b o e)
    show wpAny _ A.in1 (holding [_] (setAdd S _) >>= _) _ _ _
    have tk : ks.take (i + 1) = ks.take i ++ [ks[i]] := (List.take_append_getElem hlk).symm
    have nd : (ks.take i ++ [ks[i]]).Nodup := tk ▸ L.nd.sublist (List.take_sublist ..)
    refine wpAny_bind (wpAny_holding (Kd.add (s := { s with heap := h₁ }) hu ((sb₁.2 S hSI).trans ho) hH (L.is h₁ hx₁ i _ _ (Array.getElem?_eq_getElem hlt) hki)
      (fun q => (List.nodup_append.mp nd).2.2 _ q _ (.head _) rfl) (Nat.le_trans (List.length_take_le ..) (Nat.le_trans (Nat.le_of_lt hlk) L.few)) fun h₂ o₂ tk₂ _ sb₂ ho₂ hH₂ => ?_))
    rw [<- tk] at hH₂
    refine wpAny_pure ⟨plainId_quiet F.plain_set_update_loop _, ih (i + 1) _ o₂ (by omega) (fun b o e => (sb₂.2 b (nS b o e)).trans (hx₁ b o e)) ?_ ho₂ hH₂ fun h' tk o' => hR h' tk o'⟩
    obtain ⟨o, h1, h2⟩ := hit₁
    exact ⟨o, (sb₂.2 I (Ne.symm hSI)).trans h1, h2⟩
noncomputable def Made (Kd : SetK prog w) (s : Shared) (ks : List Key) (s' : Shared) : Prop :=
  ∃ h' tk o, s' = { s with heap := h', toks := tk } /\ Ext s.heap h' /\ h'.get? s.heap.objs.size = some o /\ Kd.Has o ks
theorem set_init {led : Bool} (L : Laid Kd s.heap l items ks) (hh : A.handled = none) (hu : A.units + 5 < cLine) :
    codeAny (model prog w) A (.call (.builtin "set.__init__") ⟨[.ref s.heap.objs.size, .ref l], []⟩) (wants (fun r s₂ => r = .none /\ Made Kd s ks s₂) E) { s with heap := s.heap.push (newSet0 led) } := by
  have hS : (s.heap.push (newSet0 led)).get? s.heap.objs.size = some (newSet0 led) := Heap.get?_push_size _ rfl
  have hT : Shared.TypeIs { s with heap := s.heap.push (newSet0 led) } (.ref s.heap.objs.size) "set" := ⟨_, hS, rfl⟩
  refine codeAny_call_builtin F.called_set.init.plain F.entry_set_init (check_set_init_1 hT ?_)
  obtain ⟨ol, hol, hcl, nl, hdl⟩ := id L.lst
  have hol' : (s.heap.push (newSet0 led)).get? l = some ol := Heap.get?_push_of_some _ hol
  have hTl : Shared.TypeIs { s with heap := s.heap.push (newSet0 led) } (.ref l) "list" := ⟨_, hol', hcl⟩
  have hsls := F.sub_list_set
  have hslf := F.sub_list_frozenset
  have hne : (Value.type "list" == Value.type "dict") = false := by decide
  unfold Builtin.«set.__init__» noKeywords Builtin.Frozenset.updateFrom
  generalize hPI : pyIter = PI
  wp_walk
  subst hPI
  refine wpAny_pyIter_list (L.lst.push _) ?_
  refine wpAny_bind (wpAny_runValue ?_)
  have hsz : (s.heap.push (newSet0 led)).objs.size = s.heap.objs.size + 1 := Heap.size_push ..
  refine set_loop L (by simp [hh]) (by simp; omega) (Nat.le_refl _) (by rw [hsz]; exact Nat.le_succ _) (by rw [hsz]; exact Nat.ne_of_lt (Nat.lt_succ_self _)) items.size 0 _ _ (Nat.zero_add _)
    (fun b o e => Heap.get?_push_of_some _ (Heap.get?_push_of_some _ e)) ⟨_, Heap.get?_push_size _ rfl, rfl, rfl⟩ (Heap.get?_push_of_some _ hS) (Kd.new led) fun h' tk o' hx ho hH => ?_
  exact wpAny_pure (wpAny_pure ⟨rfl, h', tk, o', rfl, hx, ho, hH⟩)
set_option maxRecDepth 100000 in
set_option maxHeartbeats 3200000 in
theorem call_set {Q : Value -> Shared -> Prop} (L : Laid Kd s.heap l items ks) (hh : A.handled = none) (hu : A.units + 7 < cLine) (h : ∀ s', Made Kd s ks s' -> Q (.ref s.heap.objs.size) s') :
    wpAny (model prog w) A (call (.type "set") [.ref l]) Q E s := by
  obtain ⟨c, tl, hmro⟩ := F.called_set.mro
  have hmade := F.called_set.made
  have hsub := F.called_set.sub
  refine wpAny_call (codeAny_of_tree ?_)
  show wpAny _ _ (callAny (.type "set") _) _ _ _
  refine wpAny_pure ⟨Code.quiet_builtin _ (by decide +kernel), codeAny_builtin F.entry_type_call ?_⟩
  rw [Around.under_plain (weight_type_call_type "set" [.ref l] []) rfl]
  have h1 := F.called_set.notType
  have h2 := F.called_set.canCreate
  have hct := F.typeCall_set_1 (.ref l)
  repeat (any_goals (first | assumption | wp_step))
  refine codeAny_mono (code_set_new_1 (.ref l) (E := E) (Q₁ := fun obj s₁ => ∃ led : Bool, obj = .ref s.heap.objs.size /\ s₁ = { s with heap := s.heap.push (newSet0 led) }) fun led => ⟨led, rfl, rfl⟩) fun r s₁ hr => ?_
  cases r with
  | error e => exact hr
  | ok fl =>
    cases fl with
    | ret obj =>
      obtain ⟨led, rfl, rfl⟩ := hr
      have hS : (s.heap.push (newSet0 led)).get? s.heap.objs.size = some (newSet0 led) := Heap.get?_push_size _ rfl
      have hT : Shared.TypeIs { s with heap := s.heap.push (newSet0 led) } (.ref s.heap.objs.size) "set" := ⟨_, hS, rfl⟩
      have hli := F.called_set.init.lookup
      have hbi := F.called_set.init.bind (.ref s.heap.objs.size)
      repeat (any_goals (first | assumption | wp_step))
      refine codeAny_mono (set_init (E := E) L (by simp [hh]) (by simp; omega)) fun r₂ s₂ hr₂ => ?_
      cases r₂ with
      | error e => exact hr₂
      | ok fl₂ =>
        cases fl₂ with
        | ret r =>
          obtain ⟨rfl, hm⟩ := hr₂
          have hd := h s₂ hm
          repeat (any_goals (first | assumption | wp_step))
        | _ => exact hr₂.elim
    | _ => exact hr.elim
end
end
end Mine.Internal
set_option maxRecDepth 100000
namespace Mine.Internal
section
open PySem PyProof.Rows
section
variable {prog : Program} {w : World} {A : Around} {E : Value -> Shared -> Prop} {h : Heap} {g : Array GenState} {d : Drawn} {t : Nat} {os : OsState}
variable {nm q : Str} {C N : Addr} {bs : List Value} {sn : List Str} {sub : List Value} {col : Option Bool} {dd : Option Addr} {k0 k1 k2 k3 k5 : Option Value} {newId : String}
abbrev bornH (h : Heap) (C : Addr) : Heap := (h.push { cls := .type "dict", data := .dict #[] }).push { cls := .ref C, dict := some h.objs.size, data := .plain }
theorem born_at : (bornH h C).get? (h.objs.size + 1) = some { cls := .ref C, dict := some h.objs.size, data := .plain } := by heap_get
theorem born_made : Heap.MadeObj h (bornH h C) (h.objs.size + 1) h.objs.size C := by
  have hgd : (bornH h C).get? h.objs.size = some { cls := .type "dict", data := .dict #[] } := Heap.get?_push_of_some _ (Heap.get?_push_at rfl rfl)
  exact ⟨fun b o hb => Heap.get?_push_of_some _ (Heap.get?_push_of_some _ hb), Heap.get?_none_of_le (Nat.le_succ _), Heap.get?_none_of_le (Nat.le_refl _),
    ⟨_, born_at, rfl, fun c => by simp, .inr ⟨h.objs.size, rfl, Nat.ne_of_lt (Nat.lt_succ_self _), Heap.Ns1.of_empty ⟨_, #[], _, hgd, rfl, fun e he => absurd he (by simp), fun _ => rfl⟩⟩⟩,
    fun o ho => by obtain rfl := Option.some.inj (born_at.symm.trans ho); rfl, by simp only [Heap.size_push]; lia⟩
theorem born_init (F : ObjNewFacts newId)
    (hC : h.get? C = some (excClassObj nm q C N bs [.type "object"] true sn sub false col dd k0 k1 k2 k3 k5 newId)) (hn : h.Ns N mN) (hi : mN "__init__" = some (.ref fI)) (hfI : h.get? fI = some oI) (hfc : oI.cls = .type "function")
    (hq : wpAny (model prog w) A (call (.ref fI) (.ref (h.objs.size + 1) :: rest)) (fun r s' => r = .none /\ Q (.done (.ret (.ref (h.objs.size + 1)))) s') E ⟨bornH h C, g, d, t, os⟩) :
    wpAny (model prog w) A (Builtin.«type.__call__» ⟨.ref C :: rest, []⟩) Q E ⟨h, g, d, t, os⟩ := by
  have hmro : mroOf (.type "object") = pure [.type "object"] := by kernel_rfl
  have hlk : typeLookup (.type "object") "__init__" = pure (some (.builtin "object.__init__")) := by rw [typeLookup_type, builtinLookup_eq_fast]; kernel_rfl
  repeat (first | with_reducible refine wpAny_loadPart_at hC ?_ | with_reducible refine wpAny_madeBy_exc hC ?_ | wp_step)
  refine codeAny_call_builtin_code (Code.quiet_builtin _ F.quiet) (wpAny_check_obj_new F hC ?_)
  refine codeAny_obj_new F hC hn hi ?_
  show wpAny _ _ _ _ _ _
  have hk := (born_made (h := h) (C := C)).keeps
  have hC₁ := hk _ _ hC
  have hfI₁ := hk _ _ hfI
  have hn₁ : (bornH h C).Ns N mN := hn.keeps hk
  have hget := born_at (h := h) (C := C)
  have hcC : (Value.ref C :: [Value.type "object"]).contains (.ref C) = true := by simp
  unfold isInstance
  repeat (first | with_reducible refine wpAny_loadPart_at hget ?_ | (with_reducible refine wpAny_isSubtype_exc hC₁ ?_; rw [hcC]) | wp_step)
  show wpAny _ _ (typeLookup (.ref C) _) _ _ _
  refine wpAny_typeLookup_exc hC₁ hn₁ hmro hlk ?_
  rw [hi]
  refine wpAny_holding (wpAny_bind ?_)
  unfold bindSpecial
  refine wpAny_bind (wpAny_typeOf (T := "function") ⟨_, hfI₁, hfc⟩ ?_)
  rw [if_pos (by decide)]
  refine wpAny_pure (wpAny_bind (wpAny_mono hq (fun r s' hr => ?_) fun _ _ x => x))
  refine xA hr fun qq1 hQ => ?_; try clear hr; subst qq1
  wp_walk
  exact hQ
theorem born_call (F : ObjNewFacts newId)
    (hC : h.get? C = some (excClassObj nm q C N bs [.type "object"] true sn sub false col dd k0 k1 k2 k3 k5 newId)) (hn : h.Ns N mN) (hi : mN "__init__" = some (.ref fI)) (hfI : h.get? fI = some oI) (hfc : oI.cls = .type "function")
    (hq : wpAny (model prog w) (A.under (.builtin "type.__call__" ⟨.ref C :: rest, []⟩)) (call (.ref fI) (.ref (h.objs.size + 1) :: rest)) (fun r s' => r = .none /\ Q (.ref (h.objs.size + 1)) s') E ⟨bornH h C, g, d, t, os⟩) :
    wpAny (model prog w) A (call (.ref C) rest) Q E ⟨h, g, d, t, os⟩ := by
  have f1 := tc_lookup
  have f2 := tc_bind (.ref C)
  have hT : (⟨h, g, d, t, os⟩ : Shared).TypeIs (.ref C) "type" := ⟨_, hC, rfl⟩
  refine wpAny_call (codeAny_of_tree ?_)
  show wpAny _ _ (callAny (.ref C) _) _ _ _
  repeat (any_goals (first | assumption | with_reducible refine wpAny_loadPart_at hC ?_ | wp_step))
  refine ⟨rfl, ?_⟩
  exact codeAny_call_builtin_at (Code.quiet_builtin _ (by decide +kernel)) entry_typeCall (wpAny_check_type_call_sub hC (born_init F hC hn hi hfI hfc hq))
end
end
section
open PySem PySem.Spec PyProof.Rows PySem.SeqAt
section
variable {P : Par}
theorem seqV {γ : Type} {f : AV -> AHeap -> Res γ} {G : Res γ -> Value -> Shared -> Prop} (a₀ : After P σ₀ σ [] hp s₀ s)
    (h : wpAny (model P.prog P.w) A m (QV P σ s r) (QE P σ s r) s) (hb : r.bind f ≠ .bad)
    (hk : ∀ av hp' σ' v s', After P σ₀ σ' [] hp' s₀ s' -> After P σ σ' [] hp' s s' -> RV P.B s'.heap σ' av v -> f av hp' ≠ .bad -> G (f av hp') v s') :
    wpAny (model P.prog P.w) A m (G (r.bind f)) (QE P σ₀ s₀ (r.bind f)) s :=
  wpAny_mono h (fun v s' ⟨av, hp', σ', e, a, rv⟩ => by subst e; exact hk av hp' σ' v s' (a₀.trans a) a rv hb) (fun _ _ q => (q.bind).lift a₀)
theorem seqVs {γ : Type} {f : List AV -> AHeap -> Res γ} {G : Res γ -> List Value -> Shared -> Prop} (a₀ : After P σ₀ σ [] hp s₀ s)
    (h : wpAny (model P.prog P.w) A m (QVs P σ s r) (QE P σ s r) s) (hb : r.bind f ≠ .bad)
    (hk : ∀ av hp' σ' v s', After P σ₀ σ' [] hp' s₀ s' -> After P σ σ' [] hp' s s' -> RVs P.B s'.heap σ' av v -> f av hp' ≠ .bad -> G (f av hp') v s') :
    wpAny (model P.prog P.w) A m (G (r.bind f)) (QE P σ₀ s₀ (r.bind f)) s :=
  wpAny_mono h (fun v s' ⟨av, hp', σ', e, a, rv⟩ => by subst e; exact hk av hp' σ' v s' (a₀.trans a) a rv hb) (fun _ _ q => (q.bind).lift a₀)
theorem boolO_is (hb : boolO o h ≠ .bad) : ∃ b, o = some b := by
  rcases o with _ | b
  case none => exact absurd rfl hb
  case some => exact ⟨b, rfl⟩
theorem condV_is (hb : condV v x y ≠ .bad) : ∃ b, v = .bool b := by
  rcases v with _ | _ <;> first | exact absurd rfl hb | exact ⟨_, rfl⟩
theorem notAV_is (hb : notAV v h ≠ .bad) : ∃ b, v = .bool b := by
  rcases v with _ | _ <;> first | exact absurd rfl hb | exact ⟨_, rfl⟩
theorem negAV_is (hb : negAV v h ≠ .bad) : ∃ i, v = .int i := by
  rcases v with _ | _ <;> first | exact absurd rfl hb | exact ⟨_, rfl⟩
variable {cx : Cx}
theorem sim_bin {xl xr : X} {pos : Pos} (hop : compBOp op = some bop) (hl : SimE P cx l xl) (hr : SimE P cx r xr) : SimE P cx (.BinOp l op r pos) (.bin bop xl xr) := by
  intro c n env A σ loc hp s C I hb
  rw [x_bin] at hb |-
  refine wpAny_BinOp (seqV (G := fun R a s₁ => wpAny (model P.prog P.w) A (eval r env) (fun b s₂ => wpAny (model P.prog P.w) A (binaryOp op a b) (QV P σ s R) (QE P σ s R) s₂) (QE P σ s R) s₁) (.refl I.st) (hl c n env A σ loc hp s C I (bind_ok hb)) hb ?_)
  intro av hp₁ σ₁ v s₁ a₁ _ rv hb
  have I₁ := I.after a₁
  refine seqV (G := fun R b s₂ => wpAny (model P.prog P.w) A (binaryOp op v b) (QV P σ s R) (QE P σ s R) s₂) a₁ (hr c n env A σ₁ loc hp₁ s₁ C I₁ (bind_ok hb)) hb ?_
  intro bv hp₂ σ₂ u s₂ a₂ a₁₂ ru hb
  exact wpAny_mono (bin_prim C.ok a₂.st I.ar hop (RV.grows a₁₂.gr _ _ rv) ru hb) (fun _ _ q => q.lift a₂) (fun _ _ q => q)
theorem sim_neg {xx : X} {pos : Pos} (hx : SimE P cx x xx) : SimE P cx (.UnaryOp .USub x pos) (.neg xx) := by
  intro c n env A σ loc hp s C I hb
  rw [x_neg] at hb |-
  refine wpAny_UnaryOp (seqV (G := fun R a s₁ => wpAny (model P.prog P.w) A (unaryOp .USub a) (QV P σ s R) (QE P σ s R) s₁) (.refl I.st) (hx c n env A σ loc hp s C I (bind_ok hb)) hb ?_)
  intro av hp₁ σ₁ v s₁ a₁ _ rv hb
  obtain ⟨i, rfl⟩ := negAV_is hb
  refine xE rv fun t qq1 => ?_; try clear rv; subst qq1
  exact PySem.P.neg_int (QV.lift a₁ ⟨_, _, _, rfl, .tok a₁.st _, _, rfl⟩)
theorem sim_not {xx : X} {pos : Pos} (hx : SimE P cx x xx) : SimE P cx (.UnaryOp .Not x pos) (.not xx) := by
  intro c n env A σ loc hp s C I hb
  rw [x_not] at hb |-
  refine wpAny_UnaryOp (seqV (G := fun R a s₁ => wpAny (model P.prog P.w) A (unaryOp .Not a) (QV P σ s R) (QE P σ s R) s₁) (.refl I.st) (hx c n env A σ loc hp s C I (bind_ok hb)) hb ?_)
  intro av hp₁ σ₁ v s₁ a₁ _ rv hb
  obtain ⟨b, rfl⟩ := notAV_is hb
  rcases (show v = .bool b from rv) with rfl
  exact not_value (wpAny_truthy_bool (QV.lift a₁ ⟨_, _, _, rfl, .refl a₁.st, rfl⟩))
noncomputable def SimB (P : Par) (cx : Cx) (op : BoolOp) (es : List Expr) (x : X) : Prop :=
  ∀ c n env A σ l hp s pos, Sims P cx c n -> Inv P cx n c.q env A σ l hp s -> evalX c x l hp ≠ .bad ->
    wpAny (model P.prog P.w) A (boolOp pos op (evalEach es env)) (QV P σ s (evalX c x l hp)) (QE P σ s (evalX c x l hp)) s
theorem sim_boolop (h : SimB P cx op es x) : SimE P cx (.BoolOp op es pos) x := by
  intro c n env A σ loc hp s C I hb
  rw [arm_eval_BoolOp]
  exact h c n env A σ loc hp s pos C I hb
theorem simB_one (h : SimE P cx e x) : SimB P cx op [e] x := by
  intro c n env A σ loc hp s pos C I hb
  exact h c n env A σ loc hp s C I hb
theorem simB_and {es : List Expr} {x y : X} (h : SimE P cx e x) (hr : SimB P cx .And (e' :: es) y) : SimB P cx .And (e :: e' :: es) (.and x y) := by
  intro c n env A σ loc hp s pos C I hb
  rw [x_and] at hb |-
  show wpAny _ _ (eval e env >>= fun v => standAt pos >>= fun _ => holding [v] (truthy v) >>= fun t => match BoolOp.And, t with | .And, false | .Or, true => pure v | _, _ => boolOp pos .And (evalEach (e' :: es) env)) _ _ _
  refine wpAny_bind (seqV (G := fun R v s₁ => wpAny (model P.prog P.w) A (standAt pos >>= fun _ => holding [v] (truthy v) >>= fun t => match BoolOp.And, t with | .And, false | .Or, true => pure v | _, _ => boolOp pos .And (evalEach (e' :: es) env)) (QV P σ s R) (QE P σ s R) s₁) (.refl I.st) (h c n env A σ loc hp s C I (bind_ok hb)) hb ?_)
  intro av hp₁ σ₁ v s₁ a₁ _ rv hb
  refine xE (condV_is hb) fun b qq1 => ?_; subst qq1
  rcases (show v = .bool b from rv) with rfl
  refine wpAny_bind (wpAny_standAt (wpAny_bind (wpAny_holding (wpAny_truthy_bool ?_))))
  rcases b with _ | _
  case false => exact wpAny_pure (QV.lift a₁ ⟨_, _, _, rfl, .refl a₁.st, rfl⟩)
  case true => exact wpAny_mono (hr c n env A σ₁ loc hp₁ s₁ pos C (I.after a₁) hb) (fun _ _ q => q.lift a₁) (fun _ _ q => q.lift a₁)
theorem simB_or {es : List Expr} {x y : X} (h : SimE P cx e x) (hr : SimB P cx .Or (e' :: es) y) : SimB P cx .Or (e :: e' :: es) (.or x y) := by
  intro c n env A σ loc hp s pos C I hb
  rw [x_or] at hb |-
  show wpAny _ _ (eval e env >>= fun v => standAt pos >>= fun _ => holding [v] (truthy v) >>= fun t => match BoolOp.Or, t with | .And, false | .Or, true => pure v | _, _ => boolOp pos .Or (evalEach (e' :: es) env)) _ _ _
  refine wpAny_bind (seqV (G := fun R v s₁ => wpAny (model P.prog P.w) A (standAt pos >>= fun _ => holding [v] (truthy v) >>= fun t => match BoolOp.Or, t with | .And, false | .Or, true => pure v | _, _ => boolOp pos .Or (evalEach (e' :: es) env)) (QV P σ s R) (QE P σ s R) s₁) (.refl I.st) (h c n env A σ loc hp s C I (bind_ok hb)) hb ?_)
  intro av hp₁ σ₁ v s₁ a₁ _ rv hb
  refine xE (condV_is hb) fun b qq1 => ?_; subst qq1
  rcases (show v = .bool b from rv) with rfl
  refine wpAny_bind (wpAny_standAt (wpAny_bind (wpAny_holding (wpAny_truthy_bool ?_))))
  rcases b with _ | _
  case true => exact wpAny_pure (QV.lift a₁ ⟨_, _, _, rfl, .refl a₁.st, rfl⟩)
  case false => exact wpAny_mono (hr c n env A σ₁ loc hp₁ s₁ pos C (I.after a₁) hb) (fun _ _ q => q.lift a₁) (fun _ _ q => q.lift a₁)
theorem notMarks (h : compE k cx r = some x) : behindInMarks op r = false := by
  rcases k with _ | k
  case zero => exact none_ne h
  case succ => rcases r with _ | _ <;> first | exact rfl | exact none_ne h
theorem sim_cmp {xl xr : X} {pos : Pos} (hop : compCOp op = some cop) (hm : behindInMarks op r = false) (hl : SimE P cx l xl) (hr : SimE P cx r xr) : SimE P cx (.Compare l [op] [r] pos) (.cmp cop xl xr) := by
  intro c n env A σ loc hp s C I hb
  rw [x_cmp] at hb |-
  refine wpAny_Compare1 (seqV (G := fun R a s₁ => wpAny (model P.prog P.w) A (eval r env) (fun b s₂ => wpAny (model P.prog P.w) A (compareOp op a b) (QV P σ s R) (QE P σ s R) s₂) (QE P σ s R) s₁) (.refl I.st) (hl c n env A σ loc hp s C I (bind_ok hb)) hb ?_) hm
  intro av hp₁ σ₁ v s₁ a₁ _ rv hb
  have I₁ := I.after a₁
  refine seqV (G := fun R b s₂ => wpAny (model P.prog P.w) A (compareOp op v b) (QV P σ s R) (QE P σ s R) s₂) a₁ (hr c n env A σ₁ loc hp₁ s₁ C I₁ (bind_ok hb)) hb ?_
  intro bv hp₂ σ₂ u s₂ a₂ a₁₂ ru hb
  refine xE (boolO_is hb) fun k hc => ?_
  rw [hc]
  refine wpAny_mono (cmp_prim C.ok a₂.st I.ar hop (RV.grows a₁₂.gr _ _ rv) ru hc) (fun w s₃ q => ?_) (fun _ _ q => q)
  obtain ⟨b, rfl, e, a₃⟩ := q
  cases e
  exact ⟨_, _, _, rfl, a₂.trans a₃, rfl⟩
theorem cmpAnd_is (hb : cmpAnd o h k ≠ .bad) : ∃ b, o = some b := by
  rcases o with _ | b
  case none => exact absurd rfl hb
  case some => exact ⟨b, rfl⟩
theorem cc2 : compareChain pos v [o1, o2] [a, b] = (do
    let rv <- holding [v] a
    standAt pos
    let c <- holding [v, rv] (compareOp o1 v rv)
    release [v, rv] [c]
    if <- holding [c, rv] (truthy c) then compareChain pos rv [o2] [b] else pure c) := rfl
theorem cc1 : compareChain pos v [o] [a] = (do
    let rv <- holding [v] a
    standAt pos
    operate [v, rv] (compareOp o v rv)) := rfl
theorem sim_cmp2 {xl xm xr : X} {pos : Pos} (h1 : compCOp o1 = some c1) (h2 : compCOp o2 = some c2) (hm : behindInMarks o2 r = false) (hl : SimE P cx l xl) (hmm : SimE P cx m xm) (hr : SimE P cx r xr) :
    SimE P cx (.Compare l [o1, o2] [m, r] pos) (.cmp2 c1 c2 xl xm xr) := by
  intro c n env A σ loc hp s C I hb
  rw [x_cmp2] at hb |-
  rw [arm_eval_Compare]
  have hmark : markedEach [o1, o2] [m, r] (evalEach [m, r] env) = [eval m env, eval r env] := by
    show [eval m env, markedBehindIn o2 r (eval r env)] = _
    rw [markedBehindIn_of_false hm]
  rw [hmark]
  refine wpAny_bind (seqV (G := fun R a s₁ => wpAny (model P.prog P.w) A (compareChain pos a [o1, o2] [eval m env, eval r env]) (QV P σ s R) (QE P σ s R) s₁) (.refl I.st) (hl c n env A σ loc hp s C I (bind_ok hb)) hb ?_)
  intro av hp₁ σ₁ v s₁ a₁ _ rv hb
  have I₁ := I.after a₁
  rw [cc2]
  . refine wpAny_bind (wpAny_holding (seqV (G := fun R b s₂ => wpAny (model P.prog P.w) A (standAt pos >>= fun _ => holding [v, b] (compareOp o1 v b) >>= fun cc => release [v, b] [cc] >>= fun _ => holding [cc, b] (truthy cc) >>= fun t => if t = true then compareChain pos b [o2] [eval r env] else pure cc) (QV P σ s R) (QE P σ s R) s₂) a₁ (hmm c n env A σ₁ loc hp₁ s₁ C I₁ (bind_ok hb)) hb ?_))
    intro bv hp₂ σ₂ u s₂ a₂ a₁₂ ru hb
    have I₂ := I.after a₂
    refine xE (cmpAnd_is hb) fun k hc => ?_
    rw [hc] at hb |-
    refine wpAny_bind (wpAny_standAt (wpAny_bind (wpAny_holding (wpAny_mono (cmp_prim C.ok a₂.st I.ar h1 (RV.grows a₁₂.gr _ _ rv) ru hc) (fun w s₃ q => ?_) (fun _ _ q => q)))))
    obtain ⟨b, rfl, e, a₃⟩ := q
    cases e
    refine wpAny_bind (wpAny_release (wpAny_bind (wpAny_holding (wpAny_truthy_bool ?_))))
    rcases k with _ | _
    case false => exact wpAny_pure (QV.lift (a₂.trans a₃) ⟨_, _, _, rfl, .refl a₃.st, rfl⟩)
    case true =>
      rw [if_pos rfl]
      have I₃ := I₂.after a₃
      rw [cc1]
      refine wpAny_bind (wpAny_holding (seqV (G := fun R z s₄ => wpAny (model P.prog P.w) A (standAt pos >>= fun _ => operate [u, z] (compareOp o2 u z)) (QV P σ s R) (QE P σ s R) s₄) (f := fun z h => boolO (cmpAV h c2 bv z) h) (a₂.trans a₃) (hr c n env A σ₂ loc hp₂ s₃ C I₃ (bind_ok hb)) hb ?_))
      intro zv hp₄ σ₄ z s₄ a₄ a₃₄ rz hb
      refine xE (boolO_is hb) fun k2 hc2 => ?_
      rw [hc2]
      refine wpAny_bind (wpAny_standAt (wpAny_operating (wpAny_mono (cmp_prim C.ok a₄.st I.ar h2 (RV.grows a₃₄.gr _ _ (RV.grows a₃.gr _ _ ru)) rz hc2) (fun w s₅ q => ?_) (fun _ _ q => q))))
      obtain ⟨b, rfl, e, a₅⟩ := q
      cases e
      exact ⟨_, _, _, rfl, a₄.trans a₅, rfl⟩
theorem is_none_iff (ra : RV P.B h σ a v) : (v == Value.none) = isNoneAV a := by
  rcases a with _ | _
  case none => rcases (show v = .none from ra) with rfl; rfl
  case bool b => rcases (show v = .bool b from ra) with rfl; rfl
  case int => refine xE ra fun _ qq1 => ?_; try clear ra; subst qq1; rfl
  case str => refine xE ra fun _ qq1 => ?_; try clear ra; subst qq1; rfl
  case tup => refine xEEEA ra fun _ _ _ qq1 _ => ?_; try clear ra; subst qq1; rfl
  case loc => refine xEEA ra fun _ _ qq1 _ => ?_; try clear ra; subst qq1; rfl
  case rng => refine xEEEEA ra fun _ _ _ _ qq1 _ => ?_; try clear ra; subst qq1; rfl
  case scr => refine xEEA ra fun _ _ qq1 _ => ?_; try clear ra; subst qq1; rfl
theorem sim_isn {xl : X} {pos : Pos} (hop : isnOf op = some b) (hr : isNone r = true) (hl : SimE P cx l xl) : SimE P cx (.Compare l [op] [r] pos) (.isn b xl) := by
  intro c n env A σ loc hp s C I hb
  obtain ⟨k, q, rfl⟩ : ∃ k q, r = .Constant .none k q := by
    rcases r with _ | _
    case Constant v k q => rcases v with _ | _ <;> first | exact ⟨_, _, rfl⟩ | exact absurd hr Bool.false_ne_true
    all_goals exact absurd hr Bool.false_ne_true
  rw [x_isn] at hb |-
  refine wpAny_Compare1 (seqV (G := fun R a s₁ => wpAny (model P.prog P.w) A (eval (.Constant .none k q) env) (fun b s₂ => wpAny (model P.prog P.w) A (compareOp op a b) (QV P σ s R) (QE P σ s R) s₂) (QE P σ s R) s₁) (.refl I.st) (hl c n env A σ loc hp s C I (bind_ok hb)) hb ?_) rfl
  intro av hp₁ σ₁ v s₁ a₁ _ rv hb
  refine wpAny_Constant_none ?_
  rcases op with _ | _ <;> (try exact none_ne hop) <;> cases hop
  . exact is_none ⟨_, _, _, rfl, a₁, by rw [is_none_iff rv]; show _ = Value.bool _; rcases isNoneAV av with _ | _ <;> rfl⟩
  . exact isNot_none ⟨_, _, _, rfl, a₁, by rw [is_none_iff rv]; show _ = Value.bool _; rcases isNoneAV av with _ | _ <;> rfl⟩
end
end
section
open PySem PySem.Spec PyProof.Rows PySem.SeqAt
theorem not_starred (h : compE k cx e = some x) : ∀ env rest, starEach (e :: rest) env = (false, eval e env) :: starEach rest env := by
  intro env rest
  rcases k with _ | k
  case zero => cases h
  case succ => rcases e with _ | _ <;> first | rfl | (cases h)
section
variable {P : Par} {cx : Cx}
theorem simEs_nil : SimEs P cx [] .nil := by
  intro c n env A σ loc hp s pos C I hb
  exact wpAny_items_nil ⟨[], hp, σ, rfl, .refl I.st, trivial⟩
theorem simEs_cons (hs : ∀ env rest, starEach (e :: rest) env = (false, eval e env) :: starEach rest env) (h : SimE P cx e x) (hr : SimEs P cx es xs) : SimEs P cx (e :: es) (.cons x xs) := by
  intro c n env A σ loc hp s pos C I hb
  rw [xs_cons] at hb |-
  refine wpAny_items_cons (seqV (G := fun R v s₁ => wpAny (model P.prog P.w) A (spliced (backTo pos (starEach es env))) (fun vs s₂ => QVs P σ s R (v :: vs) s₂) (QE P σ s R) s₁) (.refl I.st) (h c n env A σ loc hp s C I (bind_ok hb)) hb ?_) (hs env es)
  intro av hp₁ σ₁ v s₁ a₁ _ rv hb
  refine seqVs (G := fun R vs s₂ => QVs P σ s R (v :: vs) s₂) a₁ (hr c n env A σ₁ loc hp₁ s₁ pos C (I.after a₁) (bind_ok hb)) hb ?_
  intro avs hp₂ σ₂ vs s₂ a₂ a₁₂ rvs hb
  exact ⟨_, _, _, rfl, a₂, RV.grows a₁₂.gr _ _ rv, rvs⟩
theorem sim_tup (h : SimEs P cx es xs) : SimE P cx (.Tuple es k pos) (.tup xs) := by
  intro c n env A σ loc hp s C I hb
  rw [x_tup] at hb |-
  refine wpAny_Tuple (seqVs (G := fun R vs s₁ => vs.length <= sizeLine /\ QV P σ s R (.ref s₁.heap.objs.size) { s₁ with heap := s₁.heap.push { cls := .type "tuple", data := .seq vs.toArray } }) (.refl I.st) (h c n env A σ loc hp s pos C I (bind_ok hb)) hb ?_)
  intro avs hp₁ σ₁ vs s₁ a₁ _ rv hb
  have hl := rv.length
  split at hb
  . rename_i hsz
    rw [if_pos hsz]
    have S₂ := a₁.st.push { cls := .type "tuple", data := .seq vs.toArray }
    have g₂ : Grows σ₁ σ₁ [] s₁.heap (s₁.heap.push { cls := .type "tuple", data := .seq vs.toArray }) := .push _
    exact ⟨hl ▸ sizeLim_le hsz, _, _, _, rfl, a₁.trans ⟨rfl, S₂, g₂⟩, s₁.heap.objs.size, vs.toArray, 0, rfl, Heap.get?_push_size _ rfl, RVs.grows g₂ _ _ rv⟩
  . exact absurd rfl hb
theorem sim_list (h : SimEs P cx es xs) : SimE P cx (.List es pos) (.list xs) := by
  intro c n env A σ loc hp s C I hb
  rw [x_list] at hb |-
  refine wpAny_List (seqVs (G := fun R vs s₁ => vs.length <= sizeLine /\ QV P σ s R (.ref s₁.heap.objs.size) { s₁ with heap := s₁.heap.push { cls := .type "list", data := .seq vs.toArray } }) (.refl I.st) (h c n env A σ loc hp s pos C I (bind_ok hb)) hb ?_)
  intro avs hp₁ σ₁ vs s₁ a₁ _ rv hb
  refine xA (qv_newList (ws := vs.toArray) a₁.st rv hb) fun h1 h2 => ?_
  exact ⟨by simpa using h1, h2.lift a₁⟩
theorem list_type {s : Shared} (S : St P.w P.B σ hp s.heap) (ra : RV P.B s.heap σ (.loc j) v) (hj : hp[j]? = some (.list xs)) : s.TypeIs v "list" := by
  refine xEEA ra fun b o qq1 e1 => ?_; try clear ra; subst qq1
  refine xEA (S.isList hj e1) fun ws hl _ => ?_
  exact hl.typeIs
theorem rv_type {s : Shared} (S : St P.w P.B σ hp s.heap) (ra : RV P.B s.heap σ a v) (hb : subAV a i hp ≠ .bad) :
    ∃ T id, s.TypeIs v T /\ typeLookup (.type T) "__getitem__" = pure (some (.builtin id)) := by
  refine xEA (sub_kind hb) fun x _ K => ?_
  cases K with
  | str => refine xE ra fun t qq1 => ?_; try clear ra; subst qq1; exact ⟨"str", _, rfl, F.slot_str_getitem.lookup⟩
  | tup => refine xEEEAA ra fun b ws k qq1 o _ => ?_; try clear ra; subst qq1; exact ⟨"tuple", _, ⟨_, o, rfl⟩, F.slot_tuple_getitem.lookup⟩
  | scr => refine xEEAA ra fun b items qq1 hl _ => ?_; try clear ra; subst qq1; exact ⟨"list", _, (scr_list S hl).typeIs, slot_list_getitem.lookup⟩
  | lst j xs x hj => exact ⟨"list", _, list_type S ra hj, slot_list_getitem.lookup⟩
  | dct j kvs ep x hj =>
    refine xEEA ra fun b o qq1 e1 => ?_; try clear ra; subst qq1
    refine xEA (S.isDict hj e1) fun es hl _ => ?_
    exact ⟨"dict", _, ⟨_, hl, rfl⟩, slot_dict_getitem.lookup⟩
theorem subs_is (slice : Expr) (o i : Value) : ∃ l, subscripted slice false o i = operate l (getItem o i) := by
  rcases slice with _ | _
  case Slice lo hi st p => rcases st with _ | _ <;> exact ⟨_, rfl⟩
  all_goals exact ⟨_, rfl⟩
theorem sub_tail {T id : String} (hT : s.TypeIs o T)
    (hl : typeLookup (.type T) "__getitem__" = pure (some (.builtin id))) (h : wpAny (model P.prog P.w) A (getItem o i) Q E s) :
    wpAny (model P.prog P.w) A (subscriptTail value slice o i) Q E s := by
  unfold subscriptTail
  refine wpAny_bind ?_
  rw [getitemInPython_of_ne hT.not_modules]
  refine wpAny_bind (wpAny_specialOf hT hl ?_)
  have tail : ∀ l : List Value, wpAny (model P.prog P.w) A (operate l (getItem o i)) (fun r s₃ => wpAny (model P.prog P.w) A (letTemporaryGo value o r >>= fun _ => pure r) Q E s₃) E s := fun l =>
    wpAny_operating (wpAny_mono h (fun r s₃ hr => wpAny_bind (wpAny_letTemporaryGo (wpAny_pure hr))) fun _ _ x => x)
  refine wpAny_pure ?_
  refine wpAny_bind ?_
  refine xE (subs_is slice o i) fun l e => ?_
  rw [e]
  exact tail l
theorem sim_sub (ho : SimE P cx o xo) (hi : SimE P cx i xi) : SimE P cx (.Subscript o i pos) (.sub xo xi) := by
  intro c n env A σ loc hp s C I hb
  rw [x_sub] at hb |-
  refine Subscript_ (seqV (G := fun R v s₁ => wpAny (model P.prog P.w) A (eval i env) (fun u s₂ => wpAny (model P.prog P.w) A (subscriptTail o i v u) (QV P σ s R) (QE P σ s R) s₂) (QE P σ s R) s₁) (.refl I.st) (ho c n env A σ loc hp s C I (bind_ok hb)) hb ?_)
  intro av hp₁ σ₁ v s₁ a₁ _ rv hb
  refine seqV (G := fun R u s₂ => wpAny (model P.prog P.w) A (subscriptTail o i v u) (QV P σ s R) (QE P σ s R) s₂) a₁ (hi c n env A σ₁ loc hp₁ s₁ C (I.after a₁) (bind_ok hb)) hb ?_
  intro bv hp₂ σ₂ u s₂ a₂ a₁₂ ru hb
  have rv' := RV.grows a₁₂.gr _ _ rv
  refine xEEA (rv_type a₂.st rv' hb) fun T id hT hl => ?_
  exact sub_tail hT hl (wpAny_mono (sub_prim C.ok a₂.st I.ar rv' ru hb) (fun _ _ q => q.lift a₂) (fun _ _ q => q))
theorem sim_part (hx : compPart (compE k cx) o = some x) (h : ∀ e, o = some e -> SimE P cx e x) :
    ∀ c n env A σ l hp s, Sims P cx c n -> Inv P cx n c.q env A σ l hp s -> evalX c x l hp ≠ .bad -> wpAny (model P.prog P.w) A (evalPart o env) (QV P σ s (evalX c x l hp)) (QE P σ s (evalX c x l hp)) s := by
  intro c n env A σ l hp s C I hb
  rcases o with _ | e
  case none =>
    cases (show some X.none = some x from hx)
    exact wpAny_evalPart_none ⟨_, _, _, rfl, .refl I.st, rfl⟩
  case some => exact wpAny_evalPart_some (h e rfl c n env A σ l hp s C I hb)
theorem slice_type {s : Shared} (S : St P.w P.B σ hp s.heap) (ra : RV P.B s.heap σ a v) (hb : sliceAV a i j hp ≠ .bad) :
    ∃ T id, s.TypeIs v T /\ typeLookup (.type T) "__getitem__" = pure (some (.builtin id)) := by
  rcases a with _ | _
  case str => refine xE ra fun t qq1 => ?_; try clear ra; subst qq1; exact ⟨"str", _, rfl, F.slot_str_getitem.lookup⟩
  case scr => refine xEEAA ra fun b items qq1 hl _ => ?_; try clear ra; subst qq1; exact ⟨"list", _, (scr_list S hl).typeIs, slot_list_getitem.lookup⟩
  case loc n =>
    refine xEEA ra fun b off qq1 e1 => ?_; try clear ra; subst qq1
    refine xEA (newListO_is hb) fun y hy _ => ?_
    refine xEA (Option.bind_eq_some_iff.mp hy) fun xs hx _ => ?_
    refine xEEA (S.isL (listAt_is hx) e1) fun ws n hL _ => ?_
    exact ⟨"list", _, (isList_of hL).typeIs, slot_list_getitem.lookup⟩
  all_goals exact absurd rfl hb
theorem sim_slice {lo hi : Option Expr} (ho : SimE P cx o xo) (hxl : compPart (compE k cx) lo = some xl) (hl : ∀ e, lo = some e -> SimE P cx e xl) (hxh : compPart (compE k cx) hi = some xh) (hh : ∀ e, hi = some e -> SimE P cx e xh) :
    SimE P cx (.Subscript o (.Slice lo hi none p) pos) (.slice xo xl xh) := by
  intro c n env A σ loc hp s C I hb
  rw [x_slice] at hb |-
  refine Subscript_ (seqV (G := fun R v s₁ => wpAny (model P.prog P.w) A (eval (.Slice lo hi none p) env) (fun u s₂ => wpAny (model P.prog P.w) A (subscriptTail o (.Slice lo hi none p) v u) (QV P σ s R) (QE P σ s R) s₂) (QE P σ s R) s₁) (.refl I.st) (ho c n env A σ loc hp s C I (bind_ok hb)) hb ?_)
  intro av hp₁ σ₁ v s₁ a₁ _ rv hb
  refine wpAny_Slice (seqV (G := fun R vl s₂ => wpAny (model P.prog P.w) A (evalPart hi env) (fun vh s₃ => wpAny (model P.prog P.w) A (evalPart none env) (fun st s₄ => (fun u s₅ => wpAny (model P.prog P.w) A (subscriptTail o (.Slice lo hi none p) v u) (QV P σ s R) (QE P σ s R) s₅) (.ref s₄.heap.objs.size) { s₄ with heap := s₄.heap.push { cls := .type "slice", data := .fields #[vl, vh, st] } }) (QE P σ s R) s₃) (QE P σ s R) s₂) a₁ (sim_part hxl hl c n env A σ₁ loc hp₁ s₁ C (I.after a₁) (bind_ok hb)) hb ?_)
  intro lv hp₂ σ₂ vl s₂ a₂ a₁₂ rl hb
  refine seqV (G := fun R vh s₃ => wpAny (model P.prog P.w) A (evalPart none env) (fun st s₄ => (fun u s₅ => wpAny (model P.prog P.w) A (subscriptTail o (.Slice lo hi none p) v u) (QV P σ s R) (QE P σ s R) s₅) (.ref s₄.heap.objs.size) { s₄ with heap := s₄.heap.push { cls := .type "slice", data := .fields #[vl, vh, st] } }) (QE P σ s R) s₃) a₂ (sim_part hxh hh c n env A σ₂ loc hp₂ s₂ C (I.after a₂) (bind_ok hb)) hb ?_
  intro hv hp₃ σ₃ vh s₃ a₃ a₂₃ rh hb
  refine wpAny_evalPart_none ?_
  have rv' := RV.grows a₂₃.gr _ _ (RV.grows a₁₂.gr _ _ rv)
  have rl' := RV.grows a₂₃.gr _ _ rl
  have S₄ := a₃.st.push (slObj vl vh)
  have g₄ : Grows σ₃ σ₃ [] s₃.heap (s₃.heap.push (slObj vl vh)) := .push _
  refine xEEA (slice_type (s := { s₃ with heap := s₃.heap.push (slObj vl vh) }) S₄ (RV.grows g₄ _ _ rv') hb) fun T id hT hlk => ?_
  exact sub_tail hT hlk (wpAny_mono (slice_prim a₃.st rv' rl' rh hb) (fun _ _ q => q.lift a₃) (fun _ _ q => q))
end
end
section
open PySem PySem.Spec PyProof.Rows PySem.SeqAt
noncomputable def IterAt (P : Par) (h : Heap) (σ : Sg) (it : Addr) (src : AV) (i : Nat) : Prop := match src with
  | .rng a b s => IsRangeIter h it (a + s * i) ((rngLen a b s : Int) - i) s
  | .str x => ∃ t, h.IsStrIter it "str_ascii_iterator" ⟨x.toArray⟩ t i
  | .tup xs => ∃ a ws n, ObjAt h a (.type "tuple") (.seq ws n) /\ RVs P.B h σ xs ws.toList /\ h.IsTupleIter it a i
  | .loc j => ∃ a off, σ[j]? = some (a, off) /\ h.IsListIter it a i
  | _ => False
noncomputable def owners : List String := ["enumerate", "zip", "dict_itemiterator", "dict_reverseitemiterator", "odict_iterator", "itertools.zip_longest", "itertools.pairwise"]
noncomputable def iterClass (T : String) : Prop := T ≠ "range" /\ owners.contains T = false
noncomputable def IterObj (h : Heap) (it : Addr) : Prop := ∃ o T fs, h.get? it = some o /\ o.cls = .type T /\ iterClass T /\ o.data = .fields fs
theorem IterObj.notFixed (x : IterObj h it) : ∃ o, h.get? it = some o /\ ¬ fixed o := by
  refine xEEEAAA x fun o T fs ho hc ht hd => ?_
  refine ⟨o, ho, ?_⟩
  unfold fixed
  rw [hd]
  dsimp only
  rw [hc]
  exact fun e => ht.1 (Value.type.inj e)
section
variable {P : Par} {cx : Cx} {A : Around} {E : Value -> Shared -> Prop} {σ : Sg} {hp : AHeap} {s : Shared}
theorem IterAt.obj (x : IterAt P h σ it src i) : IterObj h it := by
  have ne : ∀ T : String, T ≠ "range" -> owners.contains T = false -> iterClass T := fun T a b => ⟨a, b⟩
  rcases src with _ | _
  case rng => exact ⟨_, _, _, x, rfl, ne _ (by decide) (by decide), rfl⟩
  case tup => refine xEEEAAEAA x fun _ _ _ _ _ o h1 h2 h3 => ?_; exact ⟨o, _, _, h1, h2, ne _ (by decide) (by decide), h3⟩
  case str => refine xEEAA x fun _ o h1 h2 h3 => ?_; exact ⟨o, _, _, h1, h2, ne _ (by decide) (by decide), h3⟩
  case loc => refine xEEAEAA x fun _ _ _ o h1 h2 h3 => ?_; exact ⟨o, _, _, h1, h2, ne _ (by decide) (by decide), h3⟩
  all_goals exact x.elim
theorem IterAt.keep {X : List Addr} (g : Grows σ σ' X h h') (hq : h'.get? it = h.get? it) (x : IterAt P h σ it src i) : IterAt P h' σ' it src i := by
  rcases src with _ | _
  case rng => exact hq.trans x
  case tup => refine xEEEAAEA x fun a ws n h1 h2 o h3 h4 => ?_; exact ⟨a, ws, n, objAt_fix g h1 (fun _ hc hd => fixed_tuple hc hd), RVs.grows g _ _ h2, o, hq.trans h3, h4⟩
  case str => refine xEEA x fun t o h3 h4 => ?_; exact ⟨t, o, hq.trans h3, h4⟩
  case loc => refine xEEAEA x fun a off h1 o h3 h4 => ?_; exact ⟨a, off, g.look h1, o, hq.trans h3, h4⟩
  all_goals exact x.elim
theorem After.extBut {X : List Addr} (a : After P σ σ' X hp s₀ s) (hs : Heap.ExtBut it s.heap h') (h0 : s₀.heap.get? it = none) (hσ : it ∉ σ'.map (·.1)) (hb : P.B.h₀.get? it = none) (ho : ∃ o, s.heap.get? it = some o /\ ¬ fixed o) :
    After P σ σ' X hp s₀ { s with heap := h', toks := t } /\ (∀ x v, RV P.B s.heap σ' x v -> RV P.B h' σ' x v) /\ (∀ b o, b ≠ it -> s.heap.get? b = some o -> h'.get? b = some o) := by
  refine xEA ho fun o e hf => ?_
  have hne : ∀ b ob, s.heap.get? b = some ob -> fixed ob -> b ≠ it := fun b ob e' f q => by subst q; rw [e] at e'; cases e'; exact hf f
  -- as if the iterator might turn
  have hx : ∀ x v, RV P.B s.heap σ' x v -> RV P.B h' σ' x v := by
    have hfix : ∀ b ob, s.heap.get? b = some ob -> fixed ob -> h'.get? b = some ob := fun b ob e' f => hs b ob (hne b ob e' f) e'
    intro x v r
    exact RV.fixes (fun b ob e' f => hfix b ob e' f) x v r
  refine ⟨⟨by rw [a.ctl], ?_, ?_⟩, hx, fun b o hb' e' => hs b o hb' e'⟩
  . refine ⟨a.st.len, a.st.nd, fun n b off ob e1 e2 => ?_, fun b ob e' => ?_, a.st.new⟩
    . have hbi : b ≠ it := fun q => by subst q; exact hσ (List.mem_map_of_mem (f := (·.1)) (List.mem_of_getElem? e1))
      refine xEA (a.st.there (List.mem_of_getElem? e1)) fun o' e3 _ => ?_
      exact RO.fixes (fun b ob e' f => hs b ob (hne b ob e' f) e') ((hs b o' hbi e3).trans e3.symm) (a.st.obj n b off ob e1 e2)
    . have hbi : b ≠ it := fun q => by subst q; rw [hb] at e'; cases e'
      exact hs b ob hbi (a.st.base b ob e')
  . refine ⟨a.gr.ext, fun b ob e' f => ?_, fun b ob e' h1 h2 => ?_, fun b ob e' => ?_⟩
    . have hbi : b ≠ it := fun q => by subst q; rw [h0] at e'; cases e'
      exact hs b ob hbi (a.gr.fix b ob e' f)
    . have hbi : b ≠ it := fun q => by subst q; rw [h0] at e'; cases e'
      have nn := a.gr.oth b ob e' h1 h2
      refine xEA nn.get fun o' e1 _ => ?_
      rw [e1] at nn
      show Near ob (h'.get? b)
      rw [hs b o' hbi e1]; exact nn
    . have hbi : b ≠ it := fun q => by subst q; rw [h0] at e'; cases e'
      refine xE (a.gr.ex b ob e') fun o' e1 => ?_
      exact ⟨o', hs b o' hbi e1⟩
theorem rng_len (hc : c = 1 \/ c = -1) : Builtin.Range.rangeSize a b c = (rngLen a b c : Int) := by
  unfold Builtin.Range.rangeSize rngLen
  rcases hc with rfl | rfl
  . simp
    split <;> lia
  . simp
    split <;> lia
theorem fits_long (h : x.natAbs <= 3000000) : Builtin.Range.rangeFitsLong x = true := by
  unfold Builtin.Range.rangeFitsLong
  rw [Bool.and_eq_true]
  exact ⟨decide_eq_true (by lia), decide_eq_true (by omega)⟩
theorem rng_small (hc : c = 1 \/ c = -1) (ha : a.natAbs <= sizeLim) (hb : b.natAbs <= sizeLim) : Builtin.Range.small a b c = true := by
  have hl : sizeLim = 1048576 := rfl
  have hr := rng_len (a := a) (b := b) hc
  have hlen : rngLen a b c <= 3000000 := by unfold rngLen; rcases hc with rfl | rfl <;> simp <;> omega
  unfold Builtin.Range.small
  rw [hr]
  have fb := fits_long (Nat.le_trans hb (by decide))
  rw [fits_long (Nat.le_trans ha (by decide)), fb, fits_long (x := c) (by rcases hc with rfl | rfl <;> decide), fits_long (x := (rngLen a b c : Int)) hlen]
  simp only [Bool.true_and, Bool.or_eq_true]
  right
  rcases hc with rfl | rfl
  . simp [fb]
  . simp [fb]
inductive Items (hp : AHeap) : AV -> List AV -> Prop
  | tup (xs : List AV) : Items hp (.tup xs) xs
  | lst (j : Nat) (xs : List AV) (hj : hp[j]? = some (.list xs)) : Items hp (.loc j) xs
  | str (x : List Nat) (h : x.all (fun c => decide (c < 128)) = true) : Items hp (.str x) (x.map fun c => .str [c])
  | rng (a b c : Int) (hc : c = 1 \/ c = -1) (h1 : a.natAbs <= sizeLim) (h2 : b.natAbs <= sizeLim) : Items hp (.rng a b c) (rngItems a b c)
theorem items_or (hi : itemsAV src hp = some xs) : Items hp src xs := by
  rcases src with _ | _
  case tup ys => cases (show some ys = some xs from hi); exact .tup _
  case loc j => exact .lst j xs (listAt_is hi)
  case str x =>
    by_cases hc : x.all (fun c => decide (c < 128)) = true
    . cases (show some (x.map fun c => AV.str [c]) = some xs from (if_pos hc).symm.trans hi); exact .str x hc
    . exact none_ne ((if_neg hc).symm.trans hi)
  case rng a b c =>
    by_cases hc : (c = 1 \/ c = -1) /\ a.natAbs <= sizeLim /\ b.natAbs <= sizeLim
    . cases (show some (rngItems a b c) = some xs from (if_pos hc).symm.trans hi); exact .rng a b c hc.1 hc.2.1 hc.2.2
    . exact none_ne ((if_neg hc).symm.trans hi)
  all_goals exact none_ne hi
theorem iter_prim (ok : P.Ok) (S : St P.w P.B σ hp s.heap) (ra : RV P.B s.heap σ src v) (hi : itemsAV src hp = some xs)
    (h : ∀ it s', s.heap.get? it = none -> it ∉ σ.map (·.1) -> P.B.h₀.get? it = none -> After P σ σ [] hp s s' -> IterAt P s'.heap σ it src 0 -> Q (.ref it) s') : wpAny (model P.prog P.w) A (pyIter v) Q E s := by
  have push : ∀ (o : Obj), After P σ σ [] hp s { s with heap := s.heap.push o } := fun o => ⟨rfl, S.push o, .push o⟩
  have fin : ∀ (o : Obj), IterAt P (s.heap.push o) σ s.heap.objs.size src 0 -> Q (.ref s.heap.objs.size) { s with heap := s.heap.push o } := fun o hit =>
    h s.heap.objs.size _ (free_size _) S.fresh S.base.fresh (push o) hit
  cases items_or hi with
  | tup xs =>
    refine xEEEAA ra fun a ws n qq1 o rx => ?_; try clear ra; subst qq1
    have g := (push { cls := .type "tuple_iterator", data := .fields #[.ref a, .int 0 0] }).gr
    exact wpAny_pyIter_tuple (isTuple_of o) (fin _ ⟨a, ws, n, Heap.get?_push_of_some _ o, RVs.grows g _ _ rx, _, Heap.get?_push_size _ rfl, rfl, rfl⟩)
  | lst j xs hj =>
    refine xEEA ra fun a off qq1 e1 => ?_; try clear ra; subst qq1
    refine xEEA (S.isL hj e1) fun ws k hl _ => ?_
    exact wpAny_pyIter_list (isList_of hl) (fin _ ⟨a, off, e1, _, Heap.get?_push_size _ rfl, rfl, rfl⟩)
  | str x hx =>
    refine xE ra fun t qq1 => ?_; try clear ra; subst qq1
    have ha : x.toArray.all (· < 128) = true := by rw [List.all_toArray]; exact hx
    exact wpAny_pyIter_ascii ha (fin _ ⟨t, _, Heap.get?_push_size _ rfl, rfl, rfl⟩)
  | rng a b c hc h1 h2 =>
    refine xEEEEA ra fun r t u x qq1 hr => ?_; try clear ra; subst qq1
    refine wpAny_pyIter_range hr (rng_small hc h1 h2) (fin _ ?_)
    rw [rng_len hc]
    show IsRangeIter _ _ (a + c * ((0 : Nat) : Int)) ((rngLen a b c : Int) - ((0 : Nat) : Int)) c
    rw [show c * ((0 : Nat) : Int) = 0 from Int.mul_zero c, Int.add_zero, show (rngLen a b c : Int) - ((0 : Nat) : Int) = rngLen a b c from Int.sub_zero _]
    exact Heap.get?_push_size _ rfl
theorem next_is (hn : nextAt src i hp = some r) : ∃ xs, itemsAV src hp = some xs /\ xs[i]? = r := Option.map_eq_some_iff.mp hn
structure NextQ (P : Par) (σ : Sg) (s : Shared) (it : Addr) (src : AV) (i : Nat) (r : Option AV) (Q : Option Value -> Shared -> Prop) : Prop where
  fin : r = none -> ∀ h', Heap.ExtBut it s.heap h' -> Q none { s with heap := h' }
  item : ∀ av v h' t, r = some av -> RV P.B s.heap σ av v -> Heap.ExtBut it s.heap h' -> (∀ (g : Fixes s.heap h'), IterAt P h' σ it src (i + 1)) -> Q (some v) { s with heap := h', toks := t }
section
variable {it a : Addr} {i n : Nat} {Q : Option Value -> Shared -> Prop} {xs : List AV} {ws : Array Value}
theorem none_at (rx : RVs P.B s.heap σ xs ws.toList) (h : xs[i]? = none) : ws[i]? = none :=
  Array.getElem?_eq_none (Nat.le_trans (Nat.le_of_eq rx.size.symm) (List.getElem?_eq_none_iff.mp h))
theorem next_tupP (hh : A.handled = none) (o : ObjAt s.heap a (.type "tuple") (.seq ws n)) (rx : RVs P.B s.heap σ xs ws.toList) (hI : s.heap.IsTupleIter it a i) (N : NextQ P σ s it (.tup xs) i xs[i]? Q) : wpAny (model P.prog P.w) A (pyNext (.ref it)) Q E s := by
  rcases hc : xs[i]? with _ | av
  case none => exact wpAny_pyNext_tuple_end hh hI (isTuple_of o) (none_at rx hc) (N.fin hc)
  case some =>
    refine xEA (rx.get hc) fun v e1 rv => ?_
    rw [Array.getElem?_toList] at e1
    exact wpAny_pyNext_tuple_item hI (isTuple_of o) e1 fun h' hI' hs => N.item av v h' s.toks hc rv hs.extBut fun g => ⟨a, ws, n, g a _ o (fixed_tuple rfl rfl), RVs.fixes g _ _ rx, hI'⟩
theorem next_lstP (hh : A.handled = none) (e1 : σ[j]? = some (a, off)) (hl : IsL s.heap a ws n) (rx : RVs P.B s.heap σ xs ws.toList) (hI : s.heap.IsListIter it a i) (N : NextQ P σ s it (.loc j) i xs[i]? Q) : wpAny (model P.prog P.w) A (pyNext (.ref it)) Q E s := by
  rcases hc : xs[i]? with _ | av
  case none => exact wpAny_pyNext_list_end hh hI (isList_of hl) (none_at rx hc) (N.fin hc)
  case some =>
    refine xEA (rx.get hc) fun v e2 rv => ?_
    rw [Array.getElem?_toList] at e2
    exact wpAny_pyNext_list_item hI (isList_of hl) e2 fun h' hI' hs => N.item av v h' s.toks hc rv hs.extBut fun g => ⟨a, off, e1, hI'⟩
theorem next_strP (hh : A.handled = none) (hI : s.heap.IsStrIter it "str_ascii_iterator" ⟨x.toArray⟩ t i) (N : NextQ P σ s it (.str x) i (x.map fun c => AV.str [c])[i]? Q) : wpAny (model P.prog P.w) A (pyNext (.ref it)) Q E s := by
  rw [List.getElem?_map] at N
  rcases hc : x[i]? with _ | c
  case none =>
    rw [hc] at N
    exact wpAny_pyNext_ascii_end hh hI ((List.getElem?_toArray ..).trans hc) (N.fin rfl)
  case some =>
    rw [hc] at N
    exact wpAny_pyNext_ascii_item hI (c := c) ((List.getElem?_toArray ..).trans hc) (fun h' hI' hs => N.item (.str [c]) _ h' _ rfl ⟨_, rfl⟩ hs.extBut fun _ => ⟨t, hI'⟩)
theorem next_rngP (hh : A.handled = none) (hit : IsRangeIter s.heap it (x + c * i) ((rngLen x y c : Int) - i) c) (N : NextQ P σ s it (.rng x y c) i (rngItems x y c)[i]? Q) : wpAny (model P.prog P.w) A (pyNext (.ref it)) Q E s := by
  have hget : (rngItems x y c)[i]? = ((List.range (rngLen x y c))[i]?).map fun (k : Nat) => AV.int (x + c * k) := List.getElem?_map ..
  rcases Nat.lt_or_ge i (rngLen x y c) with hlt | hge
  . rw [List.getElem?_range hlt] at hget
    refine wpAny_pyNext_range_item hit (by lia) fun h' hI' hs => N.item _ _ h' _ hget ⟨_, rfl⟩ hs.extBut fun g => ?_
    show IsRangeIter h' it (x + c * ((i + 1 : Nat) : Int)) ((rngLen x y c : Int) - ((i + 1 : Nat) : Int)) c
    rw [Int.natCast_add, Int.mul_add, <- Int.add_assoc, <- Int.sub_sub]
    have e1 : c * ((1 : Nat) : Int) = c := Int.mul_one c
    rw [e1]
    exact hI'
  . rw [List.getElem?_eq_none (l := List.range (rngLen x y c)) (by rw [List.length_range]; exact hge)] at hget
    exact wpAny_pyNext_range_end hh hit (by lia) (N.fin hget)
end
theorem next_prim (S : St P.w P.B σ hp s.heap) (hh : A.handled = none) (hit : IterAt P s.heap σ it src i) (hn : nextAt src i hp = some r)
    (hend : r = none -> ∀ h', Heap.ExtBut it s.heap h' -> Q none { s with heap := h' })
    (hitem : ∀ av v h' t, r = some av -> RV P.B s.heap σ av v -> Heap.ExtBut it s.heap h' -> (∀ (g : Fixes s.heap h'), IterAt P h' σ it src (i + 1)) -> Q (some v) { s with heap := h', toks := t }) :
    wpAny (model P.prog P.w) A (pyNext (.ref it)) Q E s := by
  have N : NextQ P σ s it src i r Q := ⟨hend, hitem⟩
  refine xEA (next_is hn) fun xs hx qq1 => ?_; subst qq1
  cases items_or hx with
  | tup xs =>
    refine xEEEAA hit fun a ws n o rx hI => ?_
    exact next_tupP hh o rx hI N
  | lst j xs hj =>
    refine xEEA hit fun a off e1 hI => ?_
    refine xEEA (S.isL hj e1) fun ws k hl rx => ?_
    exact next_lstP hh e1 hl rx hI N
  | str x hx =>
    refine xE hit fun t hI => ?_
    exact next_strP hh hI N
  | rng a b c hc h1 h2 => exact next_rngP hh hit N
end
end
section
open PySem PySem.Spec PyProof.Rows PySem.SeqAt
section
variable {P : Par} {σ : Sg} {hp : AHeap} {s : Shared} {A : Around}
theorem keysL_at {h : Heap} : ∀ {xs : List AV} {ks : List Key} {vs : List Value}, keysL xs = some ks -> RVs P.B h σ xs vs -> ks.length = vs.length /\ ∀ (j : Nat) (v : Value) (k : Key), vs[j]? = some v -> ks[j]? = some k -> RV P.B h σ k.av v
  | [], _, [], e, _ => by cases e; exact ⟨rfl, fun j v k h => nomatch h⟩
  | x :: xs, ks, v :: vs, e, r => by
    refine xEA (Option.bind_eq_some_iff.mp e) fun k hk e => ?_
    refine xEA (Option.bind_eq_some_iff.mp e) fun ks' hks e => ?_
    rcases Option.some.inj e with rfl
    refine xA (keysL_at hks r.2) fun hl hr => ?_
    refine ⟨congrArg (· + 1) hl, fun j v' k' hv hk' => ?_⟩
    rcases j with _ | j
    . rcases Option.some.inj hv with rfl
      rcases Option.some.inj hk' with rfl
      have := key_av hk
      subst this
      exact r.1
    . exact hr j v' k' hv hk'
  | [], _, _ :: _, _, r => r.elim
  | _ :: _, _, [], _, r => r.elim
theorem set_kind {ks : List Key} (h : setOk ks = true) : (ks.Nodup /\ ks.length <= 70) /\ ∃ Kd : SetK P.prog P.w, ∀ (h : Heap) (k : Key) (v : Value), k ∈ ks -> RV P.B h σ k.av v -> Kd.is h k v := by
  unfold setOk at h
  rw [Bool.and_eq_true, Bool.and_eq_true, Bool.or_eq_true, decide_eq_true_eq, decide_eq_true_eq] at h
  refine ⟨⟨h.1.2, h.2⟩, ?_⟩
  rcases h.1.1 with q | q
  . refine ⟨strSets _ _, fun h k v hk r => ?_⟩
    have := List.all_eq_true.mp q k hk
    rcases k with x | ⟨a, b⟩
    . exact xE r fun t e => ⟨x, t, rfl, e⟩
    . exact nomatch this
  . refine ⟨pairSets _ _, fun h k v hk r => ?_⟩
    have hs := List.all_eq_true.mp q k hk
    refine ⟨hs, xEEA (seatKey_is hs) fun a b e _ => ?_⟩
    subst e
    exact xEA (key_tuple (P := P) r) fun c e ht => ⟨a, b, c, rfl, e, ht⟩
theorem set_prim (S : St P.w P.B σ hp s.heap) (hh : A.handled = none) (hu : A.units + 7 < cLine) (rv : RV P.B s.heap σ (.loc j) v) (hb : setO ((listAt hp j).bind keysL) hp ≠ .bad) {E : Value -> Shared -> Prop} :
    wpAny (model P.prog P.w) A (call (.type "set") [v]) (QV P σ s (setO ((listAt hp j).bind keysL) hp)) E s := by
  rcases hk : (listAt hp j).bind keysL with _ | ks <;> rw [hk] at hb
  . exact absurd rfl hb
  have hok := pos_if (c := setOk ks = true) hb
  rw [show setO (some ks) hp = .ok (.loc hp.length) (hp ++ [.set ks.length]) from if_pos hok]
  refine xEA (Option.bind_eq_some_iff.mp hk) fun xs hx hks => ?_
  refine xEEA rv fun a off qq1 e1 => ?_; try clear rv; subst qq1
  refine xEEA (S.isL (listAt_is hx) e1) fun ws m hL rx => ?_
  refine xA (keysL_at (P := P) hks rx) fun hl hr => ?_
  refine xAE (set_kind (P := P) (σ := σ) hok) fun hnd Kd hKd => ?_
  refine call_set (Kd := Kd) (ks := ks) ⟨isList_of hL, hl.trans Array.length_toList, hnd.1, hnd.2, fun h' hx' j v k hv hk' => hKd h' k v (List.mem_of_getElem? hk') (RV.fixes (fun b o e _ => hx' b o e) _ _ (hr j v k (by rw [Array.getElem?_toList]; exact hv) hk'))⟩ hh hu fun s' hm => ?_
  refine xEEEAAA hm fun h' tk o hs hx' ho hH => ?_
  subst hs
  have hS : St P.w P.B (σ ++ [(s.heap.objs.size, 0)]) (hp ++ [.set ks.length]) h' := (S.keep hx').adopt S.fresh S.base.fresh fun _ => ⟨o, ho, Kd.len hH hnd.2⟩
  refine ⟨_, _, _, rfl, ⟨rfl, hS, (grows_keep hx').adopt (free_size _)⟩, _, 0, rfl, ?_⟩
  rw [<- S.len]
  exact List.getElem?_concat_length
theorem minL_is (h : minL xs = some r) : (∃ x, xs = [.int x] /\ r = .int x) \/ ∃ x y, xs = [.int x, .int y] /\ r = .int (if y < x then y else x) := by
  rcases xs with _ | ⟨x, q⟩
  . exact none_ne h
  refine xEA (Option.bind_eq_some_iff.mp h) fun a ha h => ?_
  have := intOf_is ha
  subst this
  rcases q with _ | ⟨y, q⟩
  . exact .inl ⟨a, rfl, (Option.some.inj h).symm⟩
  rcases q with _ | ⟨z, q⟩
  . refine xEA (Option.map_eq_some_iff.mp h) fun b hb e => ?_
    have := intOf_is hb
    subst this
    exact .inr ⟨a, b, rfl, e.symm⟩
  . exact none_ne h
theorem min_prim (S : St P.w P.B σ hp s.heap) (hh : A.handled = none) (rv : RV P.B s.heap σ (.loc j) v) (hb : okO ((listAt hp j).bind minL) hp ≠ .bad) {E : Value -> Shared -> Prop} :
    wpAny (model P.prog P.w) A (call (.builtin "min") [v]) (QV P σ s (okO ((listAt hp j).bind minL) hp)) E s := by
  refine xE (okO_is hb) fun r hr => ?_
  rw [hr]
  refine xEA (Option.bind_eq_some_iff.mp hr) fun xs hx hm => ?_
  refine xEEA rv fun a off qq1 e1 => ?_; try clear rv; subst qq1
  refine xEEA (S.isL (listAt_is hx) e1) fun ws m hL rx => ?_
  obtain ⟨wl⟩ := ws
  replace rx : RVs P.B s.heap σ xs wl := rx
  rcases minL_is hm with ⟨x, rfl, rfl⟩ | ⟨x, y, rfl, rfl⟩
  . refine xEAE rx.one fun _ qq1 t qq2 => ?_; subst qq1; subst qq2
    refine min_intList (xs := #[(x, t)]) hh (by rw [show intItems #[(x, t)] = ⟨[.int x t]⟩ by simp [intItems]]; exact isList_of hL) (Nat.succ_pos _) fun v h' tk hv hk => ?_
    refine xE (intItems_at hv) fun t' qq1 => ?_; subst qq1
    exact ⟨_, _, _, rfl, ⟨rfl, S.keep hk, grows_keep hk⟩, t', rfl⟩
  . refine xEEAA rx.cons fun _ _ qq1 qq2 rx2 => ?_; subst qq1; refine xE qq2 fun t qq1 => ?_; try clear qq2; subst qq1
    refine xEAE rx2.one fun _ qq1 u qq2 => ?_; subst qq1; subst qq2
    refine min_intList (xs := #[(x, t), (y, u)]) hh (by rw [show intItems #[(x, t), (y, u)] = ⟨[.int x t, .int y u]⟩ by simp [intItems]]; exact isList_of hL) (Nat.succ_pos _) fun v h' tk hv hk => ?_
    refine xE (intItems_at hv) fun t' qq1 => ?_; subst qq1
    refine ⟨_, _, _, rfl, ⟨rfl, S.keep hk, grows_keep hk⟩, t', ?_⟩
    show Value.int (numAt #[(x, t), (y, u)] (if decide (y < x) = true then 1 else 0)) t' = .int (if y < x then y else x) t'
    by_cases hxy : y < x
    . rw [if_pos (decide_eq_true hxy), if_pos hxy]; rfl
    . rw [if_neg (by rw [decide_eq_false hxy]; exact Bool.false_ne_true), if_neg hxy]; rfl
end
end
section
open PySem PySem.Spec PyProof.Rows PySem.SeqAt
theorem opt_bind {α β : Type} {a : Option α} {f : α -> Option β} {b : β} (h : (a >>= f) = some b) : ∃ x, a = some x /\ f x = some b := Option.bind_eq_some_iff.mp h
theorem opt_pure {α : Type} {a b : α} (h : (pure a : Option α) = some b) : a = b := Option.some.inj h
theorem plain_es {cx : Cx} {k : Nat} : ∀ {es : List Expr} {xs : Xs}, compEs (compE k cx) es = some xs -> ∀ env pos, (backTo pos (starEach es env)).any (·.1) = false
  | [], _, _, _, _ => rfl
  | e :: es, xs, h, env, pos => by
    refine xEA (opt_bind h) fun x hx h => ?_
    refine xEA (opt_bind h) fun ys hy _ => ?_
    rw [not_starred hx env es]
    exact plain_es hy env pos
section
variable {P : Par} {cx : Cx}
theorem evalArgs_es (hp : (backTo pos (starEach es env)).any (·.1) = false)
    (h : wpAny (model P.prog P.w) A (spliced (backTo pos (starEach es env))) (fun vs s' => Q ⟨vs, []⟩ s') E s) : wpAny (model P.prog P.w) A (evalArgs f true (backTo pos (starEach es env)) []) Q E s := by
  rcases hb : backTo pos (starEach es env) with _ | ⟨p, r⟩
  case nil =>
    rw [hb] at h
    unfold evalArgs
    show wpAny _ _ (spliced [] >>= _) Q E s
    refine wpAny_bind (wpAny_mono h (fun vs s' h' => ?_) fun _ _ x => x)
    refine wpAny_holding ?_
    exact wpAny_bind (wpAny_pure (wpAny_bind (wpAny_pure (wpAny_pure h'))))
  case cons =>
    obtain ⟨b, t⟩ := p
    rw [hb] at hp h
    simp only [List.any_cons, Bool.or_eq_false_iff] at hp
    have : b = false := hp.1
    subst this
    exact Calls.evalArgs_plain h
theorem load_glob (C : Sims P cx c n) (I : Inv P cx n c.q env A σ l hp s) (hg : cx.isGlob x = true) (hv : P.mg x = some v) (h : Q v s) :
    wpAny (model P.prog P.w) A (eval (.Name x pos) env) Q E s := by
  refine xA (glob_plain hg) fun hd _ => ?_
  refine wpAny_Name ?_ hd
  rw [loadName_read I.fr.kind (I.fr.glob x hg)]
  have hn : s.heap.Ns env.globals P.mg := by rw [I.fr.globals]; exact C.ok.g.keeps I.st.base
  exact Calls.loadGlobal_global hn hv h
theorem load_blt (C : Sims P cx c n) (I : Inv P cx n c.q env A σ l hp s) (hg : cx.isGlob x = true) (hv : (x, v) ∈ bltPairs) (h : Q v s) :
    wpAny (model P.prog P.w) A (eval (.Name x pos) env) Q E s := by
  refine xA (glob_plain hg) fun hd _ => ?_
  refine wpAny_Name ?_ hd
  rw [loadName_read I.fr.kind (I.fr.glob x hg)]
  have hn : s.heap.Ns env.globals P.mg := by rw [I.fr.globals]; exact C.ok.g.keeps I.st.base
  have hb : s.heap.Ns env.builtins P.mb := by rw [I.fr.builtins]; exact C.ok.b.keeps I.st.base
  refine xA (C.ok.blt x v hv) fun h1 h2 => ?_
  exact Calls.loadGlobal_builtin hn h1 hb h2 h
theorem call_eq : eval (.Call (.Name f p) es [] pos) env = (eval (.Name f p) env >>= fun fv => callWith pos fv [] (backTo pos (starEach es env)) []) := rfl
theorem sim_call (hg : cx.isGlob f = true) (hf : cx.funs.contains f = true) (hm : cx.meths.contains f = false) (hc : compEs (compE k cx) es = some xs) (h : SimEs P cx es xs) : SimE P cx (.Call (.Name f p) es [] pos) (.call f xs) := by
  intro c n env A σ loc hp s C I hb
  rw [x_call] at hb |-
  rw [call_eq]
  refine xEEEAAAA (C.f f hf) fun a o fd hm2 ho _ hd hcall => ?_
  have hm : P.mg f = some (.ref a) := by
    unfold Par.fn at hm2
    rw [<- C.meths, hm] at hm2
    exact hm2
  refine wpAny_bind (load_glob C I hg hm (Calls.callWith_function (o := o) (fd := fd) (evalArgs_es (plain_es hc env pos) (seqVs (G := fun R vs s₁ => (s₁.heap.get? a = some o /\ o.data = .func fd) /\ wpAny (model P.prog P.w) A (call (.ref a) ([] ++ vs) []) (QV P σ s R) (QE P σ s R) s₁) (.refl I.st) (h c n env A σ loc hp s pos C I (bind_ok hb)) hb ?_))))
  intro avs hp₁ σ₁ vs s₁ a₁ _ rv hb
  refine ⟨⟨a₁.st.base a o ho, hd⟩, ?_⟩
  exact wpAny_mono (hcall avs vs σ₁ hp₁ s₁ A a₁.st rv I.ar.toArndC (I.fs.after a₁.gr) hb) (fun _ _ q => q.lift a₁) (fun _ _ q => q.lift a₁)
noncomputable def Prim (P : Par) (st : Bool) (v : Value) (r : List AV -> AHeap -> Res AV) : Prop :=
  ∀ n q A σ hp s avs vs, P.Ok -> Arnd n q A -> (st = true -> q = false) -> St P.w P.B σ hp s.heap -> RVs P.B s.heap σ avs vs -> r avs hp ≠ .bad -> wpAny (model P.prog P.w) A (call v vs) (QV P σ s (r avs hp)) NE s
theorem sim_fn {id : String} {st : Bool} (hx : ∀ c l h, evalX c x l h = (evalXs c xs l h).bind fun vs h => if st && c.q then .bad else r vs h) (hv : (f, Value.builtin id) ∈ bltPairs) (H : Prim P st (.builtin id) r)
    (hg : cx.isGlob f = true) (hc : compEs (compE k cx) es = some xs) (h : SimEs P cx es xs) : SimE P cx (.Call (.Name f p) es [] pos) x := by
  intro c n env A σ loc hp s C I hb
  rw [hx] at hb |-
  rw [call_eq]
  refine wpAny_bind (load_blt C I hg hv (Calls.callWith_builtin (plain_es hc env pos) (evalArgs_es (plain_es hc env pos) (seqVs (G := fun R vs s₁ => wpAny (model P.prog P.w) A (call (.builtin id) ([] ++ vs) []) (QV P σ s R) (QE P σ s R) s₁) (.refl I.st) (h c n env A σ loc hp s pos C I (bind_ok hb)) hb ?_))))
  intro avs hp₁ σ₁ vs s₁ a₁ _ rv hb
  have hq := neg_if hb
  rw [if_neg hq] at hb |-
  exact wpAny_mono (H n c.q A σ₁ hp₁ s₁ avs vs C.ok I.ar (fun h => by rw [h, Bool.true_and, Bool.not_eq_true] at hq; exact hq) a₁.st rv hb) (fun _ _ q => q.lift a₁) (fun _ _ q => q.elim)
theorem sim_ty {id : String} {st : Bool} (hx : ∀ c l h, evalX c x l h = (evalXs c xs l h).bind fun vs h => if st && c.q then .bad else r vs h) (hv : (f, Value.type id) ∈ bltPairs) (H : Prim P st (.type id) r)
    (hg : cx.isGlob f = true) (hc : compEs (compE k cx) es = some xs) (h : SimEs P cx es xs) : SimE P cx (.Call (.Name f p) es [] pos) x := by
  intro c n env A σ loc hp s C I hb
  rw [hx] at hb |-
  rw [call_eq]
  refine wpAny_bind (load_blt C I hg hv (PySem.callWith_type (plain_es hc env pos) (evalArgs_es (plain_es hc env pos) (seqVs (G := fun R vs s₁ => wpAny (model P.prog P.w) A (call (.type id) ([] ++ vs) []) (QV P σ s R) (QE P σ s R) s₁) (.refl I.st) (h c n env A σ loc hp s pos C I (bind_ok hb)) hb ?_))))
  intro avs hp₁ σ₁ vs s₁ a₁ _ rv hb
  have hq := neg_if hb
  rw [if_neg hq] at hb |-
  exact wpAny_mono (H n c.q A σ₁ hp₁ s₁ avs vs C.ok I.ar (fun h => by rw [h, Bool.true_and, Bool.not_eq_true] at hq; exact hq) a₁.st rv hb) (fun _ _ q => q.lift a₁) (fun _ _ q => q.elim)
theorem bi_one (hb : biAV b as h ≠ .bad) : ∃ a, as = [a] := by
  rcases as with _ | ⟨a, r⟩
  case nil => exact absurd rfl hb
  case cons =>
    rcases r with _ | ⟨c, r⟩
    case nil => exact ⟨a, rfl⟩
    case cons => exact absurd rfl hb
theorem prim_len : Prim P false (.builtin "len") (biAV .len) := fun n q A σ hp s avs vs ok ar _ S rv hb => by
  refine xE (bi_one hb) fun a qq1 => ?_; subst qq1
  refine xEA rv.one fun v qq1 rv1 => ?_; subst qq1
  exact len_prim ok S rv1 hb
theorem loc_of (hb : biAV b [a] h ≠ .bad) (hne : b ≠ .len) : ∃ n, a = .loc n := by
  rcases b with _ | _
  . exact absurd rfl hne
  all_goals rcases a with _ | _ <;> first | exact ⟨_, rfl⟩ | exact absurd rfl hb
theorem prim_list : Prim P true (.type "list") (biAV .list) := fun n q A σ hp s avs vs ok ar hq S rv hb => by
  refine xE (bi_one hb) fun a qq1 => ?_; subst qq1
  refine xE (loc_of hb fun q => nomatch q) fun j qq1 => ?_; subst qq1
  refine xEA rv.one fun v qq1 rv1 => ?_; subst qq1
  have hb : newListO (walkOf hp j) hp ≠ .bad := hb
  show wpAny _ _ _ (QV P σ s (newListO (walkOf hp j) hp)) _ _
  refine xEA (newListO_is hb) fun xs hx hb => ?_
  rw [hx]
  exact list_call ok S (ar.handled (hq rfl)) rv1 hx hb
theorem prim_dict : Prim P true (.type "dict") (biAV .dict) := fun n q A σ hp s avs vs ok ar hq S rv hb => by
  refine xE (bi_one hb) fun a qq1 => ?_; subst qq1
  refine xE (loc_of hb fun q => nomatch q) fun j qq1 => ?_; subst qq1
  refine xEA rv.one fun v qq1 rv1 => ?_; subst qq1
  exact copy_prim ok S rv1 hb
theorem prim_set : Prim P true (.type "set") (biAV .set) := fun n q A σ hp s avs vs ok ar hq S rv hb => by
  refine xE (bi_one hb) fun a qq1 => ?_; subst qq1
  refine xE (loc_of hb fun q => nomatch q) fun j qq1 => ?_; subst qq1
  refine xEA rv.one fun v qq1 rv1 => ?_; subst qq1
  exact set_prim S (ar.handled (hq rfl)) (by have := ar.units1; lia) rv1 hb
theorem prim_min : Prim P true (.builtin "min") (biAV .min) := fun n q A σ hp s avs vs ok ar hq S rv hb => by
  refine xE (bi_one hb) fun a qq1 => ?_; subst qq1
  refine xE (loc_of hb fun q => nomatch q) fun j qq1 => ?_; subst qq1
  refine xEA rv.one fun v qq1 rv1 => ?_; subst qq1
  exact min_prim S (ar.handled (hq rfl)) rv1 hb
theorem prim_range : Prim P false (.type "range") (fun vs h => okO (rangeOf vs) h) := fun n q A σ hp s avs vs ok ar _ S rv hb => by
  refine xE (okO_is hb) fun r hr => ?_
  show wpAny _ _ _ (QV P σ s (okO (rangeOf avs) hp)) _ _
  rw [hr]
  exact range_prim S ok ar rv hr
theorem sim_isi (hg : cx.isGlob "isinstance" = true) (hgT : cx.isGlob T = true) (hT : (T, Value.type (tyName t)) ∈ bltPairs) (hs : ∀ env rest, starEach (e :: rest) env = (false, eval e env) :: starEach rest env) (h : SimE P cx e x) :
    SimE P cx (.Call (.Name "isinstance" p) [e, .Name T q] [] pos) (.isi x t) := by
  intro c n env A σ loc hp s C I hb
  rw [x_isi] at hb |-
  rw [call_eq]
  have hplain : (backTo pos (starEach [e, .Name T q] env)).any (·.1) = false := by
    rw [hs]; rfl
  refine wpAny_bind (load_blt C I hg blt_isi (Calls.callWith_builtin hplain (evalArgs_es hplain ?_)))
  refine wpAny_items_cons (seqV (G := fun R v s₁ => wpAny (model P.prog P.w) A (spliced (backTo pos (starEach [.Name T q] env))) (fun vs s₂ => wpAny (model P.prog P.w) A (call (.builtin "isinstance") ([] ++ (v :: vs)) []) (QV P σ s R) (QE P σ s R) s₂) (QE P σ s R) s₁) (.refl I.st) (h c n env A σ loc hp s C I (bind_ok hb)) hb ?_) (hs env _)
  intro av hp₁ σ₁ v s₁ a₁ _ rv hb
  refine wpAny_items_cons (load_blt C (I.after a₁) hgT hT (wpAny_items_nil ?_))
  refine xE (boolO_is hb) fun r hr => ?_
  rw [hr]
  refine wpAny_mono (isi_prim a₁.st rv hr) (fun w s₂ qb => ?_) (fun _ _ q => q)
  obtain ⟨b, rfl, e2, a₂⟩ := qb
  cases e2
  exact ⟨_, _, _, rfl, a₁.trans a₂, rfl⟩
theorem Arnd.make (ar : Arnd n q A) (C : Addr) (vs : List Value) : ArndC n q (A.under (.builtin "type.__call__" ⟨.ref C :: vs, []⟩)) := by
  refine xEEA ar.frame fun f outer hf _ => ?_
  refine ⟨⟨f :: outer, hf⟩, ?_, ?_, ar.handled⟩
  . have := ar.depth1
    rw [depth_under_make]; lia
  . have := ar.units1
    rw [units_under_make]; lia
theorem initOk_is (hb : initOk n r h ≠ .bad) : r = .none /\ initOk n r h = .ok (.loc n) h := by
  have h1 : isNoneAV r = true := pos_if hb
  refine ⟨?_, if_pos h1⟩
  rcases r with _ | _ <;> first | rfl | exact absurd h1 Bool.false_ne_true
theorem new_prim (C : Sims P cx c n) (S : St P.w P.B σ hp s.heap) (ar : Arnd n c.q A) (fs : Frs P s.heap σ A) (rv : RVs P.B s.heap σ avs vs)
    (hb : ((c.F "__init__" (.loc (hp.length + 1) :: avs) (made hp)).bind fun r h' => initOk (hp.length + 1) r h') ≠ .bad) :
    wpAny (model P.prog P.w) A (call (.ref P.B.C) vs) (QV P σ s ((c.F "__init__" (.loc (hp.length + 1) :: avs) (made hp)).bind fun r h' => initOk (hp.length + 1) r h')) (QE P σ s ((c.F "__init__" (.loc (hp.length + 1) :: avs) (made hp)).bind fun r h' => initOk (hp.length + 1) r h')) s := by
  refine xEEEAAAA (C.f "__init__" C.init) fun fI oI fd hm ho hfc hd hcall => ?_
  have hi : P.mN "__init__" = some (.ref fI) := by
    unfold Par.fn at hm
    rw [C.ok.init] at hm
    exact hm
  refine xEEEEEEEEEEEE ((C.ok.cls.keeps S.base).obj) fun nm q bs sn sub col dd k0 k1 k2 k3 k5 hC => ?_
  have ho' := S.base _ _ ho
  have hns := (C.ok.cls.keeps S.base).ns
  obtain ⟨hh, g, d, t, os⟩ := s
  refine born_call PySem.F.objNew hC hns hi ho' (hfc C.ok.init) ?_
  have M := born_made (h := hh) (C := P.B.C)
  have hpl : ∀ o, (bornH hh P.B.C).get? (hh.objs.size + 1) = some o -> ∀ v, o.data ≠ .prim v := fun o ho v => by rw [born_at] at ho; cases ho; exact fun e => nomatch e
  refine xA (St.made (s := ⟨hh, g, d, t, os⟩) S M hpl) fun S' g' => ?_
  have hx : (σ ++ [(hh.objs.size, 0)] ++ [(hh.objs.size + 1, hh.objs.size)])[hp.length + 1]? = some (hh.objs.size + 1, hh.objs.size) := by
    have e : hp.length + 1 = (σ ++ [(hh.objs.size, 0)]).length := by rw [List.length_append, S.len]; rfl
    rw [e]; exact List.getElem?_concat_length
  refine wpAny_mono (hcall (.loc (hp.length + 1) :: avs) (.ref (hh.objs.size + 1) :: vs) _ (made hp) ⟨bornH hh P.B.C, g, d, t, os⟩ _ S' ⟨⟨hh.objs.size + 1, hh.objs.size, rfl, hx⟩, RVs.grows g' _ _ rv⟩ (ar.make P.B.C vs) (fs.after g') (bind_ok hb)) (fun r s' qv => ?_) fun _ _ q => q.bind.lift (After.mk (s := ⟨hh, g, d, t, os⟩) (s' := ⟨bornH hh P.B.C, g, d, t, os⟩) rfl S' g')
  obtain ⟨av, hp₃, σ₃, e, a₃, rr⟩ := qv
  rw [e, bok] at hb |-
  refine xA (initOk_is hb) fun qq1 e2 => ?_; subst qq1
  rw [e2]
  exact ⟨rr, _, _, _, rfl, (After.mk (s := ⟨hh, g, d, t, os⟩) (s' := ⟨bornH hh P.B.C, g, d, t, os⟩) rfl S' g').trans a₃, hh.objs.size + 1, hh.objs.size, rfl, a₃.gr.look hx⟩
theorem sim_new (hg : cx.isGlob cx.cls = true) (hs : ∀ env rest, starEach (e :: rest) env = (false, eval e env) :: starEach rest env) (hc : compEs (compE k cx) (e :: es) = some xs) (h : SimEs P cx (e :: es) xs) :
    SimE P cx (.Call (.Name cx.cls p) (e :: es) [] pos) (.new xs) := by
  intro c n env A σ loc hp s C I hb
  rw [x_new] at hb |-
  rw [call_eq]
  have hpl := plain_es hc env pos
  rw [hs env es] at hpl
  refine wpAny_bind (load_glob C I hg C.cls (callWith_cls C.ok.cls ?_ (hs env es) (Bool.or_eq_false_iff.mp hpl).2))
  refine seqVs (G := fun R vs s₁ => (∀ b o, P.B.h₀.get? b = some o -> s₁.heap.get? b = some o) /\ wpAny (model P.prog P.w) A (call (.ref P.B.C) vs) (QV P σ s R) (QE P σ s R) s₁) (.refl I.st) (h c n env A σ loc hp s pos C I (bind_ok hb)) hb ?_
  intro avs hp₁ σ₁ vs s₁ a₁ _ rv hb
  exact ⟨a₁.st.base, wpAny_mono (new_prim C a₁.st I.ar (I.fs.after a₁.gr) rv hb) (fun _ _ q => q.lift a₁) (fun _ _ q => q.lift a₁)⟩
end
end
section
open PySem PySem.Spec PyProof.Rows PySem.SeqAt
theorem base_plain (h : notSuper o = true) (attr : Str) (env : Env) (whole : Sem Value) : attributeBase o attr env whole = whole := by
  rcases o with _ | _
  case Name => rfl
  case Subscript => rfl
  case Attribute => rfl
  case Call f _ _ _ => rcases f with _ | _ <;> first | rfl | exact absurd h Bool.false_ne_true
  all_goals exact absurd h Bool.false_ne_true
section
variable {P : Par} {cx : Cx}
theorem few_es (hc : compEs (compE k cx) es = some xs) (hl : es.length < 20) (env : Env) (pos : Pos) : ((backTo pos (starEach es env)).all (fun x => !x.1) && (backToKw pos (keywordEach [] env)).all (fun x => x.1.isSome)
      && decide (es.length + ([] : List Keyword).length + (if ([] : List Keyword).isEmpty then 0 else 1) < 30)) = true := by
  have h1 := plain_es hc env pos
  have h2 : (backTo pos (starEach es env)).all (fun x => !x.1) = true := by
    rw [List.all_eq_true]
    intro x hx
    have := List.any_eq_false.mp h1 x hx
    simpa using this
  rw [h2]
  exact decide_eq_true (show es.length + 0 + 0 < 30 from Nat.lt_trans hl (by decide))
theorem meth_gen (I : Inv P cx n qq env A σ loc hp s) {T id : String}
    (pa : PlainAttrs T) (slot : Slot T name id) (hty : typeOf (.builtin id) = pure (.type "method_descriptor")) (hns : notSuper o = true) (hc : compEs (compE k cx) es = some xs) (hl : es.length < 20) (hline : (ap.endLine == pos.line) = true)
    {r : Res AV} {f : AV -> AHeap -> Res AV} (ho : wpAny (model P.prog P.w) A (eval o env) (QV P σ s r) (QE P σ s r) s) (hb : r.bind f ≠ .bad)
    (hk : ∀ av hp' σ' v s', r = .ok av hp' -> After P σ σ' [] hp' s s' -> RV P.B s'.heap σ' av v -> f av hp' ≠ .bad ->
      s'.TypeIs v T /\ (∀ a, v = .ref a -> ∃ ob, s'.heap.get? a = some ob /\ ob.dict = none) /\
      wpAny (model P.prog P.w) A (evalArgs (.builtin id) true (backTo pos (starEach es env)) []) (fun a s₁ => wpAny (model P.prog P.w) A (call (.builtin id) ([v] ++ a.pos) a.kw) (QV P σ s (f av hp')) (QE P σ s (f av hp')) s₁) (QE P σ s (f av hp')) s') :
    wpAny (model P.prog P.w) A (eval (.Call (.Attribute o name ap) es [] pos) env) (QV P σ s (r.bind f)) (QE P σ s (r.bind f)) s := by
  refine wpAny_Call_method (base_plain hns _ _ _) (few_es hc hl env pos) hline pa slot hty (wpAny_mono ho (fun v s' ⟨av, hp', σ', e, a, rv⟩ => ?_) fun _ _ q => q.bind)
  subst e
  refine xAA (hk av hp' σ' v s' rfl a rv hb) fun h1 h2 h3 => ?_
  exact ⟨h1, h2, Calls.callWith_builtin (plain_es hc env pos) h3⟩
theorem append_is (hb : appendAV (.loc j) as h ≠ .bad) : ∃ x xs, as = [x] /\ h[j]? = some (.list xs) /\ xs.length < sizeLim /\ appendAV (.loc j) as h = .ok .none (h.set j (.list (xs ++ [x]))) := by
  rcases as with _ | ⟨x, _ | ⟨_, _⟩⟩
  . exact absurd rfl hb
  . unfold appendAV at hb |-
    dsimp only at hb |-
    rcases hx : listAt h j with _ | xs <;> rw [hx] at hb
    case none => exact absurd rfl hb
    case some =>
      have hsz := lim_if hb
      exact ⟨_, _, rfl, listAt_is hx, hsz, if_pos hsz⟩
  . exact absurd rfl hb
theorem sim_bm {T id : String} (pa : PlainAttrs T) (slot : Slot T name id) (hty : typeOf (.builtin id) = pure (.type "method_descriptor"))
    (hT : ∀ {σ : Sg} {hp : AHeap} {s : Shared} {av : AV} {v : Value}, St P.w P.B σ hp s.heap -> RV P.B s.heap σ av v -> bmOk m av hp = true -> s.TypeIs v T /\ ∀ a, v = .ref a -> ∃ ob, s.heap.get? a = some ob /\ ob.dict = none)
    (H : ∀ {n : Nat} {q : Bool} {A : Around} {σ : Sg} {hp : AHeap} {s : Shared} {av : AV} {v : Value} {avs : List AV} {vs : List Value}, P.Ok -> Arnd n q A -> St P.w P.B σ hp s.heap -> RV P.B s.heap σ av v -> RVs P.B s.heap σ avs vs -> bmAV m av avs hp ≠ .bad -> wpAny (model P.prog P.w) A (call (.builtin id) (v :: vs)) (QV P σ s (bmAV m av avs hp)) NE s)
    {o : Expr} {es : List Expr} {xo : X} {xs : Xs} {ap pos : Pos} {k : Nat} (hns : notSuper o = true) (hc : compEs (compE k cx) es = some xs) (hl : es.length < 20) (hline : (ap.endLine == pos.line) = true) (ho : SimE P cx o xo) (hes : SimEs P cx es xs) :
    SimE P cx (.Call (.Attribute o name ap) es [] pos) (.bm m xo xs) := by
  intro c n env A σ loc hp s C I hb
  rw [x_bm] at hb |-
  refine meth_gen I pa slot hty hns hc hl hline (ho c n env A σ loc hp s C I (bind_ok hb)) hb ?_
  intro av hp₁ σ₁ v s₁ hr a₁ rv hb
  have hk := lim_if hb
  rw [if_pos hk] at hb |-
  refine xA (hT a₁.st rv hk) fun h1 h2 => ?_
  refine ⟨h1, h2, ?_⟩
  refine evalArgs_es (plain_es hc env pos) (seqVs (G := fun R vs s₂ => wpAny (model P.prog P.w) A (call (.builtin id) ([v] ++ vs) []) (QV P σ s R) (QE P σ s R) s₂) a₁ (hes c n env A σ₁ loc hp₁ s₁ pos C (I.after a₁) (bind_ok hb)) hb ?_)
  intro avs hp₂ σ₂ vs s₂ a₂ a₁₂ rvs hb
  exact wpAny_mono (H C.ok I.ar a₂.st (RV.grows a₁₂.gr _ _ rv) rvs hb) (fun _ _ q => q.lift a₂) (fun _ _ q => q.elim)
theorem bm_append (ok : P.Ok) (ar : Arnd n q A) (S : St P.w P.B σ hp s.heap) (rv : RV P.B s.heap σ av v) (rvs : RVs P.B s.heap σ avs vs) (hb : bmAV .append av avs hp ≠ .bad) :
    wpAny (model P.prog P.w) A (call (.builtin "list.append") (v :: vs)) (QV P σ s (bmAV .append av avs hp)) NE s := by
  rcases av with _ | _
  case loc j =>
    refine xEEA rv fun a off qq1 e1 => ?_; try clear rv; subst qq1
    refine xEEAAA (append_is hb) fun x zs qq1 hj hsz er => ?_; subst qq1
    rw [show bmAV .append (.loc j) [x] hp = _ from er]
    refine xEA rvs.one fun u qq1 ru => ?_; subst qq1
    refine xEEAA (append_prim S hj e1 hsz ru) fun us m' h1 h2 h3 => ?_
    exact call_meets F.slot_list_append ⟨_, h2, rfl⟩ F.entry_list_append (F.args_list_append_2 _ _) (list_append a us m' u h1) ⟨h2, _, _, _, rfl, h3, rfl⟩
  all_goals exact absurd rfl hb
theorem bm_get (ok : P.Ok) (ar : Arnd n q A) (S : St P.w P.B σ hp s.heap) (rv : RV P.B s.heap σ av v) (rvs : RVs P.B s.heap σ avs vs) (hb : bmAV .get av avs hp ≠ .bad) :
    wpAny (model P.prog P.w) A (call (.builtin "dict.get") (v :: vs)) (QV P σ s (bmAV .get av avs hp)) NE s := by
  rcases av with _ | _
  case loc j =>
    refine xEEA rv fun a off qq1 e1 => ?_; try clear rv; subst qq1
    rcases avs with _ | ⟨x, r⟩
    case nil => exact absurd rfl hb
    case cons =>
      rcases r with _ | ⟨_, _⟩
      case cons => exact absurd rfl hb
      case nil =>
        refine xEA rvs.one fun u qq1 ru => ?_; subst qq1
        change getAV (.loc j) [x] hp ≠ .bad at hb
        show wpAny _ _ _ (QV P σ s (getAV (.loc j) [x] hp)) _ _
        delta getAV at hb |-
        dsimp only at hb |-
        rcases hd : dictAt hp j with _ | d
        case none => rw [hd] at hb; exact absurd rfl hb
        case some =>
          rw [hd] at hb
          refine xEA (okO_eq (show okO (getD d.1 x.key?) hp ≠ .bad from hb)) fun y hy e => ?_
          show wpAny _ _ _ (QV P σ s (okO (getD d.1 x.key?) hp)) _ _
          rw [e]
          exact get_call ok S (by have := ar.units; lia) hd e1 ru hy
  all_goals exact absurd rfl hb
theorem bm_pop (ok : P.Ok) (ar : Arnd n q A) (S : St P.w P.B σ hp s.heap) (rv : RV P.B s.heap σ av v) (rvs : RVs P.B s.heap σ avs vs) (hb : bmAV .pop av avs hp ≠ .bad) :
    wpAny (model P.prog P.w) A (call (.builtin "dict.pop") (v :: vs)) (QV P σ s (bmAV .pop av avs hp)) NE s := by
  rcases av with _ | _
  case loc j =>
    refine xEEA rv fun a off qq1 e1 => ?_; try clear rv; subst qq1
    rcases avs with _ | ⟨x, r⟩
    case nil => exact absurd rfl hb
    case cons =>
      rcases r with _ | ⟨_, _⟩
      case cons => exact absurd rfl hb
      case nil =>
        refine xEA rvs.one fun u qq1 ru => ?_; subst qq1
        change popAV (.loc j) [x] hp ≠ .bad at hb
        show wpAny _ _ _ (QV P σ s (popAV (.loc j) [x] hp)) _ _
        delta popAV at hb |-
        dsimp only at hb |-
        rcases hd : dictAt hp j with _ | d
        case none => rw [hd] at hb; exact absurd rfl hb
        case some =>
          rw [hd] at hb
          change popD hp j d.1 d.2 x.key? ≠ .bad at hb
          show wpAny _ _ _ (QV P σ s (popD hp j d.1 d.2 x.key?)) _ _
          rcases hk : x.key? with _ | k
          case none => rw [hk] at hb; exact absurd rfl hb
          case some =>
            rw [hk] at hb
            delta popD at hb |-
            dsimp only at hb |-
            have hso := lim_if hb
            rw [if_pos hso] at hb |-
            rcases hy : d.1.lookup k with _ | y
            case none => rw [hy] at hb; exact absurd rfl hb
            case some =>
              rw [key_av hk] at ru
              exact pop_call ok S (by have := ar.units; lia) (dictAt_is hd) e1 ru hso hy
  all_goals exact absurd rfl hb
theorem bm_index (ok : P.Ok) (ar : Arnd n q A) (S : St P.w P.B σ hp s.heap) (rv : RV P.B s.heap σ av v) (rvs : RVs P.B s.heap σ avs vs) (hb : bmAV .index av avs hp ≠ .bad) :
    wpAny (model P.prog P.w) A (call (.builtin "str.index") (v :: vs)) (QV P σ s (bmAV .index av avs hp)) NE s := by
  rcases av with _ | _
  case str x =>
    refine xE rv fun t qq1 => ?_; try clear rv; subst qq1
    rcases avs with _ | ⟨y, r⟩
    case nil => exact absurd rfl hb
    case cons =>
      rcases r with _ | ⟨_, _⟩
      case cons => exact absurd rfl hb
      case nil =>
        refine xEA rvs.one fun u qq1 ru => ?_; subst qq1
        refine xEA (okO_eq (show okO (((chrOf y).bind fun c => x.findIdx? (· == c)).map fun (i : Nat) => AV.int (i : Int)) hp ≠ .bad from hb)) fun z hz e => ?_
        rw [show bmAV .index (.str x) [y] hp = .ok z hp from e]
        refine xEA (Option.map_eq_some_iff.mp hz) fun i hi1 qq1 => ?_; subst qq1
        refine xEA (Option.bind_eq_some_iff.mp hi1) fun c hc hi => ?_
        rw [chrOf_is hc] at ru
        refine xE ru fun t' qq1 => ?_; try clear ru; subst qq1
        refine xE (occ_idx hi) fun rest hocc => ?_
        exact SC.index hocc ⟨_, _, _, rfl, .tok S _, _, rfl⟩
  all_goals exact absurd rfl hb
theorem bmT_append {s : Shared} (S : St P.w P.B σ hp s.heap) (rv : RV P.B s.heap σ av v) (h : bmOk .append av hp = true) : s.TypeIs v "list" /\ ∀ a, v = .ref a -> ∃ ob, s.heap.get? a = some ob /\ ob.dict = none := by
  rcases av with _ | _
  case loc j =>
    refine xEEA rv fun a off qq1 e1 => ?_; try clear rv; subst qq1
    refine xE (Option.isSome_iff_exists.mp h) fun xs hx => ?_
    refine xEEA (S.isL (listAt_is hx) e1) fun ws m hL _ => ?_
    exact ⟨⟨_, hL, rfl⟩, fun b e => by cases e; exact ⟨_, hL, rfl⟩⟩
  all_goals exact absurd h Bool.false_ne_true
theorem bmT_get {s : Shared} (S : St P.w P.B σ hp s.heap) (rv : RV P.B s.heap σ av v) (h : bmOk .get av hp = true) : s.TypeIs v "dict" /\ ∀ a, v = .ref a -> ∃ ob, s.heap.get? a = some ob /\ ob.dict = none := by
  rcases av with _ | _
  case loc j =>
    refine xEEA rv fun a off qq1 e1 => ?_; try clear rv; subst qq1
    refine xE (Option.isSome_iff_exists.mp h) fun d hx => ?_
    refine xEA (S.isDict (dictAt_is hx) e1) fun es hL _ => ?_
    exact ⟨⟨_, hL, rfl⟩, fun b e => by cases e; exact ⟨_, hL, rfl⟩⟩
  all_goals exact absurd h Bool.false_ne_true
theorem bmT_pop {s : Shared} (S : St P.w P.B σ hp s.heap) (rv : RV P.B s.heap σ av v) (h : bmOk .pop av hp = true) : s.TypeIs v "dict" /\ ∀ a, v = .ref a -> ∃ ob, s.heap.get? a = some ob /\ ob.dict = none := by
  rcases av with _ | _
  case loc j => exact bmT_get S rv h
  all_goals exact absurd h Bool.false_ne_true
theorem bmT_index {s : Shared} (S : St P.w P.B σ hp s.heap) (rv : RV P.B s.heap σ av v) (h : bmOk .index av hp = true) : s.TypeIs v "str" /\ ∀ a, v = .ref a -> ∃ ob, s.heap.get? a = some ob /\ ob.dict = none := by
  rcases av with _ | _
  case str x => refine xE rv fun t qq1 => ?_; try clear rv; subst qq1; exact ⟨rfl, fun b e => nomatch e⟩
  all_goals exact absurd h Bool.false_ne_true
theorem sim_attr (ha : cx.attrs.contains a = true) (hns : notSuper o = true) (ho : SimE P cx o xo) : SimE P cx (.Attribute o a pos) (.attr a xo) := by
  intro c n env A σ loc hp s C I hb
  rw [x_attr] at hb |-
  have he : eval (.Attribute o a pos) env = (do
      let o' <- eval o env
      standAt pos.atName
      let r <- holding [o'] (getAttr o' a true)
      letTemporaryGo o o' r
      pure r) := by rw [arm_eval_Attribute, base_plain hns]
  refine Attribute_any_ (seqV (G := fun R v s₁ => wpAny (model P.prog P.w) A (getAttr v a true) (QV P σ s R) (QE P σ s R) s₁) (.refl I.st) (ho c n env A σ loc hp s C I (bind_ok hb)) hb ?_) he
  intro av hp₁ σ₁ v s₁ a₁ _ rv hb
  exact wpAny_mono (attr_prim C.ok a₁.st (C.attrs ▸ ha) rv hb) (fun _ _ q => q.lift a₁) (fun _ _ q => q)
theorem hasMeth_is (hb : hasMeth m v h = true) : ∃ j fs, v = .loc j /\ instAt h j = some fs /\ fs.lookup m = none := by
  rcases v with _ | _
  case loc j =>
    delta hasMeth at hb
    dsimp only at hb
    rcases hi : instAt h j with _ | fs
    case none => rw [hi] at hb; exact absurd hb Bool.false_ne_true
    case some => rw [hi] at hb; exact ⟨j, fs, rfl, hi, Option.isNone_iff_eq_none.mp hb⟩
  all_goals exact absurd hb Bool.false_ne_true
theorem sim_im (hf : cx.funs.contains m = true) (hm : cx.meths.contains m = true) (hns : notSuper o = true) (hc : compEs (compE k cx) es = some xs) (hl : es.length < 20) (hline : (ap.endLine == pos.line) = true) (ho : SimE P cx o xo) (hes : SimEs P cx es xs) :
    SimE P cx (.Call (.Attribute o m ap) es [] pos) (.im m xo xs) := by
  intro c n env A σ loc hp s C I hb
  rw [x_im] at hb |-
  rw [arm_eval_Call, base_plain hns]
  refine xEEEAAAA (C.f m hf) fun f of fd hfn hfo hfc hd hcall => ?_
  have hmN : P.mN m = some (.ref f) := by
    unfold Par.fn at hfn
    rw [<- C.meths, hm] at hfn
    exact hfn
  refine wpAny_bind (seqV (G := fun R v s₁ => wpAny (model P.prog P.w) A (standAt ap.atName >>= fun _ => methodCall o m ap pos env v (es.length + ([] : List Keyword).length) (backTo pos (starEach es env)) (backToKw pos (keywordEach [] env))) (QV P σ s R) (QE P σ s R) s₁) (.refl I.st) (ho c n env A σ loc hp s C I (bind_ok hb)) hb ?_)
  intro av hp₁ σ₁ v s₁ a₁ _ rv hb
  have hk := lim_if hb
  rw [if_pos hk] at hb |-
  refine xEEAA (hasMeth_is hk) fun j fs qq1 hi hno => ?_; subst qq1
  refine xEEA rv fun x off qq1 e1 => ?_; try clear rv; subst qq1
  refine xEA (instAt_is hi) fun q hj hq => ?_
  refine xEEA (inst_of a₁.st hj hq e1) fun mA off' e2 Ins => ?_
  refine xEEEEEEEEEEEE ((C.ok.cls.keeps a₁.st.base).obj) fun nm qq bs sn sub col dd k0 k1 k2 k3 k5 hC => ?_
  refine xE (C.ok.qm m (C.meths ▸ hm)) fun y hy => ?_
  refine wpAny_bind (wpAny_standAt ?_)
  have hform : methodCallForm (es.length + ([] : List Keyword).length) (backTo pos (starEach es env)) (backToKw pos (keywordEach [] env)) = true := few_es hc hl env pos
  have hpos : methodCallPos true o env ap pos = pure pos := by unfold methodCallPos; simp [hline]
  unfold methodCall
  rw [hform]
  refine wpAny_bind (wpAny_holding (method_of hC (C.ok.cls.keeps a₁.st.base).ns C.ok.q2 C.ok.q3 hmN (a₁.st.base _ _ hfo) (hfc (C.meths ▸ hm)) hy Ins.inst (Ins.ns.non m hno) ?_))
  refine wpAny_bind (wpAny_of_eq hpos ?_)
  refine Calls.callWith_function (o := of) (fd := fd) (evalArgs_es (plain_es hc env pos) (seqVs (G := fun R vs s₂ => (s₂.heap.get? f = some of /\ of.data = .func fd) /\ wpAny (model P.prog P.w) A (call (.ref f) ([Value.ref x] ++ vs) []) (QV P σ s R) (QE P σ s R) s₂) a₁ (hes c n env A σ₁ loc hp₁ s₁ pos C (I.after a₁) (bind_ok hb)) hb ?_))
  intro avs hp₂ σ₂ vs s₂ a₂ a₁₂ rvs hb
  refine ⟨⟨a₂.st.base _ _ hfo, hd⟩, ?_⟩
  exact wpAny_mono (hcall (.loc j :: avs) (.ref x :: vs) σ₂ hp₂ s₂ A a₂.st ⟨⟨x, off, rfl, a₁₂.gr.look e1⟩, rvs⟩ I.ar.toArndC (I.fs.after a₂.gr) hb) (fun _ _ q => q.lift a₂) (fun _ _ q => q.lift a₂)
end
end
section
open PySem PySem.Spec PyProof.Rows PySem.SeqAt
section
variable {P : Par} {cx : Cx}
theorem sim_dict0 {pos : Pos} : SimE P cx (.Dict [] [] pos) .dict0 := by
  intro c n env A σ loc hp s C I hb
  rw [x_dict0]
  refine wpAny_Dict_empty ?_
  refine xA (I.st.alloc (X := []) { cls := .type "dict", data := .dict #[] } 0 (.dict [] 0) fun g => ⟨#[], Heap.get?_push_size _ rfl, trivial, List.Pairwise.nil, (fun p hp => nomatch hp), Nat.zero_le _⟩) fun S' g => ?_
  refine ⟨_, _, _, rfl, ⟨rfl, S', g⟩, _, 0, rfl, ?_⟩
  rw [<- I.st.len]; exact List.getElem?_concat_length
end
end
section
open PySem PySem.Spec PyProof.Rows PySem.SeqAt
noncomputable def FX (env : Env) : List Addr := env.locals :: env.cells.map (·.2)
noncomputable def RF (B : Bs) (h : Heap) (σ : Sg) : Flow -> PySem.Flow -> Prop
  | .next, f => f = .next
  | .ret av, f => ∃ v, f = .ret v /\ RV B h σ av v
  | .cont, f => f = .cont
inductive QS (P : Par) (env : Env) (cx : Cx) (σ : Sg) (s : Shared) (r : SR) (f : PySem.Flow) (s' : Shared) : Prop
  | mk (fl : Flow) (l' : Locs) (hp' : AHeap) (σ' : Sg) (e : r = .ok fl l' hp') (a : After P σ σ' (FX env) hp' s s') (rf : RF P.B s'.heap σ' fl f) (fr : Frm P s'.heap σ' env cx l')
inductive QES (P : Par) (env : Env) (cx : Cx) (σ : Sg) (s : Shared) (r : SR) (v : Value) (s' : Shared) : Prop
  | mk (k : Str) (l' : Locs) (hp' : AHeap) (σ' : Sg) (e : Addr) (er : r = .exc k l' hp') (ev : v = .ref e) (a : After P σ σ' (FX env) hp' s s') (f : Fly P σ' s.heap k e s'.heap) (fr : Frm P s'.heap σ' env cx l')
section
variable {P : Par} {cx : Cx} {env : Env} {A : Around} {E : Value -> Shared -> Prop} {σ : Sg} {l : Locs} {hp : AHeap} {s : Shared}
theorem Frm.nsObj (f : Frm P s.heap σ env cx l) : ∃ o es ep, s.heap.get? env.locals = some o /\ o.data = .dict es ep := by
  refine xEA f.names fun m qq1 _ => ?_; refine xEEEAA qq1 fun o es ep ho hd _ => ?_
  exact ⟨o, es, ep, ho, hd⟩
theorem Frm.cell_ne (f : Frm P s.heap σ env cx l) (hp : p ∈ env.cells) : p.2 ≠ env.locals := fun e => by
  refine xEEA (f.cells p hp) fun o v ho hd => ?_
  refine xEEEA f.nsObj fun o' es ep ho' hd' => ?_
  rw [e, ho'] at ho
  cases ho
  rw [hd'] at hd
  cases hd
theorem slot_len (f : Frm P s.heap σ env cx l) (hx : cx.slot x = some i) : i < l.length := by rw [f.len]; exact f.lt x i hx
theorem slotW_slot (h : cx.slotW x = some i) : cx.slot x = some i := by
  unfold Cx.slotW at h
  rcases hq : cx.sc.names.lookup x with _ | k <;> rw [hq] at h
  case none => exact none_ne h
  case some => cases k <;> first | exact h | exact none_ne h
theorem store_in {X : List Addr} (S : St P.w P.B σ hp s.heap) (f : Frm P s.heap σ env cx l) (hw : cx.slotW x = some i) (rv : RV P.B s.heap σ av v) (hL : env.kindOf x = some .local -> env.locals ∈ X) (hC : env.kindOf x ≠ some .local -> ∀ p ∈ env.cells, p.2 ∈ X)
    (h : ∀ s', After P σ σ X hp s s' -> Frm P s'.heap σ env cx (l.set i (some av)) -> RV P.B s'.heap σ av v -> Q () s') : wpAny (model P.prog P.w) A (storeName env x v) Q E s := by
  refine xEA f.names fun m hn hm => ?_
  have hx := slotW_slot hw
  have hfree := f.wr x i hw
  have hil := slot_len f hx
  have hget : ∀ y j, cx.slot y = some j -> y ≠ x -> (l.set i (some av))[j]? = l[j]? := fun y j hy hne => by
    rw [List.getElem?_set_ne]
    intro e; subst e; exact hne (f.inj y x i hy hx)
  rcases hm x i hx with ⟨hk, _⟩ | ⟨hk, c, ov, hc, hi, _⟩
  . refine wpAny_storeName_local hk hn (fun h' hn' hs => ?_) (by rw [f.kind]; rfl)
    refine xEEEA f.nsObj fun o es ep ho hd => ?_
    refine xEEEA (id hn') fun o₁ _ _ ho₁ _ => ?_
    refine xA (S.sameBut (X := X) hs (fun o' ho' => by rw [ho] at ho'; cases ho'; unfold fixed; rw [hd]; simp) f.out.1 f.new.1 (hL hk) ho₁) fun S' g => ?_
    have hcell : ∀ p ∈ env.cells, h'.get? p.2 = s.heap.get? p.2 := fun p hp => hs.2 p.2 (f.cell_ne hp)
    refine h { s with heap := h', toks := s.toks + 1 } ⟨rfl, S', g⟩ ⟨f.kind, by rw [List.length_set]; exact f.len, f.inj, f.lt, f.glob, f.wr, ⟨_, hn', fun y j hy => ?_⟩, f.out, f.new, f.globals, f.builtins, fun p hp => ?_, f.apart, f.kinds⟩ (RV.grows g _ _ rv)
    . by_cases hyx : y = x
      . subst hyx
        rw [hx] at hy; cases hy
        refine .inl ⟨hk, fun av' e => ?_⟩
        rw [List.getElem?_set_self hil] at e
        cases e
        exact ⟨v, by simp, RV.grows g _ _ rv⟩
      . rw [hget y j hy hyx]
        rcases hm y j hy with ⟨hk', hv⟩ | ⟨hk', c, ov, hc, hi, hv⟩
        . exact .inl ⟨hk', fun av' e => (hv av' e).imp fun _ q => ⟨by rw [if_neg hyx]; exact q.1, RV.grows g _ _ q.2⟩⟩
        . refine xEA hi fun oc hoc hdc => ?_
          exact .inr ⟨hk', c, ov, hc, ⟨oc, (hcell (y, c) (mem_of_lookup' hc)).trans hoc, hdc⟩, fun av' e => (hv av' e).imp fun _ q => ⟨q.1, RV.grows g _ _ q.2⟩⟩
    . refine xEEA (f.cells p hp) fun oc vc hoc hdc => ?_
      exact ⟨oc, vc, (hcell p hp).trans hoc, hdc⟩
  . rcases hk with hk | hk
    . refine wpAny_storeName_cell f.kind hk hc hi fun h' hi' hs => ?_
      have hmem := mem_of_lookup' hc
      refine xEA hi fun oc hoc hdc => ?_
      refine xEA (id hi') fun o₁ ho₁ _ => ?_
      refine xA (S.sameBut (X := X) hs (fun o' ho' => by rw [hoc] at ho'; cases ho'; unfold fixed; rw [hdc]; simp) (f.out.2 _ hmem) (f.new.2 _ hmem) (hC (fun q => by rw [hk] at q; cases q) _ hmem) ho₁) fun S' g => ?_
      have hloc : h'.get? env.locals = s.heap.get? env.locals := hs.2 _ (Ne.symm (f.cell_ne hmem))
      refine xEEEAA hn fun o es ep ho hd hrest => ?_
      refine h { s with heap := h' } ⟨rfl, S', g⟩ ⟨f.kind, by rw [List.length_set]; exact f.len, f.inj, f.lt, f.glob, f.wr, ⟨m, ⟨o, es, ep, hloc.trans ho, hd, hrest⟩, fun y j hy => ?_⟩, f.out, f.new, f.globals, f.builtins, fun p hp => ?_, f.apart, f.kinds⟩ (RV.grows g _ _ rv)
      . by_cases hyx : y = x
        . subst hyx
          rw [hx] at hy; cases hy
          refine .inr ⟨.inl hk, c, some v, hc, hi', fun av' e => ?_⟩
          rw [List.getElem?_set_self hil] at e
          cases e
          exact ⟨v, rfl, RV.grows g _ _ rv⟩
        . rw [hget y j hy hyx]
          rcases hm y j hy with ⟨hk', hv⟩ | ⟨hk', c', ov', hc', hi₂, hv⟩
          . exact .inl ⟨hk', fun av' e => (hv av' e).imp fun _ q => ⟨q.1, RV.grows g _ _ q.2⟩⟩
          . have hne : c' ≠ c := fun e => hyx (f.apart (y, c') (mem_of_lookup' hc') (x, c) hmem e)
            refine xEA hi₂ fun oc' hoc' hdc' => ?_
            exact .inr ⟨hk', c', ov', hc', ⟨oc', (hs.2 c' hne).trans hoc', hdc'⟩, fun av' e => (hv av' e).imp fun _ q => ⟨q.1, RV.grows g _ _ q.2⟩⟩
      . by_cases e : p.2 = c
        . refine xEA hi' fun o' ho' hd' => ?_
          exact ⟨o', _, e ▸ ho', hd'⟩
        . refine xEEA (f.cells p hp) fun oc' vc hoc' hdc' => ?_
          exact ⟨oc', vc, (hs.2 p.2 e).trans hoc', hdc'⟩
    . exact absurd hk hfree
theorem store_prim (S : St P.w P.B σ hp s.heap) (f : Frm P s.heap σ env cx l) (hw : cx.slotW x = some i) (rv : RV P.B s.heap σ av v)
    (h : ∀ s', After P σ σ (FX env) hp s s' -> Frm P s'.heap σ env cx (l.set i (some av)) -> RV P.B s'.heap σ av v -> Q () s') : wpAny (model P.prog P.w) A (storeName env x v) Q E s :=
  store_in S f hw rv (fun _ => List.mem_cons_self) (fun _ p hp => List.mem_cons_of_mem _ (List.mem_map_of_mem hp)) h
end
end
section
open PySem PySem.Spec PyProof.Rows PySem.SeqAt
inductive QT (P : Par) (σ : Sg) (s : Shared) (r : Res AV) (b : Bool) (s' : Shared) : Prop
  | mk (hp' : AHeap) (σ' : Sg) (e : r = .ok (.bool b) hp') (a : After P σ σ' [] hp' s s')
noncomputable def BoolR (r : Res AV) : Prop := ∀ av h, r = .ok av h -> ∃ b, av = .bool b
noncomputable def SimT (P : Par) (cx : Cx) (e : Expr) (x : X) : Prop :=
  ∀ c n env A σ l hp s, Sims P cx c n -> Inv P cx n c.q env A σ l hp s -> evalX c x l hp ≠ .bad -> BoolR (evalX c x l hp) ->
    wpAny (model P.prog P.w) A (isTrue e env (eval e env)) (QT P σ s (evalX c x l hp)) (QE P σ s (evalX c x l hp)) s
noncomputable def SimTs (P : Par) (cx : Cx) (op : BoolOp) (es : List Expr) (x : X) : Prop :=
  ∀ c n env A σ l hp s, Sims P cx c n -> Inv P cx n c.q env A σ l hp s -> evalX c x l hp ≠ .bad -> BoolR (evalX c x l hp) ->
    wpAny (model P.prog P.w) A (allTrue op es env) (QT P σ s (evalX c x l hp)) (QE P σ s (evalX c x l hp)) s
section
variable {P : Par} {cx : Cx}
theorem QT.lift (a : After P σ σ' [] hp' s s') (q : QT P σ' s' r v s'') : QT P σ s r v s'' := by
  obtain ⟨hp, σ₂, e, b⟩ := q
  exact ⟨hp, σ₂, e, a.trans b⟩
theorem simT_val (hv : ∀ env whole, isTrue e env whole = (do let v <- whole; standAt e.pos; holding [v] (truthy v))) (h : SimE P cx e x) : SimT P cx e x := by
  intro c n env A σ l hp s C I hb hr
  refine wpAny_isTrue_value (wpAny_mono (h c n env A σ l hp s C I hb) (fun v s' ⟨av, hp', σ', e, a, rv⟩ => ?_) fun _ _ q => q) (hv env _)
  refine xE (hr av hp' e) fun b qq1 => ?_; subst qq1
  rcases (show v = .bool b from rv) with rfl
  exact wpAny_truthy_bool ⟨hp', σ', e, a⟩
theorem simT_not (hx : SimT P cx x xx) : SimT P cx (.UnaryOp .Not x pos) (.not xx) := by
  intro c n env A σ loc hp s C I hb hr
  rw [x_not] at hb hr |-
  have hbr : BoolR (evalX c xx loc hp) := fun av h e => by
    rw [e, bok] at hb
    exact notAV_is hb
  refine wpAny_isTrue_Not (wpAny_mono (hx c n env A σ loc hp s C I (bind_ok hb) hbr) (fun b s' ⟨hp', σ', e, a⟩ => ?_) fun _ _ q => q.bind)
  rw [e]
  exact ⟨hp', σ', rfl, a⟩
theorem simT_boolop (h : SimTs P cx op es x) : SimT P cx (.BoolOp op es pos) x := by
  intro c n env A σ loc hp s C I hb hr
  exact wpAny_isTrue_BoolOp (h c n env A σ loc hp s C I hb hr)
theorem simTs_one (h : SimT P cx e x) : SimTs P cx op [e] x := by
  intro c n env A σ loc hp s C I hb hr
  have hh := h c n env A σ loc hp s C I hb hr
  rcases op with _ | _
  case And =>
    refine wpAny_allTrue_And_cons (wpAny_mono hh (fun b s' q => ?_) fun _ _ q => q)
    rcases b with _ | _
    case true => rw [if_pos rfl]; exact wpAny_allTrue_And_nil q
    case false => exact q
  case Or =>
    refine wpAny_allTrue_Or_cons (wpAny_mono hh (fun b s' q => ?_) fun _ _ q => q)
    rcases b with _ | _
    case true => exact q
    case false => exact wpAny_allTrue_Or_nil q
theorem simTs_and (h : SimT P cx e x) (hr : SimTs P cx .And es y) : SimTs P cx .And (e :: es) (.and x y) := by
  intro c n env A σ loc hp s C I hb hbr
  rw [x_and] at hb hbr |-
  have hb1 : BoolR (evalX c x loc hp) := fun av h e => by
    rw [e, bok] at hb
    exact condV_is hb
  refine wpAny_allTrue_And_cons (wpAny_mono (h c n env A σ loc hp s C I (bind_ok hb) hb1) (fun b s' ⟨hp', σ', e, a⟩ => ?_) fun _ _ q => q.bind)
  rw [e] at hb hbr |-
  rcases b with _ | _
  case true =>
    rw [if_pos rfl]
    exact wpAny_mono (hr c n env A σ' loc hp' s' C (I.after a) hb hbr) (fun _ _ q => q.lift a) (fun _ _ q => q.lift a)
  case false => exact ⟨hp', σ', rfl, a⟩
theorem simTs_or (h : SimT P cx e x) (hr : SimTs P cx .Or es y) : SimTs P cx .Or (e :: es) (.or x y) := by
  intro c n env A σ loc hp s C I hb hbr
  rw [x_or] at hb hbr |-
  have hb1 : BoolR (evalX c x loc hp) := fun av h e => by
    rw [e, bok] at hb
    exact condV_is hb
  refine wpAny_allTrue_Or_cons (wpAny_mono (h c n env A σ loc hp s C I (bind_ok hb) hb1) (fun b s' ⟨hp', σ', e, a⟩ => ?_) fun _ _ q => q.bind)
  rw [e] at hb hbr |-
  rcases b with _ | _
  case false =>
    exact wpAny_mono (hr c n env A σ' loc hp' s' C (I.after a) hb hbr) (fun _ _ q => q.lift a) (fun _ _ q => q.lift a)
  case true => exact ⟨hp', σ', rfl, a⟩
theorem simT_cmp (hop : compCOp op = some cop) (hm : behindInMarks op r = false) (hl : SimE P cx l xl) (hr : SimE P cx r xr) : SimT P cx (.Compare l [op] [r] pos) (.cmp cop xl xr) := by
  intro c n env A σ loc hp s C I hb hbr
  rw [x_cmp] at hb hbr |-
  refine wpAny_isTrue_Compare1 (seqV (G := fun R a s₁ => wpAny (model P.prog P.w) A (eval r env) (fun b s₂ => wpAny (model P.prog P.w) A (compareOp op a b) (fun c s₃ => wpAny (model P.prog P.w) A (truthy c) (QT P σ s R) (QE P σ s R) s₃) (QE P σ s R) s₂) (QE P σ s R) s₁) (.refl I.st) (hl c n env A σ loc hp s C I (bind_ok hb)) hb ?_) hm
  intro av hp₁ σ₁ v s₁ a₁ _ rv hb
  refine seqV (G := fun R b s₂ => wpAny (model P.prog P.w) A (compareOp op v b) (fun c s₃ => wpAny (model P.prog P.w) A (truthy c) (QT P σ s R) (QE P σ s R) s₃) (QE P σ s R) s₂) a₁ (hr c n env A σ₁ loc hp₁ s₁ C (I.after a₁) (bind_ok hb)) hb ?_
  intro bv hp₂ σ₂ u s₂ a₂ a₁₂ ru hb
  refine xE (boolO_is hb) fun k hc => ?_
  rw [hc]
  refine wpAny_mono (cmp_prim C.ok a₂.st I.ar hop (RV.grows a₁₂.gr _ _ rv) ru hc) (fun w s₃ q => ?_) (fun _ _ q => q)
  obtain ⟨b, rfl, e, a₃⟩ := q
  cases e
  exact wpAny_truthy_bool ⟨_, _, rfl, a₂.trans a₃⟩
theorem simT_isn (hop : isnOf op = some b) (hr : isNone r = true) (hl : SimE P cx l xl) : SimT P cx (.Compare l [op] [r] pos) (.isn b xl) := by
  intro c n env A σ loc hp s C I hb hbr
  obtain ⟨k, q, rfl⟩ : ∃ k q, r = .Constant .none k q := by
    rcases r with _ | _
    case Constant v k q => rcases v with _ | _ <;> first | exact ⟨_, _, rfl⟩ | exact absurd hr Bool.false_ne_true
    all_goals exact absurd hr Bool.false_ne_true
  rw [x_isn] at hb hbr |-
  refine wpAny_isTrue_Compare1 (seqV (G := fun R a s₁ => wpAny (model P.prog P.w) A (eval (.Constant .none k q) env) (fun b s₂ => wpAny (model P.prog P.w) A (compareOp op a b) (fun c s₃ => wpAny (model P.prog P.w) A (truthy c) (QT P σ s R) (QE P σ s R) s₃) (QE P σ s R) s₂) (QE P σ s R) s₁) (.refl I.st) (hl c n env A σ loc hp s C I (bind_ok hb)) hb ?_) rfl
  intro av hp₁ σ₁ v s₁ a₁ _ rv hb
  refine wpAny_Constant_none ?_
  rcases op with _ | _ <;> (try exact none_ne hop) <;> cases hop
  . refine is_none (wpAny_truthy_bool ?_)
    rw [is_none_iff rv, show (isNoneAV av == true) = isNoneAV av by rcases isNoneAV av with _ | _ <;> rfl]
    exact ⟨_, _, rfl, a₁⟩
  . refine isNot_none (wpAny_truthy_bool ?_)
    rw [is_none_iff rv, show (isNoneAV av == false) = !isNoneAV av by rcases isNoneAV av with _ | _ <;> rfl]
    exact ⟨_, _, rfl, a₁⟩
theorem tc2 : testChain pos v [o1, o2] [a, b] = (do
    let rv <- holding [v] a
    standAt pos
    let c <- holding [v, rv] (compareOp o1 v rv)
    release [v, rv] [c]
    if <- holding [c, rv] (truthy c) then testChain pos rv [o2] [b] else pure false) := rfl
theorem tc1 : testChain pos v [o] [a] = (do
    let rv <- holding [v] a
    standAt pos
    let c <- operate [v, rv] (compareOp o v rv)
    holding [c] (truthy c)) := rfl
theorem simT_cmp2 (h1 : compCOp o1 = some c1) (h2 : compCOp o2 = some c2) (hm : behindInMarks o2 r = false) (hl : SimE P cx l xl) (hmm : SimE P cx m xm) (hr : SimE P cx r xr) :
    SimT P cx (.Compare l [o1, o2] [m, r] pos) (.cmp2 c1 c2 xl xm xr) := by
  intro c n env A σ loc hp s C I hb hbr
  rw [x_cmp2] at hb hbr |-
  show wpAny _ _ (eval l env >>= fun a => testChain pos a [o1, o2] (markedEach [o1, o2] [m, r] (evalEach [m, r] env))) _ _ _
  have hmark : markedEach [o1, o2] [m, r] (evalEach [m, r] env) = [eval m env, eval r env] := by
    show [eval m env, markedBehindIn o2 r (eval r env)] = _
    rw [markedBehindIn_of_false hm]
  rw [hmark]
  refine wpAny_bind (seqV (G := fun R a s₁ => wpAny (model P.prog P.w) A (testChain pos a [o1, o2] [eval m env, eval r env]) (QT P σ s R) (QE P σ s R) s₁) (.refl I.st) (hl c n env A σ loc hp s C I (bind_ok hb)) hb ?_)
  intro av hp₁ σ₁ v s₁ a₁ _ rv hb
  have I₁ := I.after a₁
  rw [tc2]
  . refine wpAny_bind (wpAny_holding (seqV (G := fun R b s₂ => wpAny (model P.prog P.w) A (standAt pos >>= fun _ => holding [v, b] (compareOp o1 v b) >>= fun cc => release [v, b] [cc] >>= fun _ => holding [cc, b] (truthy cc) >>= fun t => if t = true then testChain pos b [o2] [eval r env] else pure false) (QT P σ s R) (QE P σ s R) s₂) a₁ (hmm c n env A σ₁ loc hp₁ s₁ C I₁ (bind_ok hb)) hb ?_))
    intro bv hp₂ σ₂ u s₂ a₂ a₁₂ ru hb
    have I₂ := I.after a₂
    refine xE (cmpAnd_is hb) fun k hc => ?_
    rw [hc] at hb |-
    refine wpAny_bind (wpAny_standAt (wpAny_bind (wpAny_holding (wpAny_mono (cmp_prim C.ok a₂.st I.ar h1 (RV.grows a₁₂.gr _ _ rv) ru hc) (fun w s₃ q => ?_) (fun _ _ q => q)))))
    obtain ⟨b, rfl, e, a₃⟩ := q
    cases e
    refine wpAny_bind (wpAny_release (wpAny_bind (wpAny_holding (wpAny_truthy_bool ?_))))
    rcases k with _ | _
    case false => exact wpAny_pure ⟨_, _, rfl, a₂.trans a₃⟩
    case true =>
      rw [if_pos rfl]
      have I₃ := I₂.after a₃
      rw [tc1]
      refine wpAny_bind (wpAny_holding (seqV (G := fun R z s₄ => wpAny (model P.prog P.w) A (standAt pos >>= fun _ => operate [u, z] (compareOp o2 u z) >>= fun cc => holding [cc] (truthy cc)) (QT P σ s R) (QE P σ s R) s₄) (f := fun z h => boolO (cmpAV h c2 bv z) h) (a₂.trans a₃) (hr c n env A σ₂ loc hp₂ s₃ C I₃ (bind_ok hb)) hb ?_))
      intro zv hp₄ σ₄ z s₄ a₄ a₃₄ rz hb
      refine xE (boolO_is hb) fun k2 hc2 => ?_
      rw [hc2]
      refine wpAny_bind (wpAny_standAt (wpAny_bind (wpAny_operating (wpAny_mono (cmp_prim C.ok a₄.st I.ar h2 (RV.grows a₃₄.gr _ _ (RV.grows a₃.gr _ _ ru)) rz hc2) (fun w s₅ q => ?_) (fun _ _ q => q)))))
      obtain ⟨b, rfl, e, a₅⟩ := q
      cases e
      exact wpAny_holding (wpAny_truthy_bool ⟨_, _, rfl, a₄.trans a₅⟩)
end
end
section
open PySem PySem.Spec PyProof.Rows
structure FlyT (P : Par) (σ : Sg) (h₀ : Heap) (k : Str) (e : Addr) (h : Heap) : Prop where
  obj : ∃ oe vs C T oT ts fl, h.get? e = some oe /\ P.mg k = some (.ref C) /\ oe.cls = .ref C /\ oe.data = .fields vs /\ vs[1]? = some (.ref T) /\ T ≠ e /\ h.get? T = some oT /\ oT.cls = .type "traceback" /\ oT.data = .fields ts /\ ts[3]? = some fl /\ h₀.get? T = none /\ T ∉ σ.map (·.1)
  new : h₀.get? e = none
  out : e ∉ σ.map (·.1)
theorem FlyT.fly (f : FlyT P σ h₀ k e h) : Fly P σ h₀ k e h := by
  refine xEEEEEEEAAAA f.obj fun oe vs C T oT ts fl h1 h2 h3 h4 h5 => ?_
  exact ⟨⟨oe, vs, C, h1, h2, h3, h4, .inr ⟨T, oT, ts, fl, h5⟩⟩, f.new, f.out⟩
structure Tch (σ : Sg) (h₀ : Heap) (Fs D : List Addr) (h h' : Heap) : Prop where
  new : ∀ d ∈ D, h₀.get? d = none /\ d ∉ σ.map (·.1) /\ ∀ o, h.get? d = some o -> ∃ vs, o.data = .fields vs /\ o.cls ≠ .type "range"
  keep : ∀ b o, b ∉ D -> h.get? b = some o -> (b ∉ Fs -> h'.get? b = some o) /\ ∃ sl, h'.get? b = some { o with slots := sl }
  ex : ∀ d ∈ D, ∀ o, h.get? d = some o -> ∃ o', h'.get? d = some o'
theorem Tch.trans (x : Tch σ h₀ Fs D h h₁) (y : Tch σ h₀ Fs D' h₁ h₂) : Tch σ h₀ Fs (D ++ D') h h₂ := by
  refine ⟨fun d hd => ?_, fun b o hb ho => ?_, fun d hd o ho => ?_⟩
  . rcases List.mem_append.mp hd with h1 | h1
    . exact x.new d h1
    . refine xAA (y.new d h1) fun a b c => ?_
      refine ⟨a, b, fun o ho => ?_⟩
      by_cases hD : d ∈ D
      . exact (x.new d hD).2.2 o ho
      . refine xAE (x.keep d o hD ho) fun _ sl e => ?_
        refine xEA (c _ e) fun vs q1 q2 => ?_
        exact ⟨vs, q1, q2⟩
  . rw [List.mem_append, not_or] at hb
    refine xAE (x.keep b o hb.1 ho) fun k1 sl e1 => ?_
    refine xAE (y.keep b _ hb.2 e1) fun k2 sl2 e2 => ?_
    refine ⟨fun hF => ?_, sl2, e2⟩
    have := k1 hF
    exact (y.keep b o hb.2 this).1 hF
  . by_cases hD : d ∈ D
    . refine xE (x.ex d hD o ho) fun o1 e1 => ?_
      by_cases hD' : d ∈ D'
      . exact y.ex d hD' o1 e1
      . refine xAE (y.keep d o1 hD' e1) fun _ sl e2 => ?_; exact ⟨_, e2⟩
    . refine xAE (x.keep d o hD ho) fun _ sl e1 => ?_
      by_cases hD' : d ∈ D'
      . exact y.ex d hD' _ e1
      . refine xAE (y.keep d _ hD' e1) fun _ sl e2 => ?_; exact ⟨_, e2⟩
section
variable {P : Par} {A : Around} {E : Value -> Shared -> Prop} {s s₀ : Shared} {σ σ' : Sg} {hp' : AHeap} {X : List Addr} {h' : Heap} {Fs D : List Addr}
noncomputable def places (l : List Env) : List Addr := l.filterMap (·.frame)
theorem Frs.fun (F : Frs P h σ A) (hl : A.frames = some l) : h.FunFrames P.B.h₀ l := by
  have : ∀ l' : List Env, (∀ f ∈ l', f ∈ l) -> h.FunFrames P.B.h₀ l' := by
    intro l'
    induction l' with
    | nil => intro _; trivial
    | cons f r ih =>
      intro hs
      refine xAEEEEAAAA (F l hl f (hs f (List.mem_cons_self ..))) fun hk L o es ep h1 h2 h3 h4 h5 => ?_
      exact ⟨hk, ⟨L, o, h1, h2, h3, fun vs q => by rw [h4] at q; cases q⟩, ih fun g hg => hs g (List.mem_cons_of_mem _ hg)⟩
  exact this l fun _ h => h
theorem Frs.place (F : Frs P h σ A) (hl : A.frames = some l) (hb : b ∈ places l) : P.B.h₀.get? b = none /\ b ∉ σ.map (·.1) /\ ∃ o es ep, h.get? b = some o /\ o.data = .dict es ep := by
  refine xEA (List.mem_filterMap.mp hb) fun f hf e => ?_
  refine xAEEEEAAAA (F l hl f hf) fun hk L o es ep h1 h2 h3 h4 h5 => ?_
  rw [h1] at e; cases e
  exact ⟨h2, h5, o, es, ep, h3, h4⟩
theorem Tch.fixes (t : Tch σ s₀.heap Fs D s.heap h') (hF : ∀ b ∈ Fs, ∃ o es ep, s.heap.get? b = some o /\ o.data = .dict es ep) : Fixes s.heap h' := fun b o ho hf => by
  have hD : b ∉ D := fun hd => by
    refine xEA ((t.new b hd).2.2 o ho) fun vs h1 h2 => ?_
    unfold fixed at hf; rw [h1] at hf; exact h2 hf
  refine (t.keep b o hD ho).1 fun hb => ?_
  refine xEEEA (hF b hb) fun o' es ep e hd => ?_
  rw [ho] at e; cases e
  unfold fixed at hf; rw [hd] at hf; exact hf
theorem After.touch (a : After P σ σ' X hp' s₀ s) (hB : P.B.h₀.StaysIn s₀.heap) (t : Tch σ' s₀.heap Fs D s.heap h') (hF : ∀ b ∈ Fs, P.B.h₀.get? b = none /\ b ∉ σ'.map (·.1) /\ ∃ o es ep, s.heap.get? b = some o /\ o.data = .dict es ep) : After P σ σ' X hp' s₀ { s with heap := h' } := by
  have fx := t.fixes fun b hb => (hF b hb).2.2
  have oldS : ∀ p ∈ σ', h'.get? p.1 = s.heap.get? p.1 := fun p hp => by
    refine xEA (a.st.there hp) fun ob e _ => ?_
    have hm := List.mem_map_of_mem (f := (·.1)) hp
    rw [e]
    exact (t.keep p.1 ob (fun hd => (t.new _ hd).2.1 hm) e).1 fun hb => (hF _ hb).2.1 hm
  refine ⟨by rw [a.ctl], ⟨a.st.len, a.st.nd, fun n b off o e1 e2 => (a.st.obj n b off o e1 e2).fixes fx (oldS (b, off) (List.mem_of_getElem? e1)), fun b o e => ?_, a.st.new⟩, ?_⟩
  . have ho := a.st.base b o e
    refine (t.keep b o (fun hd => ?_) ho).1 fun hb => ?_
    . have := hB b o e
      rw [(t.new b hd).1] at this; cases this
    . rw [(hF b hb).1] at e; cases e
  . refine ⟨a.gr.ext, fun b o e f => fx b o (a.gr.fix b o e f) f, fun b o e h1 h2 => ?_, fun b o e => ?_⟩
    . have n := a.gr.oth b o e h1 h2
      refine xEAAA n.get fun o' e' _ hd' _ => ?_
      have hD : b ∉ D := fun hd => by rw [(t.new b hd).1] at e; cases e
      refine n.trans e' ?_
      refine xAE (t.keep b o' hD e') fun k1 sl k2 => ?_
      by_cases hb : b ∈ Fs
      . refine xEEEA ((hF b hb).2.2) fun o2 es ep e2 hd2 => ?_
        rw [e'] at e2; cases e2
        exact .inr ⟨⟨es, ep, hd2⟩, sl, k2⟩
      . exact .inl (k1 hb)
    . refine xE (a.gr.ex b o e) fun o' e' => ?_
      have hD : b ∉ D := fun hd => by rw [(t.new b hd).1] at e; cases e
      refine xAE (t.keep b o' hD e') fun _ sl k2 => ?_
      exact ⟨_, k2⟩
theorem Frm.touch (f : Frm P s.heap σ' env cx l) (t : Tch σ' s₀.heap Fs D s.heap h') (hF : ∀ b ∈ Fs, ∃ o es ep, s.heap.get? b = some o /\ o.data = .dict es ep) (hL : env.locals ∉ D) (hC : ∀ p ∈ env.cells, p.2 ∉ D) : Frm P h' σ' env cx l := by
  have fx := t.fixes hF
  refine xEA f.names fun m hn hm => ?_
  have near : ∀ b o, b ∉ D -> s.heap.get? b = some o -> Near o (h'.get? b) := fun b o hb ho => by
    refine xAE (t.keep b o hb ho) fun k1 sl k2 => ?_
    by_cases hf : b ∈ Fs
    . refine xEEEA (hF b hf) fun o2 es ep e2 hd2 => ?_
      rw [ho] at e2; cases e2
      exact .inr ⟨⟨es, ep, hd2⟩, sl, k2⟩
    . exact .inl (k1 hf)
  refine ⟨f.kind, f.len, f.inj, f.lt, f.glob, f.wr, ⟨m, near_ns hn fun o ho => near _ o hL ho, fun x i hx => ?_⟩, f.out, f.new, f.globals, f.builtins, fun p hp => ?_, f.apart, f.kinds⟩
  . rcases hm x i hx with ⟨hk, hv⟩ | ⟨hk, c, ov, hc, hi, hv⟩
    . exact .inl ⟨hk, fun av e => (hv av e).imp fun _ q => ⟨q.1, RV.fixes fx _ _ q.2⟩⟩
    . exact .inr ⟨hk, c, ov, hc, near_cell hi fun o ho => near _ o (hC (x, c) (mem_of_lookup' hc)) ho, fun av e => (hv av e).imp fun _ q => ⟨q.1, RV.fixes fx _ _ q.2⟩⟩
  . refine xEEA (f.cells p hp) fun o v ho hd => ?_
    refine xEAAA ((near _ o (hC p hp) ho).get) fun o' e _ hd' _ => ?_
    exact ⟨o', v, e, hd'.trans hd⟩
theorem entry_fly (hfr : A.frames = some (env :: outer)) (F : Frs P s.heap σ A) (hf : env.frame = some L)
    (hd₀ : ∀ b, s.heap.get? b = none -> h₀.get? b = none) (hσ : ∀ p ∈ σ, s.heap.get? p.1 ≠ none) (he : s.heap.get? e = some oe) (hg : P.mg k = some (.ref C)) (hc : oe.cls = .ref C) (hd : oe.data = .fields vs) (hsz : 1 < vs.size) (h0 : h₀.get? e = none) (hout : e ∉ σ.map (·.1))
    (hQ : ∀ h', Tch σ h₀ (places (env :: outer)) [e] s.heap h' -> FlyT P σ h₀ k e h' -> Q () { s with heap := h' }) :
    wpAny (model P.prog P.w) A (do let a <- frameOf env; let pl <- entryPlaceOf L hadNext; let b <- EntryCells.newEntry head a .none (rawInt L) .none pl; setField (.ref e) 1 b) Q E s := by
  have hene : e ∉ places (env :: outer) := fun hm => by
    refine xAAEEEA (F.place hfr hm) fun _ _ o es ep ho hq => ?_
    rw [he] at ho; cases ho; rw [hd] at hq; cases hq
  refine wpAny_bind (wpAny_frameOf_fun hfr (F.fun hfr) hf fun h₁ hs₁ => ?_)
  refine wpAny_bind (wpAny_entryPlaceOf fun pl hpl => ?_)
  unfold EntryCells.newEntry newFields
  refine wpAny_bind (wpAny_newObj_type ?_ (hpl.sizeOk5 _ _ _ _ _))
  have he₁ : h₁.get? e = some oe := (hs₁.2.1 e hene).trans he
  generalize hT : ({ cls := .type "traceback", dict := none, data := .fields ([head, .ref L, .none, rawInt L, .none] ++ (if pl.isEmpty then List.replicate 6 Value.none else pl)).toArray } : Obj) = oT
  have he₂ := Heap.get?_push_of_some (h := h₁) oT he₁
  refine wpAny_setField he₂ hd hsz (hQ _ ?_ ?_)
  . refine ⟨fun d hm => ?_, fun b o hb ho => ?_, fun d hm o ho => ?_⟩
    . rcases List.mem_singleton.mp hm with rfl
      exact ⟨h0, hout, fun o ho => by rw [he] at ho; cases ho; exact ⟨vs, hd, by rw [hc]; exact fun q => nomatch q⟩⟩
    . have hbe : b ≠ e := fun q => hb (by rw [q]; exact List.mem_singleton.mpr rfl)
      refine xE (hs₁.2.2 b o ho) fun sl e1 => ?_
      have up : ∀ o', h₁.get? b = some o' -> ((h₁.push oT).update e (Obj.mapFields (·.setIfInBounds 1 (Value.ref h₁.objs.size)))).get? b = some o' := fun o' h' => by
        rw [Heap.get?_update_other _ _ (Ne.symm hbe)]; exact Heap.get?_push_of_some _ h'
      exact ⟨fun hF => up o ((hs₁.2.1 b hF).trans ho), sl, up _ e1⟩
    . rcases List.mem_singleton.mp hm with rfl
      have hd₃ := Obj.data_mapFields hd (·.setIfInBounds 1 (Value.ref h₁.objs.size))
      exact ⟨_, Heap.get?_update_self _ he₂ (Obj.isFreed_of_fields hd₃)⟩
  . have hTe : h₁.objs.size ≠ e := Nat.ne_of_gt (Heap.lt_size he₁)
    have hd₃ := Obj.data_mapFields hd (·.setIfInBounds 1 (Value.ref h₁.objs.size))
    have hfree : s.heap.get? h₁.objs.size = none := Heap.get?_none_of_le (by rw [hs₁.1]; exact Nat.le_refl _)
    refine ⟨⟨_, _, C, h₁.objs.size, oT, ([head, .ref L, .none, rawInt L, .none] ++ (if pl.isEmpty then List.replicate 6 Value.none else pl)).toArray, rawInt L, Heap.get?_update_self _ he₂ (Obj.isFreed_of_fields hd₃), hg, (Obj.cls_mapFields _ _).trans hc, hd₃, by simp [hsz], hTe, ?_, by rw [<- hT], by rw [<- hT], by simp, hd₀ _ hfree, fun hm => ?_⟩, h0, hout⟩
    . rw [Heap.get?_update_other _ _ (Ne.symm hTe)]; exact Heap.get?_push_size h₁ (by rw [<- hT]; rfl)
    . refine xEA (List.mem_map.mp hm) fun p hp e => ?_
      exact hσ p hp (by rw [e]; exact hfree)
theorem note_fly (hfr : A.frames = some (env :: outer)) (F : Frs P s.heap σ A) (hf : env.frame = some L)
    (hd₀ : ∀ b, s.heap.get? b = none -> h₀.get? b = none) (hσ : ∀ p ∈ σ, s.heap.get? p.1 ≠ none) (fl : Fly P σ h₀ k e s.heap)
    (hQ : ∀ h' D, Tch σ h₀ (places (env :: outer)) D s.heap h' -> FlyT P σ h₀ k e h' -> Q () { s with heap := h' }) : wpAny (model P.prog P.w) A (noteFrame (.ref e) env) Q E s := by
  refine xEEEAAAA fl.obj fun oe vs C he hg hc hd ht => ?_
  unfold noteFrame
  simp only [hf]
  rcases ht with h1 | ⟨T, oT, ts, fv, h1, hTe, hT, hcT, hdT, h3, hnT, hoT⟩
  . refine wpAny_bind (wpAny_field he hd h1 ?_)
    rw [if_neg (by decide)]
    exact entry_fly hfr F hf hd₀ hσ he hg hc hd (Array.getElem?_eq_some_iff.mp h1).1 fl.new fl.out fun h' t ft => hQ h' [e] t ft
  . refine wpAny_bind (wpAny_field he hd h1 ?_)
    rw [if_pos (show (Value.ref T != Value.none) = true from by simp)]
    refine wpAny_bind (wpAny_field hT hdT h3 ?_)
    by_cases hv : (fv == rawInt L) = true
    . rw [if_pos hv]
      exact wpAny_pure (hQ s.heap [] ⟨(fun d hm => nomatch hm), (fun b o _ ho => ⟨fun _ => ho, o.slots, ho⟩), (fun d hm => nomatch hm)⟩ ⟨⟨oe, vs, C, T, oT, ts, fv, he, hg, hc, hd, h1, hTe, hT, hcT, hdT, h3, hnT, hoT⟩, fl.new, fl.out⟩)
    . rw [if_neg hv]
      refine wpAny_bind (wpAny_setField hT hdT (Array.getElem?_eq_some_iff.mp h3).1 ?_)
      have other : ∀ b, b ≠ T -> (s.heap.update T (Obj.mapFields (·.setIfInBounds 3 Value.none))).get? b = s.heap.get? b := fun b hb => Heap.get?_update_other _ _ (Ne.symm hb)
      have hTn : (s.heap.update T (Obj.mapFields (·.setIfInBounds 3 Value.none))).get? T = some (oT.mapFields (·.setIfInBounds 3 Value.none)) := Heap.get?_update_self _ hT (Obj.isFreed_of_fields (Obj.data_mapFields hdT _))
      have t1 : Tch σ h₀ (places (env :: outer)) [T] s.heap (s.heap.update T (Obj.mapFields (·.setIfInBounds 3 Value.none))) := by
        refine ⟨fun d hm => ?_, fun b o hb ho => ?_, fun d hm o ho => ?_⟩
        . rcases List.mem_singleton.mp hm with rfl
          exact ⟨hnT, hoT, fun o ho => by rw [hT] at ho; cases ho; exact ⟨ts, hdT, by rw [hcT]; exact fun q => absurd (Value.type.inj q) (by decide)⟩⟩
        . have hbT : b ≠ T := fun q => hb (by rw [q]; exact List.mem_singleton.mpr rfl)
          exact ⟨fun _ => (other b hbT).trans ho, o.slots, (other b hbT).trans ho⟩
        . rcases List.mem_singleton.mp hm with rfl
          exact ⟨_, hTn⟩
      have ndT : ∀ b o es ep, s.heap.get? b = some o -> o.data = .dict es ep -> b ≠ T := fun b o es ep ho hq q => by
        rw [q, hT] at ho; cases ho; rw [hdT] at hq; cases hq
      refine entry_fly (s := { s with heap := s.heap.update T (Obj.mapFields (·.setIfInBounds 3 Value.none)) }) hfr ?_ hf ?_ ?_ ((other e (Ne.symm hTe)).trans he) hg hc hd (Array.getElem?_eq_some_iff.mp h1).1 fl.new fl.out fun h' t ft => ?_
      . intro l hl f hm
        refine xAEEEEAAAA (F l hl f hm) fun hk L' o es ep q1 q2 q3 q4 q5 => ?_
        exact ⟨hk, L', o, es, ep, q1, q2, (other L' (ndT L' o es ep q3 q4)).trans q3, q4, q5⟩
      . intro b hb
        by_cases q : b = T
        . subst q; exact hnT
        . exact hd₀ b ((other b q).symm.trans hb)
      . intro p hp hb
        by_cases q : p.1 = T
        . exact hoT (q ▸ List.mem_map_of_mem hp)
        . exact hσ p hp ((other _ q).symm.trans hb)
      . exact hQ h' _ (t1.trans t) ft
theorem flight_fly (fl : FlyT P σ h₀ k e s.heap) (hQ : ∀ h' D, Tch σ h₀ Fs D s.heap h' -> FlyT P σ h₀ k e h' -> Q () { s with heap := h' }) : wpAny (model P.prog P.w) A (setFlight (.ref e) fr) Q E s := by
  refine xEEEEEEEAAAAA fl.obj fun oe vs C T oT ts fv he hg hc hd h1 qq1 => ?_; refine xAAAAAA qq1 fun hTe hT hcT hdT h3 hnT hoT => ?_
  unfold setFlight
  refine wpAny_bind (wpAny_field he hd h1 ?_)
  rw [if_pos (show (Value.ref T != Value.none) = true from by simp)]
  have hsz : 3 < ts.size := (Array.getElem?_eq_some_iff.mp h3).1
  refine wpAny_setField hT hdT hsz (hQ _ [T] ?_ ?_)
  . refine ⟨fun d hm => ?_, fun b o hb ho => ?_, fun d hm o ho => ?_⟩
    . rcases List.mem_singleton.mp hm with rfl
      exact ⟨hnT, hoT, fun o ho => by rw [hT] at ho; cases ho; exact ⟨ts, hdT, by rw [hcT]; exact fun q => absurd (Value.type.inj q) (by decide)⟩⟩
    . have hbT : b ≠ T := fun q => hb (by rw [q]; exact List.mem_singleton.mpr rfl)
      have := (Heap.get?_update_other s.heap (Obj.mapFields (·.setIfInBounds 3 (fr.elim Value.none fun f => rawInt f))) (Ne.symm hbT)).trans ho
      exact ⟨fun _ => this, o.slots, this⟩
    . rcases List.mem_singleton.mp hm with rfl
      exact ⟨_, Heap.get?_update_self _ hT (Obj.isFreed_of_fields (Obj.data_mapFields hdT _))⟩
  . refine ⟨⟨oe, vs, C, T, _, _, (fr.elim Value.none fun f => rawInt f), (Heap.get?_update_other _ _ hTe).trans he, hg, hc, hd, h1, hTe, Heap.get?_update_self _ hT (Obj.isFreed_of_fields (Obj.data_mapFields hdT _)), (Obj.cls_mapFields _ _).trans hcT, Obj.data_mapFields hdT _, by simp [hsz], hnT, hoT⟩, fl.new, fl.out⟩
theorem leave_fly (hfr : A.frames = some (env :: outer)) (F : Frs P s.heap σ A) (hf : env.frame = some L)
    (hd₀ : ∀ b, s.heap.get? b = none -> h₀.get? b = none) (hσ : ∀ p ∈ σ, s.heap.get? p.1 ≠ none) (fl : Fly P σ h₀ k e s.heap)
    (hQ : ∀ h' D, Tch σ h₀ (places (env :: outer)) D s.heap h' -> FlyT P σ h₀ k e h' -> Q () { s with heap := h' }) : wpAny (model P.prog P.w) A (noteFrame (.ref e) env) (fun _ s₂ => wpAny (model P.prog P.w) A (setFlight (.ref e) fr) Q E s₂) E s :=
  note_fly hfr F hf hd₀ hσ fl fun h' D t ft => flight_fly (s := { s with heap := h' }) ft fun h'' D' t' ft' => hQ h'' _ (t.trans t') ft'
theorem back_fly (fl : FlyT P σ h₀ k e s.heap) (hQ : ∀ h' D, Tch σ h₀ Fs D s.heap h' -> FlyT P σ h₀ k e h' -> E (.ref e) { s with heap := h' }) : cameBackBy (model P.prog P.w) A env E (.ref e) s := by
  refine xEEEEEEEAAAAA fl.obj fun oe vs C T oT ts fv he hg hc hd h1 r => ?_
  unfold cameBackBy
  refine wpAny_bind (wpAny_field he hd h1 ?_)
  rw [if_neg (show ¬ (Value.ref T == Value.none) = true from by simp)]
  exact flight_fly fl hQ
theorem alive (a : After P σ σ' X hp' s₀ s) : (∀ b, s.heap.get? b = none -> s₀.heap.get? b = none) /\ ∀ p ∈ σ', s.heap.get? p.1 ≠ none :=
  ⟨fun b hb => new_before a.gr hb, fun p hp => by refine xEA (a.st.there hp) fun o e _ => ?_; rw [e]; exact fun q => nomatch q⟩
end
end
section
open PySem PySem.Spec PyProof.Rows PySem.SeqAt
structure InvS (P : Par) (cx : Cx) (n : Nat) (q : Bool) (env : Env) (A : Around) (σ : Sg) (l : Locs) (hp : AHeap) (s : Shared) : Prop extends Inv P cx n q env A σ l hp s where
  top : ∃ outer, A.frames = some (env :: outer)
  own : env.frame = some env.locals
noncomputable def SimSt (P : Par) (cx : Cx) (st : Stmt) (x : S) : Prop :=
  ∀ c n env A σ l hp s, Sims P cx c n -> InvS P cx n c.q env A σ l hp s -> execS c x l hp ≠ .bad ->
    wpAny (model P.prog P.w) A (exec st env) (QS P env cx σ s (execS c x l hp)) (QES P env cx σ s (execS c x l hp)) s
noncomputable def SimSs (P : Par) (cx : Cx) (st : List Stmt) (x : Ss) : Prop :=
  ∀ c n env A σ l hp s, Sims P cx c n -> InvS P cx n c.q env A σ l hp s -> execSs c x l hp ≠ .bad ->
    wpAny (model P.prog P.w) A (execs st env) (QS P env cx σ s (execSs c x l hp)) (QES P env cx σ s (execSs c x l hp)) s
section
variable {P : Par} {cx : Cx} {env : Env} {A : Around} {σ σ' : Sg} {l l' : Locs} {hp hp' : AHeap} {s s' : Shared} {n : Nat} {q : Bool}
theorem Frs.afterX (F : Frs P s.heap σ A) (g : Grows σ σ' (FX env) s.heap s'.heap) (f : Frm P s.heap σ env cx l) (f' : Frm P s'.heap σ' env cx l') : Frs P s'.heap σ' A := fun fr hl e hm => by
  refine xAEEEEAAAA (F fr hl e hm) fun hk L o es ep h1 h2 h3 h4 h5 => ?_
  by_cases hL : L = env.locals
  . refine xEEEA f'.nsObj fun o' es' ep' ho' hd' => ?_
    exact ⟨hk, L, o', es', ep', h1, h2, hL ▸ ho', hd', not_mem_grown g h3 h5⟩
  . have hX : L ∉ FX env := fun hx => by
      rcases List.mem_cons.mp hx with q | hx
      . exact hL q
      . refine xEA (List.mem_map.mp hx) fun p hp q => ?_
        refine xEEA (f.cells p hp) fun o' v ho' hd' => ?_
        rw [q, h3] at ho'; cases ho'; rw [h4] at hd'; cases hd'
    refine xEAAA ((g.oth L o h3 h5 hX).get) fun o' e' _ hd' _ => ?_
    exact ⟨hk, L, o', es, ep, h1, h2, e', hd'.trans h4, not_mem_grown g h3 h5⟩
theorem InvS.afterX (I : InvS P cx n q env A σ l hp s) (a : After P σ σ' (FX env) hp' s s') (f : Frm P s'.heap σ' env cx l') : InvS P cx n q env A σ' l' hp' s' := ⟨⟨a.st, f, I.ar, I.fs.afterX a.gr I.fr f⟩, I.top, I.own⟩
theorem InvS.after (I : InvS P cx n q env A σ l hp s) (a : After P σ σ' [] hp' s s') : InvS P cx n q env A σ' l hp' s' := ⟨I.toInv.after a, I.top, I.own⟩
theorem QS.lift (a : After P σ σ' (FX env) hp' s s') (q : QS P env cx σ' s' r f s'') : QS P env cx σ s r f s'' := by
  obtain ⟨fl, l', h2, σ₂, e, b, rf, fr⟩ := q
  exact ⟨fl, l', h2, σ₂, e, a.trans b, rf, fr⟩
theorem QES.lift (a : After P σ σ' (FX env) hp' s s') (q : QES P env cx σ' s' r v s'') : QES P env cx σ s r v s'' := by
  obtain ⟨k, l', h2, σ₂, e, er, ev, b, fl, fr⟩ := q
  exact ⟨k, l', h2, σ₂, e, er, ev, a.trans b, fl.lift a.gr, fr⟩
theorem After.toX {X : List Addr} (a : After P σ σ' [] hp' s s') : After P σ σ' X hp' s s' := a.more fun _ h => nomatch h
theorem st_ok {α : Type} {r : Res α} {f : α -> AHeap -> SR} (h : r.st l f ≠ .bad) : r ≠ .bad := fun e => h (by rw [e]; rfl)
theorem turn_ok {r : SR} (h : r.turn f ≠ .bad) : r ≠ .bad := fun e => h (by rw [e]; rfl)
theorem lap_ok {r : SR} (h : r.lap f ≠ .bad) : r ≠ .bad := fun e => h (by rw [e]; rfl)
theorem condS_is (hb : condS v x y ≠ .bad) : ∃ b, v = .bool b := by
  rcases v with _ | _ <;> first | exact absurd rfl hb | exact ⟨_, rfl⟩
theorem boolR_of {x y : AV -> AHeap -> SR} (hb : (r.st l fun v h => condS v (x v h) (y v h)) ≠ .bad) : BoolR r := fun av h e => by
  rw [e] at hb
  exact condS_is hb
theorem QE.st {α : Type} {r : Res α} {f : α -> AHeap -> SR} (fr : Frm P s.heap σ env cx l) (q : QE P σ s r v s'') : QES P env cx σ s (r.st l f) v s'' := by
  obtain ⟨k, h2, σ₂, e, er, ev, b, fl⟩ := q
  exact ⟨k, l, h2, σ₂, e, by rw [er]; rfl, ev, b.toX, fl, fr.after b⟩
theorem seqS {m : Sem Value} {r : Res AV} {G : SR -> Value -> Shared -> Prop} (a₀ : After P σ₀ σ [] hp₀ s₀ s) (f₀ : Frm P s.heap σ env cx l)
    (h : wpAny (model P.prog P.w) A m (QV P σ s r) (QE P σ s r) s) (hb : r.st l f ≠ .bad)
    (hk : ∀ av hp' σ' v s', After P σ σ' [] hp' s s' -> RV P.B s'.heap σ' av v -> f av hp' ≠ .bad -> G (f av hp') v s') :
    wpAny (model P.prog P.w) A m (G (r.st l f)) (QES P env cx σ₀ s₀ (r.st l f)) s :=
  wpAny_mono h (fun v s' ⟨av, hp', σ', e, a, rv⟩ => by subst e; exact hk av hp' σ' v s' a rv hb) (fun _ _ q => (q.st f₀).lift a₀.toX)
theorem not_inter (I : Inv P cx n q env A σ l hp s) : interactive env = false := by
  unfold interactive; rw [I.fr.kind]; rfl
theorem swaps_no (h : isComp e = false) : swapsWith e t k env = pure false := by
  unfold swapsWith
  rcases e with _ | _ <;> first | rfl | (cases h; done)
theorem simSt_expr {x : X} {pos : Pos} (hc : isComp e = false) (h : SimE P cx e x) : SimSt P cx (.Expr e pos) (.expr x) := by
  intro c n env A σ l hp s C I hb
  rw [s_expr] at hb |-
  refine wpAny_Expr_any (seqS (G := fun R v s' => QS P env cx σ s R .next s') (.refl I.st) I.fr (h c n env A σ l hp s C I.toInv (st_ok hb)) hb ?_) (not_inter I.toInv) (swaps_no hc)
  intro av hp' σ' v s' a rv hb
  exact ⟨_, _, _, _, rfl, a.toX, rfl, I.fr.after a⟩
theorem simSt_ret {x : X} {pos : Pos} (h : SimE P cx e x) : SimSt P cx (.Return (some e) pos) (.ret x) := by
  intro c n env A σ l hp s C I hb
  rw [s_ret] at hb |-
  refine wpAny_Return_some (seqS (G := fun R v s' => QS P env cx σ s R (.ret v) s') (.refl I.st) I.fr (h c n env A σ l hp s C I.toInv (st_ok hb)) hb ?_)
  intro av hp' σ' v s' a rv hb
  exact ⟨_, _, _, _, rfl, a.toX, ⟨v, rfl, rv⟩, I.fr.after a⟩
theorem simSt_asg {x : X} {p pos : Pos} (hw : cx.slotW y = some i) (hc : isComp e = false) (h : SimE P cx e x) : SimSt P cx (.Assign [.Name y p] e pos) (.asg i x) := by
  intro c n env A σ l hp s C I hb
  rw [s_asg] at hb |-
  refine wpAny_Assign_Name (seqS (G := fun R v s' => wpAny (model P.prog P.w) A (storeName env y v) (fun _ => QS P env cx σ s R .next) (QES P env cx σ s R) s') (.refl I.st) I.fr (h c n env A σ l hp s C I.toInv (st_ok hb)) hb ?_) (swaps_no hc)
  intro av hp' σ' v s' a rv hb
  refine store_prim a.st (I.fr.after a) hw rv fun s'' a2 fr _ => ?_
  exact ⟨_, _, _, _, rfl, a.toX.trans a2, rfl, fr⟩
theorem setD_is {j : Nat} {kvs : List (Key × AV)} {ep : Nat} {v : AV} {o : Option Key} {h' : AHeap} (h : setD hp j kvs ep v o = some h') : ∃ k, o = some k /\ sortOk kvs k = true /\ kvs.length < sizeLim /\ h' = hp.set j (.dict (dictPut kvs k v) (if (kvs.lookup k).isSome then ep else ep + 1)) := by
  rcases o with _ | k
  case none => exact none_ne h
  case some =>
    refine xA (iteN h) fun hs h => ?_
    rw [Bool.and_eq_true, decide_eq_true_eq] at hs
    exact ⟨_, rfl, hs.1, hs.2, (Option.some.inj h).symm⟩
theorem setItem_prim (S : St P.w P.B σ hp s.heap) (ar : Arnd n q A) (ro : RV P.B s.heap σ o v) (rk : RV P.B s.heap σ k u) (rx : RV P.B s.heap σ x w) (h : setItemAV o k x hp = some hp')
    (hq : ∀ s', After P σ σ [] hp' s s' -> Q () s') : wpAny (model P.prog P.w) A (setItem v u w) Q E s := by
  rcases o with _ | _
  case loc j =>
    refine xEEA ro fun a off qq1 e1 => ?_; try clear ro; subst qq1
    delta setItemAV at h
    dsimp only at h
    rcases hj : hp[j]? with _ | ob
    case none => rw [hj] at h; exact none_ne h
    case some =>
      rw [hj] at h
      rcases ob with _ | _
      case dict kvs ep =>
        refine xEAAA (setD_is h) fun key hkey hso hsz qq1 => ?_; subst qq1
        rw [key_av hkey] at rk
        exact setItem_dict S hj e1 rk hso (by have := ar.units; lia) hsz rx hq
      all_goals exact none_ne h
  all_goals exact none_ne h
theorem simSt_seta {a : Str} {p pos : Pos} (ha : cx.attrs.contains a = true) (hc : isComp e = false) (ho : SimE P cx o xo) (h : SimE P cx e x) : SimSt P cx (.Assign [.Attribute o a p] e pos) (.setattr a xo x) := by
  intro c n env A σ l hp s C I hb
  rw [s_seta] at hb |-
  refine plainObj_wpAny_Assign_Attribute (seqS (G := fun R v s₁ => wpAny (model P.prog P.w) A (eval o env) (fun ov s₂ => wpAny (model P.prog P.w) A (setAttr ov a v) (fun _ => QS P env cx σ s R .next) (QES P env cx σ s R) s₂) (QES P env cx σ s R) s₁) (.refl I.st) I.fr (h c n env A σ l hp s C I.toInv (st_ok hb)) hb ?_) (swaps_no hc)
  intro av hp₁ σ₁ v s₁ a₁ rv hb
  have I₁ := I.after a₁
  refine seqS (G := fun R ov s₂ => wpAny (model P.prog P.w) A (setAttr ov a v) (fun _ => QS P env cx σ s R .next) (QES P env cx σ s R) s₂) a₁ I₁.fr (ho c n env A σ₁ l hp₁ s₁ C I₁.toInv (st_ok hb)) hb ?_
  intro ov hp₂ σ₂ u s₂ a₂ ru hb
  rcases hset : setAttrAV a ov av hp₂ with _ | hp₃
  case none => rw [hset] at hb; exact absurd rfl hb
  case some =>
    refine setattr_prim C.ok a₂.st (C.attrs ▸ ha) ru (RV.grows a₂.gr _ _ rv) hset fun s₃ a₃ => ?_
    have a := (a₁.trans a₂).trans a₃
    exact ⟨_, _, _, _, rfl, a.toX, rfl, I.fr.after a⟩
theorem simSt_set {xo xk x : X} {p pos : Pos} (hc : isComp e = false) (ho : SimE P cx o xo) (hk : SimE P cx k xk) (h : SimE P cx e x) : SimSt P cx (.Assign [.Subscript o k p] e pos) (.setitem xo xk x) := by
  intro c n env A σ l hp s C I hb
  rw [s_set] at hb |-
  refine wpAny_Assign_Subscript (seqS (G := fun R v s₁ => wpAny (model P.prog P.w) A (eval o env) (fun ov s₂ => wpAny (model P.prog P.w) A (eval k env) (fun iv s₃ => wpAny (model P.prog P.w) A (setItem ov iv v) (fun _ => QS P env cx σ s R .next) (QES P env cx σ s R) s₃) (QES P env cx σ s R) s₂) (QES P env cx σ s R) s₁) (.refl I.st) I.fr (h c n env A σ l hp s C I.toInv (st_ok hb)) hb ?_) (swaps_no hc)
  intro av hp₁ σ₁ v s₁ a₁ rv hb
  have I₁ := I.after a₁
  refine seqS (G := fun R ov s₂ => wpAny (model P.prog P.w) A (eval k env) (fun iv s₃ => wpAny (model P.prog P.w) A (setItem ov iv v) (fun _ => QS P env cx σ s R .next) (QES P env cx σ s R) s₃) (QES P env cx σ s R) s₂) a₁ I₁.fr (ho c n env A σ₁ l hp₁ s₁ C I₁.toInv (st_ok hb)) hb ?_
  intro ov hp₂ σ₂ u s₂ a₂ ru hb
  have I₂ := I₁.after a₂
  refine seqS (G := fun R iv s₃ => wpAny (model P.prog P.w) A (setItem u iv v) (fun _ => QS P env cx σ s R .next) (QES P env cx σ s R) s₃) (a₁.trans a₂) I₂.fr (hk c n env A σ₂ l hp₂ s₂ C I₂.toInv (st_ok hb)) hb ?_
  intro kv hp₃ σ₃ w s₃ a₃ rw' hb
  rcases hset : setItemAV ov kv av hp₃ with _ | hp₄
  case none => rw [hset] at hb; exact absurd rfl hb
  case some =>
    refine setItem_prim a₃.st I.ar (RV.grows a₃.gr _ _ ru) rw' (RV.grows a₃.gr _ _ (RV.grows a₂.gr _ _ rv)) hset fun s₄ a₄ => ?_
    have a := ((a₁.trans a₂).trans a₃).trans a₄
    exact ⟨_, _, _, _, rfl, a.toX, rfl, I.fr.after a⟩
theorem simSt_if {x : X} {b o : List Stmt} {xb xo : Ss} {pos : Pos} (ht : SimT P cx t x) (hb : SimSs P cx b xb) (ho : SimSs P cx o xo) : SimSt P cx (.If t b o pos) (.iff x xb xo) := by
  intro c n env A σ l hp s C I hbad
  rw [s_iff] at hbad |-
  refine wpAny_If (wpAny_mono (ht c n env A σ l hp s C I.toInv (st_ok hbad) (boolR_of hbad)) (fun k s' ⟨hp', σ', e, a⟩ => ?_) fun _ _ q => q.st I.fr)
  rw [e] at hbad |-
  have I' := I.after a
  rcases k with _ | _
  case true =>
    rw [if_pos rfl]
    exact wpAny_mono (hb c n env A σ' l hp' s' C I' hbad) (fun _ _ q => q.lift a.toX) (fun _ _ q => q.lift a.toX)
  case false =>
    exact wpAny_mono (ho c n env A σ' l hp' s' C I' hbad) (fun _ _ q => q.lift a.toX) (fun _ _ q => q.lift a.toX)
theorem simSs_nil : SimSs P cx [] .nil := by
  intro c n env A σ l hp s C I hb
  exact wpAny_execs_nil ⟨_, _, _, _, rfl, .refl I.st, rfl, I.fr⟩
theorem QES.turn (q : QES P env cx σ s r v s'') : QES P env cx σ s (r.turn f) v s'' := by
  obtain ⟨k, l', h2, σ₂, e, er, ev, b, fl, fr⟩ := q
  exact ⟨k, l', h2, σ₂, e, by rw [er]; rfl, ev, b, fl, fr⟩
theorem simSs_cons {st : Stmt} {x : S} (h : SimSt P cx st x) (hr : SimSs P cx sts xs) : SimSs P cx (st :: sts) (.cons x xs) := by
  intro c n env A σ l hp s C I hb
  rw [ss_cons] at hb |-
  refine wpAny_execs_cons (wpAny_mono (h c n env A σ l hp s C I (turn_ok hb)) (fun f s' q => ?_) (fun _ _ q => q.turn))
  obtain ⟨fl, l', hp', σ', e, a, rf, fr⟩ := q
  rw [e] at hb |-
  rcases fl with _ | av | _
  case next =>
    rcases (show f = .next from rf) with rfl
    exact wpAny_mono (hr c n env A σ' l' hp' s' C (I.afterX a fr) hb) (fun _ _ q => q.lift a) (fun _ _ q => q.lift a)
  case ret =>
    refine xEA rf fun v qq1 rv => ?_; try clear rf; subst qq1
    exact ⟨_, _, _, _, rfl, a, ⟨v, rfl, rv⟩, fr⟩
  case cont =>
    rcases (show f = .cont from rf) with rfl
    exact ⟨_, _, _, _, rfl, a, rfl, fr⟩
theorem noExc_ok {α : Type} {r : Res α} (h : r.noExc ≠ .bad) : r ≠ .bad /\ (∀ k h', r ≠ .exc k h') /\ r.noExc = r := by
  rcases r with ⟨a, h'⟩ | ⟨k, h'⟩ | _
  case ok => exact ⟨(fun e => nomatch e), (fun _ _ e => nomatch e), rfl⟩
  case exc => exact absurd rfl h
  case bad => exact absurd rfl h
theorem noExcS_ok {r : SR} (h : r.noExc ≠ .bad) : r ≠ .bad /\ (∀ k l' h', r ≠ .exc k l' h') /\ r.noExc = r := by
  rcases r with ⟨f, l', h'⟩ | ⟨k, l', h'⟩ | _
  case ok => exact ⟨(fun e => nomatch e), (fun _ _ _ e => nomatch e), rfl⟩
  case exc => exact absurd rfl h
  case bad => exact absurd rfl h
theorem QE.none {α : Type} {r : Res α} (h : ∀ k h', r ≠ .exc k h') (q : QE P σ s r v s'') : False := by
  obtain ⟨k, h2, σ₂, e, er, _⟩ := q
  exact h _ _ er
theorem QES.none (h : ∀ k l' h', r ≠ .exc k l' h') (q : QES P env cx σ s r v s'') : False := by
  obtain ⟨k, l', h2, σ₂, e, er, _⟩ := q
  exact h _ _ _ er
inductive WhInv (P : Par) (cx : Cx) (env : Env) (c : Ctx) (x : X) (xb : Ss) (σ : Sg) (s : Shared) (R : SR) (f : Nat) (s' : Shared) : Prop
  | mk (l' : Locs) (hp' : AHeap) (σ' : Sg) (hR : whileLoop (fun l h => (evalX c x l h).noExc) (fun l h => (execSs c xb l h).noExc) f l' hp' = R) (a : After P σ σ' (FX env) hp' s s') (fr : Frm P s'.heap σ' env cx l') : WhInv P cx env c x xb σ s R f s'
theorem simSt_while {b : List Stmt} {xb : Ss} {pos : Pos} (ht : SimT P cx t x) (hbody : SimSs P cx b xb) : SimSt P cx (.While t b [] pos) (.whil x xb) := by
  intro c n env A σ l hp s C I hb
  rw [s_whil] at hb |-
  generalize hR : whileLoop (fun l h => (evalX c x l h).noExc) (fun l h => (execSs c xb l h).noExc) c.fuel l hp = R at hb |-
  refine wpAny_While (codeAny_whileLoop (WhInv P cx env c x xb σ s R) ?_ c.fuel ⟨l, hp, σ, hR, .refl I.st, I.fr⟩)
  rintro f s' ⟨l', hp', σ', hR', a, fr⟩
  rcases f with _ | f
  case zero => exact absurd hR'.symm hb
  case succ =>
    have hR' : ((evalX c x l' hp').noExc.st l' fun v h => condS v (((execSs c xb l' h).noExc).lap (whileLoop (fun l h => (evalX c x l h).noExc) (fun l h => (execSs c xb l h).noExc) f)) (.ok .next l' h)) = R := hR'
    have hb' := hR'.symm ▸ hb
    refine xAA (noExc_ok (st_ok hb')) fun hx1 hx2 hx3 => ?_
    rw [hx3] at hR' hb'
    refine wpAny_mono (ht c n env A σ' l' hp' s' C (I.afterX a fr).toInv hx1 (boolR_of hb')) (fun k s₂ ⟨hp₂, σ₂, e, a₂⟩ => ?_) fun _ _ q => (q.none hx2).elim
    rw [e] at hR' hb'
    have fr₂ := fr.after a₂
    have a₂ := a.trans a₂.toX
    rcases k with _ | _
    case false =>
      refine wpAny_execs_nil ?_
      rw [<- hR']
      exact ⟨_, _, _, _, rfl, a₂, rfl, fr₂⟩
    case true =>
      have hR' : ((execSs c xb l' hp₂).noExc).lap (whileLoop (fun l h => (evalX c x l h).noExc) (fun l h => (execSs c xb l h).noExc) f) = R := hR'
      rw [if_pos rfl]
      refine xAA (noExcS_ok (lap_ok (hR'.symm ▸ hb))) fun hy1 hy2 hy3 => ?_
      rw [hy3] at hR'
      refine wpAny_mono (hbody c n env A σ₂ l' hp₂ s₂ C (I.afterX a₂ fr₂) hy1) (fun fl s₃ q => ?_) fun _ _ q => (q.none hy2).elim
      obtain ⟨fl', l₃, hp₃, σ₃, e₃, a₃, rf, fr₃⟩ := q
      rw [e₃] at hR'
      have a₃ := a₂.trans a₃
      rcases fl' with _ | av | _
      case next => rcases (show fl = .next from rf) with rfl; exact ⟨f, Nat.lt_succ_self f, l₃, hp₃, σ₃, hR', a₃, fr₃⟩
      case cont => rcases (show fl = .cont from rf) with rfl; exact ⟨f, Nat.lt_succ_self f, l₃, hp₃, σ₃, hR', a₃, fr₃⟩
      case ret =>
        refine xEA rf fun v qq1 rv => ?_; try clear rf; subst qq1
        show QS P env cx σ s R (.ret v) s₃
        rw [<- hR']
        exact ⟨_, _, _, _, rfl, a₃, ⟨v, rfl, rv⟩, fr₃⟩
theorem folded_ok (h : compE k cx e = some x) (v : Value) : foldedSetIterable e env v = pure v := by
  rcases k with _ | k
  case zero => exact none_ne h
  case succ => rcases e with _ | _ <;> first | exact rfl | exact none_ne h
theorem frm_iter (f : Frm P s.heap σ env cx l) (h : IterObj s.heap it) : it ∉ FX env := by
  refine xEEEAAA h fun o T fs ho hc _ hd => ?_
  intro hm
  simp only [FX, List.mem_cons, List.mem_map] at hm
  rcases hm with rfl | ⟨p, hp, rfl⟩
  . refine xEEEA f.nsObj fun o' es ep ho' hd' => ?_
    rw [ho] at ho'; cases ho'; rw [hd] at hd'; cases hd'
  . refine xEEA (f.cells p hp) fun o' v ho' hd' => ?_
    rw [ho] at ho'; cases ho'; rw [hd] at hd'; cases hd'
theorem Frm.extBut (f : Frm P s.heap σ env cx l) (hn : it ∉ FX env) (hx : ∀ x v, RV P.B s.heap σ x v -> RV P.B h' σ x v) (hk : ∀ b o, b ≠ it -> s.heap.get? b = some o -> h'.get? b = some o) : Frm P h' σ env cx l := by
  simp only [FX, List.mem_cons, List.mem_map, not_or, not_exists, not_and] at hn
  refine xEA f.names fun m qq1 hm => ?_; refine xEEEAA qq1 fun o es ep ho hd hr => ?_
  refine ⟨f.kind, f.len, f.inj, f.lt, f.glob, f.wr, ⟨m, ⟨o, es, ep, hk _ o (fun e => hn.1 e.symm) ho, hd, hr⟩, fun x i hxs => ?_⟩, f.out, f.new, f.globals, f.builtins, fun p hp => ?_, f.apart, f.kinds⟩
  . rcases hm x i hxs with ⟨hk', hv⟩ | ⟨hk', c, ov, hc, ⟨oc, hoc, hdc⟩, hv⟩
    . exact .inl ⟨hk', fun av e => (hv av e).imp fun _ q => ⟨q.1, hx _ _ q.2⟩⟩
    . exact .inr ⟨hk', c, ov, hc, ⟨oc, hk _ oc (fun e => hn.2 _ (mem_of_lookup' hc) e) hoc, hdc⟩, fun av e => (hv av e).imp fun _ q => ⟨q.1, hx _ _ q.2⟩⟩
  . refine xEEA (f.cells p hp) fun o' v ho' hd' => ?_
    exact ⟨o', v, hk _ o' (fun e => hn.2 p hp e) ho', hd'⟩
end
end
section
open PySem PySem.Spec PyProof.Rows PySem.SeqAt
noncomputable def Tgt (P : Par) (cx : Cx) (t : Expr) (put : Locs -> AV -> Option Locs) : Prop :=
  ∀ (env : Env) (A : Around) (σ : Sg) (l l' : Locs) (hp : AHeap) (s : Shared) (av : AV) (v : Value) (Q : Unit -> Shared -> Prop) (E : Value -> Shared -> Prop), A.handled = none -> St P.w P.B σ hp s.heap -> Frm P s.heap σ env cx l -> RV P.B s.heap σ av v -> put l av = some l' ->
    (∀ s', After P σ σ (FX env) hp s s' -> Frm P s'.heap σ env cx l' -> Q () s') -> wpAny (model P.prog P.w) A (assign t env v) Q E s
section
variable {P : Par} {cx : Cx} {env : Env} {A : Around} {σ σ' : Sg} {l l' : Locs} {hp hp' : AHeap} {s s' : Shared} {n : Nat} {q : Bool}
theorem tgt_name (hw : cx.slotW y = some i) : Tgt P cx (.Name y p) (put1 i) := fun env A σ l l' hp s av v Q E hh S f rv hp' h => by
  cases hp'
  exact wpAny_assign_Name (store_prim S f hw rv fun s' a fr _ => h s' a fr)
theorem tup_of {B : Bs} (rv : RV B h σ (.tup xs) v) : ∃ a ws, v = .ref a /\ h.IsTuple a ws /\ RVs B h σ xs ws.toList := by
  refine xEEEAA rv fun a ws n qq1 o r => ?_; try clear rv; subst qq1
  exact ⟨a, ws, rfl, isTuple_of o, r⟩
theorem tgtsOf_is : ∀ {ts : List Expr} {is : List Nat}, tgtsOf cx ts = some is -> ts.length = is.length /\ ∀ env, (assignEach ts env).length = is.length /\ (assignEach ts env).findIdx? (·.1) = none
  | [], is, h => by cases h; exact ⟨rfl, fun env => ⟨rfl, rfl⟩⟩
  | t :: r, is, h => by
    refine xEA (opt_bind h) fun i hi h => ?_
    refine xEA (opt_bind h) fun js hj h => ?_
    rcases opt_pure h with rfl
    refine xA (tgtsOf_is hj) fun h1 h2 => ?_
    refine xEA (opt_bind hi) fun y hy hw => ?_
    rcases t with _ | _
    case Name y' p =>
      refine ⟨by rw [List.length_cons, List.length_cons, h1], fun env => ?_⟩
      refine xA (h2 env) fun q1 q2 => ?_
      show ((false, assign (.Name y' p) env) :: assignEach r env).length = _ /\ ((false, assign (.Name y' p) env) :: assignEach r env).findIdx? (·.1) = none
      rw [List.length_cons, List.length_cons, q1, List.findIdx?_cons, q2]
      exact ⟨rfl, rfl⟩
    all_goals exact none_ne hy
theorem assign_all : ∀ {ts : List Expr} {is : List Nat}, tgtsOf cx ts = some is -> ∀ {avs : List AV} {vs : List Value} {σ : Sg} {l : Locs} {hp : AHeap} {s : Shared} {Q : Unit -> Shared -> Prop} {E : Value -> Shared -> Prop}, is.length = avs.length -> RVs P.B s.heap σ avs vs -> St P.w P.B σ hp s.heap -> Frm P s.heap σ env cx l ->
    (∀ s', After P σ σ (FX env) hp s s' -> Frm P s'.heap σ env cx (putAll is avs l) -> Q () s') -> wpAny (model P.prog P.w) A (assignInOrder ((assignEach ts env).map (·.2)) vs) Q E s
  | [], is, h, avs, vs, σ, l, hp, s, Q, E, hl, rv, S, f, k => by
    cases h
    rcases avs with _ | ⟨_, _⟩
    case cons => exact nomatch hl
    case nil =>
      rcases rv.nil with rfl
      exact wpAny_pure (k s (.refl S) f)
  | t :: r, is, h, avs, vs, σ, l, hp, s, Q, E, hl, rv, S, f, k => by
    refine xEA (opt_bind h) fun i hi h => ?_
    refine xEA (opt_bind h) fun js hj h => ?_
    rcases opt_pure h with rfl
    refine xEA (opt_bind hi) fun y hy hw => ?_
    rcases avs with _ | ⟨av, avs⟩
    case nil => exact nomatch hl
    case cons =>
      refine xEEAA rv.cons fun v ws qq1 r1 r2 => ?_; subst qq1
      rcases t with _ | _
      case Name y' p =>
        cases hy
        show wpAny _ _ (do holding ws (assign (.Name y p) env v); assignInOrder ((assignEach r env).map (·.2)) ws) _ _ _
        refine wpAny_bind (wpAny_holding (wpAny_assign_Name (store_prim S f hw r1 fun s' a fr _ => ?_)))
        exact assign_all hj (Nat.succ.inj hl) (RVs.grows a.gr _ _ r2) a.st fr fun s'' a' fr' => k s'' (a.trans a') fr'
      all_goals exact none_ne hy
theorem puts_is (h : puts is l v = some l') : ∃ vs, v = .tup vs /\ is.length = vs.length /\ l' = putAll is vs l := by
  rcases v with _ | _
  case tup vs =>
    have h : (if is.length = vs.length then some (putAll is vs l) else none) = some l' := h
    split at h
    . rename_i hl; cases h; exact ⟨vs, rfl, hl, rfl⟩
    . cases h
  all_goals exact none_ne h
theorem tgt_tuple {ts : List Expr} (ht : tgtsOf cx ts = some is) : Tgt P cx (.Tuple ts x1 p) (puts is) := fun env A σ l l' hp s av v Q E hh S f rv hp' h => by
  refine xEAA (puts_is hp') fun vs qq1 hl qq2 => ?_; subst qq1; subst qq2
  refine xEEAA (tup_of rv) fun a ws qq1 hT rvs => ?_; subst qq1
  refine xA (tgtsOf_is ht) fun _ h2 => ?_
  refine wpAny_assign_Tuple hh hT ((h2 env).1.trans (hl.trans rvs.size)) (h2 env).2 fun h' hx => ?_
  have hk : ∀ b o, s.heap.get? b = some o -> h'.get? b = some o := fun b o e => hx b o (Nat.ne_of_lt (Heap.lt_size e)) e
  have a₁ : After P σ σ [] hp s { s with heap := h' } := ⟨rfl, S.keep hk, grows_keep hk⟩
  exact assign_all ht hl (RVs.grows a₁.gr _ _ rvs) a₁.st (f.after a₁) fun s' a' fr' => h s' (a₁.toX.trans a') fr'
theorem loopT {body : List Stmt} (I : Nat -> Shared -> Prop)
    (turn : ∀ n s, I n s -> wpAny (model prog w) A (pyNext it) (fun r s₁ => match r with
      | none => R (.ok .next) s₁
      | some v => wpAny (model prog w) A (letOwnedTupleGo target it v) (fun _ s₁ => wpAny (model prog w) A (assign target env v) (fun _ s₂ => wpAny (model prog w) A (execs body env) (fun f s₃ => match f with
          | .next | .cont => ∃ m, m < n /\ I m s₃
          | .brk => R (.ok .next) s₃
          | .ret v => R (.ok (.ret v)) s₃) (notedBy (model prog w) A env fun e s' => R (.error e) s') s₂) (notedBy (model prog w) A env fun e s' => R (.error e) s') s₁) (notedBy (model prog w) A env fun e s' => R (.error e) s') s₁) (notedBy (model prog w) A env fun e s' => R (.error e) s') s)
    (n : Nat) (h : I n s) : codeAny (model prog w) A (.forLoop target it body [] env) R s := by
  refine codeAny_loop' rfl I (fun n s hI => ?_) n h
  show wpAny _ _ ((forTurn target it body [] env).onRaise (fun x => do noteFrame x env; theTreesLotGoes x)) _ _ s
  refine wpAny_noted ?_
  simp only [forTurn]
  refine wpAny_bind (wpAny_standAt (wpAny_bind (wpAny_onRaise (wpAny_mono (turn n s hI) (fun r s₁ h₁ => ?_) fun _ _ h' => wpAny_standAt h'))))
  rcases r with _ | v
  case none => exact wpAny_pure (.inr ⟨rfl, codeAny_block (wpAny_execs_nil h₁)⟩)
  case some =>
    refine wpAny_bind (wpAny_mono h₁ (fun _ s₂ h₂ => wpAny_bind (wpAny_mono h₂ (fun _ s₂ h₂ => wpAny_bind (wpAny_mono h₂ (fun f s₃ h₃ => ?_) fun _ _ h' => h')) fun _ _ h' => h')) fun _ _ h' => h')
    rcases f with _ | _ | _ | v
    case next => exact wpAny_pure (.inl ⟨rfl, h₃⟩)
    case cont => exact wpAny_pure (.inl ⟨rfl, h₃⟩)
    case brk => exact wpAny_pure h₃
    case ret => exact wpAny_pure h₃
theorem owned_go {it a : Addr} (x : IterObj s.heap it) (h : Q () s) : wpAny (model P.prog P.w) A (letOwnedTupleGo target (.ref it) v) Q E s := by
  refine xEEEAAA x fun o T fs ho hc ht hd => ?_
  have tail : ∀ {r : Addr}, wpAny (model P.prog P.w) A (load it >>= fun o => match o.cls, o.data with
      | .type n, .fields vs => if (["enumerate", "zip", "dict_itemiterator", "dict_reverseitemiterator", "odict_iterator", "itertools.zip_longest", "itertools.pairwise"].contains n && vs[0]? == some (rawInt r)) = true then (do rule "for.unpacks-the-owned-tuple"; updateField it 0 .none) else pure ()
      | _, _ => pure ()) Q E s := fun {r} => by
    refine wpAny_bind (wpAny_load ho ?_)
    rw [hc, hd]
    dsimp only
    rw [if_neg (by rw [show (["enumerate", "zip", "dict_itemiterator", "dict_reverseitemiterator", "odict_iterator", "itertools.zip_longest", "itertools.pairwise"].contains T) = false from ht.2, Bool.false_and]; exact Bool.false_ne_true)]
    exact wpAny_pure h
  unfold letOwnedTupleGo
  rcases target with _ | _
  case Tuple => rcases v with _ | _ <;> first | exact tail | exact wpAny_pure h
  case List => rcases v with _ | _ <;> first | exact tail | exact wpAny_pure h
  all_goals exact wpAny_pure h
theorem iter_same {X : List Addr} {it : Addr} {src : AV} {k : Nat} (g : Grows σ σ' X s.heap s'.heap) (hn : it ∉ σ.map (·.1)) (hX : it ∉ X) (x : IterAt P s.heap σ it src k) : IterAt P s'.heap σ' it src k /\ it ∉ σ'.map (·.1) := by
  refine xEEEAAA x.obj fun o T fs ho hc ht hd => ?_
  have : s'.heap.get? it = some o := by
    rcases g.oth it o ho hn hX with q | ⟨hcf, _⟩
    . exact q
    . obtain ⟨_, _, hcf⟩ := hcf; rw [hd] at hcf; cases hcf
  exact ⟨x.keep g (this.trans ho.symm), not_mem_grown g ho hn⟩
theorem items_of {src : AV} (hb : forLoop put f src fuel k l hp ≠ .bad) : ∃ xs, itemsAV src hp = some xs := by
  rcases hi : itemsAV src hp with _ | xs
  case some => exact ⟨xs, rfl⟩
  case none =>
    exfalso; apply hb
    rcases fuel with _ | f
    case zero => rfl
    case succ => rw [for_succ]; delta nextAt; rw [hi]; rfl
theorem if_q (h : (if q = true then SR.bad else x) ≠ .bad) : q = false := by
  rcases q with _ | _
  case false => rfl
  case true => exact absurd rfl h
structure Held (P : Par) (env : Env) (cx : Cx) (σ : Sg) (s : Shared) (k : Str) (e : Addr) (l' : Locs) (hp' : AHeap) (σ' : Sg) (s' : Shared) : Prop where
  a : After P σ σ' (FX env) hp' s s'
  f : FlyT P σ' s.heap k e s'.heap
  fr : Frm P s'.heap σ' env cx l'
theorem InvS.fresh (I : InvS P cx n q env A σ l hp s) (h : s.heap.get? d = none) : d ≠ env.locals /\ ∀ p ∈ env.cells, p.2 ≠ d := by
  refine ⟨fun e => ?_, fun p hp e => ?_⟩
  . refine xEEEA I.fr.nsObj fun o _ _ ho _ => ?_
    rw [<- e, h] at ho; cases ho
  . refine xEEA (I.fr.cells p hp) fun o _ ho _ => ?_
    rw [e, h] at ho; cases ho
theorem Held.touch (I : InvS P cx n q env A σ l hp s) (hfr : A.frames = some (env :: outer)) {σ' : Sg} (a : After P σ σ' (FX env) hp' s s') (fr : Frm P s'.heap σ' env cx l')
    (t : Tch σ' s.heap (places (env :: outer)) D s'.heap h') (ft : FlyT P σ' s.heap k e h') : Held P env cx σ s k e l' hp' σ' { s' with heap := h' } := by
  have F := I.fs.afterX a.gr I.fr fr
  refine ⟨a.touch I.st.base t fun b hb => F.place hfr hb, ft, fr.touch (s₀ := s) t (fun b hb => (F.place hfr hb).2.2) (fun hd => (I.fresh (t.new _ hd).1).1 rfl) fun p hp hd => (I.fresh (t.new _ hd).1).2 p hp rfl⟩
theorem QES.out (I : InvS P cx n q env A σ l hp s) (hr : ∀ k l h, r = .exc k l h -> R = .exc k l h) (q : QES P env cx σ s r v s'') :
    notedBy (model P.prog P.w) A env (fun e s' => cameBackBy (model P.prog P.w) A env (QES P env cx σ s R) e s') v s'' := by
  obtain ⟨k, l₂, h2, σ₂, e, er, rfl, b, fl, fr⟩ := q
  refine xE I.top fun outer hfr => ?_
  refine xA (alive b) fun al1 al2 => ?_
  have F := I.fs.afterX b.gr I.fr fr
  refine note_fly hfr F I.own al1 al2 fl fun h' D t ft => back_fly (s := { s'' with heap := h' }) (Fs := places (env :: outer)) ft fun h'' D' t' ft' => ?_
  have H := Held.touch I hfr b fr (t.trans t') ft'
  exact ⟨k, l₂, h2, σ₂, e, hr _ _ _ er, rfl, H.a, H.f.fly, H.fr⟩
inductive ForInv (P : Par) (cx : Cx) (env : Env) (put : Locs -> AV -> Option Locs) (c : Ctx) (xb : Ss) (src : AV) (σ : Sg) (s : Shared) (it : Addr) (R : SR) (f : Nat) (s' : Shared) : Prop
  | mk (k : Nat) (l' : Locs) (hp' : AHeap) (σ' : Sg) (hR : forLoop put (fun l h => execSs c xb l h) src f k l' hp' = R) (a : After P σ σ' (FX env) hp' s s') (fr : Frm P s'.heap σ' env cx l') (hit : IterAt P s'.heap σ' it src k) (hn : it ∉ σ'.map (·.1)) : ForInv P cx env put c xb src σ s it R f s'
theorem simFor {b : List Stmt} (ht : Tgt P cx t put) (hce : compE kk cx e = some x) (h : SimE P cx e x) (hbody : SimSs P cx b xb)
    (hy : ∀ c l h, execS c y l h = (evalX c x l h).st l fun src h => if c.q then .bad else forLoop put (fun l h => execSs c xb l h) src c.fuel 0 l h) : SimSt P cx (.For t e b [] pos) y := by
  intro c n env A σ l hp s C I hb
  rw [hy] at hb |-
  refine wpAny_For (seqS (G := fun R v s₁ => wpAny (model P.prog P.w) A (pyIter v) (fun it s₂ => codeAny (model P.prog P.w) A (.forLoop t it b [] env) (fun r s' => match r with | .ok f => QS P env cx σ s R f s' | .error e => cameBackBy (model P.prog P.w) A env (QES P env cx σ s R) e s') s₂) (QES P env cx σ s R) s₁) (.refl I.st) I.fr (h c n env A σ l hp s C I.toInv (st_ok hb)) hb ?_) (fun v => folded_ok hce v)
  intro src hp₁ σ₁ v s₁ a₁ rv hb
  have hq := if_q hb
  rw [if_neg (by rw [hq]; exact Bool.false_ne_true)] at hb |-
  have hh := I.ar.handled hq
  refine xE (items_of hb) fun xs hi => ?_
  refine iter_prim C.ok a₁.st rv hi fun it s₂ hn0 hnσ hnb a₂ hit => ?_
  generalize hR : forLoop put (fun l h => execSs c xb l h) src c.fuel 0 l hp₁ = R at hb |-
  have hn₀ : s.heap.get? it = none := new_before a₁.gr hn0
  refine loopT (ForInv P cx env put c xb src σ s it R) ?_ c.fuel
    ⟨0, l, hp₁, σ₁, hR, (a₁.trans a₂).toX, (I.fr.after (a₁.trans a₂)), hit, hnσ⟩
  rintro f s' ⟨k, l', hp', σ', hR', a, fr, hit, hnσ'⟩
  have ho := hit.obj
  rcases f with _ | f
  case zero => exact absurd hR'.symm hb
  case succ =>
    rw [for_succ] at hR'
    rcases hnx : nextAt src k hp' with _ | r
    case none => rw [hnx] at hR'; exact absurd hR'.symm hb
    case some =>
      rw [hnx] at hR'
      refine next_prim a.st hh hit hnx (fun er h' hs => ?_) (fun av u h' tt er ru hs hit' => ?_)
      . subst er
        refine xAA (a.extBut (t := s'.toks) hs hn₀ hnσ' hnb ho.notFixed) fun a' hx' hk' => ?_
        show QS P env cx σ s R .next _
        rw [<- hR']
        exact ⟨_, _, _, _, rfl, a', rfl, fr.extBut (frm_iter fr ho) hx' hk'⟩
      . subst er
        have hR' : (match put l' av with | some l' => (execSs c xb l' hp').lap (forLoop put (fun l h => execSs c xb l h) src f (k + 1)) | none => SR.bad) = R := hR'
        obtain ⟨lb, hpt⟩ : ∃ lb, put l' av = some lb := by
          rcases hpt : put l' av with _ | lb
          case none => rw [hpt] at hR'; exact absurd hR'.symm hb
          case some => exact ⟨lb, rfl⟩
        rw [hpt] at hR'
        have hR' : (execSs c xb lb hp').lap (forLoop put (fun l h => execSs c xb l h) src f (k + 1)) = R := hR'
        refine xAA (a.extBut (t := tt) hs hn₀ hnσ' hnb ho.notFixed) fun a' hx' hk' => ?_
        have hit2 := hit' fun b o e f => hk' b o (fun q => by
          subst q
          refine xEA ho.notFixed fun o2 e2 hf2 => ?_
          rw [e2] at e; cases e; exact hf2 f) e
        have fr' := fr.extBut (frm_iter fr ho) hx' hk'
        refine owned_go (s := { s' with heap := h', toks := tt }) (a := 0) hit2.obj ?_
        refine ht env A σ' l' lb hp' { s' with heap := h', toks := tt } av u _ _ hh a'.st fr' (hx' _ _ ru) hpt fun s₃ a₃ fr₃ => ?_
        refine xA (iter_same (s := { s' with heap := h', toks := tt }) a₃.gr hnσ' (frm_iter (s := { s' with heap := h', toks := tt }) fr' hit2.obj) hit2) fun hit3 hn3 => ?_
        have a4 := a'.trans a₃
        refine wpAny_mono (hbody c n env A σ' lb hp' s₃ C (I.afterX a4 fr₃) (lap_ok (hR'.symm ▸ hb))) (fun fl s₄ q => ?_) (fun _ _ q => (q.lift a4).out I fun k l h er => by rw [<- hR', er]; rfl)
        obtain ⟨fl', l₄, hp₄, σ₄, e4, a₄, rf, fr₄⟩ := q
        rw [e4] at hR'
        have a5 := a4.trans a₄
        rcases fl' with _ | av | _
        case next =>
          rcases (show fl = .next from rf) with rfl
          refine xA (iter_same a₄.gr hn3 (frm_iter fr₃ hit3.obj) hit3) fun hit4 hn4 => ?_
          exact ⟨f, Nat.lt_succ_self f, ⟨k + 1, l₄, hp₄, σ₄, hR', a5, fr₄, hit4, hn4⟩⟩
        case cont =>
          rcases (show fl = .cont from rf) with rfl
          refine xA (iter_same a₄.gr hn3 (frm_iter fr₃ hit3.obj) hit3) fun hit4 hn4 => ?_
          exact ⟨f, Nat.lt_succ_self f, ⟨k + 1, l₄, hp₄, σ₄, hR', a5, fr₄, hit4, hn4⟩⟩
        case ret =>
          refine xEA rf fun v qq1 rv => ?_; try clear rf; subst qq1
          show QS P env cx σ s R (.ret v) s₄
          rw [<- hR']
          exact ⟨_, _, _, _, rfl, a5, ⟨v, rfl, rv⟩, fr₄⟩
theorem simSt_asgt {x1 : Nat} (ht : tgtsOf cx ts = some is) (hc : isComp e = false) (hnt : isTup e = false) (h : SimE P cx e x) : SimSt P cx (.Assign [.Tuple ts x1 p] e pos) (.asgt is x) := by
  intro c n env A σ l hp s C I hb
  rw [s_asgt] at hb |-
  have hw : swappedStores [.Tuple ts x1 p] e env = pure none := by
    unfold swappedStores
    rcases e with _ | _ <;> first | rfl | (cases hnt; done)
  refine wpAny_Assign_stores (seqS (G := fun R v s₁ => wpAny (model P.prog P.w) A (assign (.Tuple ts x1 p) env v) (fun _ => QS P env cx σ s R .next) (QES P env cx σ s R) s₁) (.refl I.st) I.fr (h c n env A σ l hp s C I.toInv (st_ok hb)) hb ?_) (show swapsWithSole [.Tuple ts x1 p] e pos.line env = pure false from swaps_no (env := env) (t := some (.Tuple ts x1 p)) (k := pos.line) hc) hw
  intro av hp₁ σ₁ v s₁ a₁ rv hb
  have hq := if_q hb
  rw [if_neg (by rw [hq]; exact Bool.false_ne_true)] at hb |-
  rcases hpt : puts is l av with _ | l'
  case none => rw [hpt] at hb; exact absurd rfl hb
  case some =>
    refine tgt_tuple ht env A σ₁ l l' hp₁ s₁ av v _ _ (I.ar.handled hq) a₁.st (I.fr.after a₁) rv hpt fun s' a fr => ?_
    exact ⟨_, _, _, _, rfl, a₁.toX.trans a, rfl, fr⟩
theorem simSt_bad {st : Stmt} : SimSt P cx st .bad := fun c n env A σ l hp s C I hb => absurd rfl hb
theorem simSt_cont : SimSt P cx (.Continue pos) .cont := by
  intro c n env A σ l hp s C I hb
  have he : exec (.Continue pos) env = (do standAt pos; pure .cont) := rfl
  rw [he]
  exact wpAny_bind (wpAny_standAt (wpAny_pure ⟨_, _, _, _, rfl, .refl I.st, rfl, I.fr⟩))
theorem simSt_raise (hg : cx.isGlob k = true) (hk : (cx.excs.lookup k).isSome = true) : SimSt P cx (.Raise (some (.Call (.Name k np) [.Constant (.str w) m cp] [] cpos)) none pos) (.raise k) := by
  intro c n env A σ l hp s C I hb
  rw [s_raise] at hb |-
  have hq := if_q hb
  rw [if_neg (by rw [hq]; exact Bool.false_ne_true)]
  refine xE (Option.isSome_iff_exists.mp hk) fun ks hks => ?_
  refine xE (C.exc.own k ks hks) fun D O => ?_
  rcases ownX (O.keeps I.st.base) with ⟨bm, N, nm, qn, bs, hdct, sn, sub, ab, col, dd, k0, k1, k2, k3, k5, mN, hC, hN, hqn, T⟩
  refine wpAny_Raise_call_subT (C := D) (nm := nm) (q := qn) (N := N) (bs := bs) (bm := bm) (hdct := hdct) (sn := sn) (sub := sub) (ab := ab) (col := col) (dd := dd) (k0 := k0) (k1 := k1) (k2 := k2) (k3 := k3) (k5 := k5) (mN := mN) F.excBase_ValueError (T.tail.hasType (b := true) (by decide)) (I.ar.handled hq) rfl (hqn _ (.head _)) (load_glob C I.toInv hg O.bound ⟨rfl, ?_⟩)
  refine evalArgs_es (P := P) rfl (wpAny_items_cons (wpAny_Constant_str (wpAny_items_nil ?_)))
  refine ⟨rfl, Nat.le_trans (show 1 <= 1 from Nat.le_refl _) (by decide), hC, hN, T.tail, fun h' e M => ?_⟩
  refine xEAA M.there fun t he htn ht => ?_
  have a : After P σ σ (FX env) hp s { s with heap := h', toks := s.toks + 1 } := ⟨rfl, I.st.keep M.keeps, grows_keep M.keeps⟩
  refine ⟨k, l, hp, σ, e, rfl, rfl, a, ⟨⟨_, _, D, he, O.bound, rfl, rfl, .inl rfl⟩, M.new, fun hm => ?_⟩, I.fr.after (s' := { s with heap := h', toks := s.toks + 1 }) (hp' := hp) ⟨rfl, I.st.keep M.keeps, grows_keep M.keeps⟩⟩
  refine xEA (List.mem_map.mp hm) fun p hp q => ?_
  refine xEA (I.st.there hp) fun o e' _ => ?_
  rw [q, M.new] at e'; cases e'
end
end
section
open PySem PySem.Spec PyProof.Rows PySem.SeqAt
section
variable {M : Model} {A : Around} {E : Value -> Shared -> Prop}
theorem exc_match {h : Heap} {g : Array GenState} {d : Drawn} {t : Nat} {os : OsState} {C D e N N' : Addr} {oe : Obj} {b : Bool} {nm q nm' q' : Str} {bs bm bs' bm' : List Value} {hdct hdct' : Bool} {sn sn' : List Str} {sub sub' : List Value} {ab ab' : Bool} {col col' : Option Bool} {dd dd' : Option Addr} {k0 k1 k2 k3 k5 l0 l1 l2 l3 l5 : Option Value} {newId newId' : String} {Q : Bool -> Shared -> Prop}
    (hC : h.get? C = some (excClassObj nm q C N bs bm hdct sn sub ab col dd k0 k1 k2 k3 k5 newId)) (hD : h.get? D = some (excClassObj nm' q' D N' bs' bm' hdct' sn' sub' ab' col' dd' l0 l1 l2 l3 l5 newId')) (he : h.get? e = some oe) (hcls : oe.cls = .ref C)
    (hbase : bm'.contains (.type "BaseException") = true) (hm : (Value.ref C :: bm).contains (.ref D) = b) (hq : Q b ⟨h, g, d, t, os⟩) : wpAny M A (excMatches (.ref e) (.ref D)) Q E ⟨h, g, d, t, os⟩ := by
  have hcB : (Value.ref D :: bm').contains (.type "BaseException") = true := by rw [List.contains_cons, hbase, Bool.or_true]
  have f := tc_notTuple
  unfold excMatches
  repeat (first | (with_reducible refine wpAny_loadPart_at he ?_; rw [hcls]) | with_reducible refine wpAny_loadPart_at hD ?_ | (with_reducible refine wpAny_isSubtype_exc hD ?_; rw [hcB]) | (with_reducible refine wpAny_isSubtype_exc hC ?_; rw [hm]) | wp_step)
  rcases b with _ | _ <;> (wp_walk; exact hq)
end
inductive HSim (P : Par) (cx : Cx) : List ExceptHandler -> Hs -> Prop
  | nil : HSim P cx [] .nil
  | cons {j : Str} {np hpos : Pos} {b₀ : Stmt} {bs : List Stmt} {xb : Ss} {hs : List ExceptHandler} {xr : Hs} (hg : cx.isGlob j = true) (ha : (cx.excs.any fun p => p.2.contains j) = true) (hb : SimSs P cx (b₀ :: bs) xb) (hr : HSim P cx hs xr) :
      HSim P cx (.ExceptHandler (some (.Name j np)) none (b₀ :: bs) hpos :: hs) (.cons (taken cx.excs j) xb xr)
section
variable {P : Par} {cx : Cx} {env : Env} {A : Around} {σ σ' : Sg} {l l' : Locs} {hp hp' : AHeap} {s s' : Shared} {n : Nat} {q : Bool}
theorem taken_is {excs : List (Str × List Str)} {j k : Str} {ks : List Str} (h : excs.lookup k = some ks) : (taken excs j).contains k = ks.contains j := by
  have hm : k ∈ excs.map (·.1) := List.mem_map.mpr ⟨_, mem_of_lookup' h, rfl⟩
  rcases hc : ks.contains j with _ | _
  case true => exact List.contains_iff_mem.mpr (List.mem_filter.mpr ⟨hm, by rw [h]; exact hc⟩)
  case false =>
    rcases hq : (taken excs j).contains k with _ | _
    case false => rfl
    case true =>
      have := (List.mem_filter.mp (List.contains_iff_mem.mp hq)).2
      rw [h] at this
      exact absurd (hc.symm.trans this) Bool.false_ne_true
theorem taken_known {excs : List (Str × List Str)} {j k : Str} (h : (taken excs j).contains k = true) : ∃ ks, excs.lookup k = some ks := by
  have := (List.mem_filter.mp (List.contains_iff_mem.mp h)).2
  rcases hq : excs.lookup k with _ | ks
  case none => rw [hq] at this; exact absurd this Bool.false_ne_true
  case some => exact ⟨ks, rfl⟩
theorem handle_known {c : Ctx} {k : Str} {hs : List ExceptHandler} {xs : Hs} (H : HSim P cx hs xs) (hb : handle c xs k l hp ≠ .bad) : ∃ ks, cx.excs.lookup k = some ks := by
  induction H with
  | nil => exact absurd rfl hb
  | cons hg ha hbd hr ih =>
    rw [h_cons] at hb
    split at hb
    . rename_i hq; exact taken_known hq
    . exact ih hb
theorem Arnd.mark {v : Value} (ar : Arnd n q A) : Arnd n true (A.mark (some v)) := ⟨⟨ar.frames, ar.depth, ar.units, fun e => nomatch e⟩, ar.depth1, ar.units1, ar.frame⟩
theorem Sims.quiet {c : Ctx} (C : Sims P cx c n) : Sims P cx c.quiet n := ⟨C.ok, C.fq, C.fq, C.meths, C.attrs, C.cls, C.init, C.exc, C.g⟩
theorem Held.inv (I : InvS P cx n q env A σ l hp s) {k : Str} {e : Addr} {l₁ : Locs} {hp₁ : AHeap} {σ₁ : Sg} {s₁ : Shared} (H : Held P env cx σ s k e l₁ hp₁ σ₁ s₁) : InvS P cx n true env (A.mark (some (.ref e))) σ₁ l₁ hp₁ s₁ :=
  ⟨⟨H.a.st, H.fr, I.ar.mark, I.fs.afterX H.a.gr I.fr H.fr⟩, I.top, I.own⟩
theorem handle_sim {c : Ctx} (C : Sims P cx c n) (I : InvS P cx n c.q env A σ l hp s) {k : Str} {e : Addr} {l₁ : Locs} {hp₁ : AHeap} {σ₁ : Sg} {ks : List Str} (hk : cx.excs.lookup k = some ks) {hs : List ExceptHandler} {xs : Hs} (H : HSim P cx hs xs) :
    ∀ {s₁ : Shared}, Held P env cx σ s k e l₁ hp₁ σ₁ s₁ -> handle c xs k l₁ hp₁ ≠ .bad -> wpAny (model P.prog P.w) A (handleBy (.ref e) env hs) (QS P env cx σ s (handle c xs k l₁ hp₁)) (QES P env cx σ s (handle c xs k l₁ hp₁)) s₁ := by
  induction H with
  | nil => intro s₁ _ hb; exact absurd rfl hb
  | @cons j np hpos b₀ bs xb hs xr hg ha hbd hr ih =>
    intro s₁ H hb
    rw [h_cons, taken_is hk] at hb |-
    refine xE (C.exc.cat j ha) fun D O => ?_
    refine xE I.top fun outer hfr => ?_
    have I₁ := H.inv I
    refine wpAny_handleBy_cons (codeAny_handlers_test (load_glob C.quiet I₁.toInv hg O.bound ?_)) (by intro q; cases q)
    refine xEEEEEEEAAA H.f.obj fun oe vs C' T oT ts fv he hgk hc r => ?_
    refine xE (C.exc.own k ks hk) fun K OK => ?_
    have : C' = K := by have := OK.bound; rw [hgk] at this; cases this; rfl
    subst this
    have hm := C.exc.sub k ks j C' D
    rcases ownX (O.keeps H.a.st.base) with ⟨bmD, _, _, _, _, _, _, _, _, _, _, _, _, _, _, _, _, hD, _, _, TD⟩
    rcases ownX OK with ⟨bmC, _, _, _, _, _, _, _, _, _, _, _, _, _, _, _, _, hC0, _, _, _⟩
    have hC := H.a.st.base _ _ hC0
    have hsub := hm _ _ hk ha hgk O.bound hC0 rfl
    obtain ⟨hh, g, d, t, os⟩ := s₁
    refine exc_match hC hD he hc (TD.tail.hasType (b := true) (by decide)) hsub ?_
    rcases hj : ks.contains j with _ | _
    case false =>
      rw [hj] at hb
      exact ih H hb
    case true =>
      rw [hj] at hb
      refine xAA (noExcS_ok (show (execSs c.quiet xb l₁ hp₁).noExc ≠ .bad from hb)) fun hy1 hy2 hy3 => ?_
      show codeAny _ _ (.handlers (.ref e) [.ExceptHandler none none (b₀ :: bs) hpos] env) _ _
      refine codeAny_handlers_suite (flight_fly (Fs := places (env :: outer)) H.f fun h' Dd tt ft => ?_)
      have H₂ := Held.touch I hfr H.a H.fr tt ft
      refine wpAny_mono (hbd c.quiet n env _ σ₁ l₁ hp₁ _ C.quiet (H₂.inv I) hy1) (fun fl s₃ q => ?_) (fun _ _ q => (q.none hy2).elim)
      show QS P env cx σ s (execSs c.quiet xb l₁ hp₁).noExc fl s₃
      rw [hy3]
      exact q.lift H₂.a
theorem simSt_try {b : List Stmt} {xb : Ss} {h₀ : ExceptHandler} {hs : List ExceptHandler} {xs : Hs} {pos : Pos} (hb : SimSs P cx b xb) (H : HSim P cx (h₀ :: hs) xs) : SimSt P cx (.Try b (h₀ :: hs) [] [] pos) (.tryx xb xs) := by
  intro c n env A σ l hp s C I hbad
  rw [s_try] at hbad |-
  have hq := if_q hbad
  rw [if_neg (by rw [hq]; exact Bool.false_ne_true)] at hbad |-
  have hb1 : execSs c xb l hp ≠ .bad := fun e => hbad (by rw [e])
  refine wpAny_Try_except (wpAny_mono (hb c n env A σ l hp s C I hb1) (fun fl s' q => ?_) (fun v s' q => ?_))
  . obtain ⟨fl', l', hp', σ', e, a, rf, fr⟩ := q
    rw [e]
    rcases fl' with _ | av | _
    case next => rcases (show fl = .next from rf) with rfl; exact wpAny_execs_nil ⟨_, _, _, _, rfl, a, rfl, fr⟩
    case ret => refine xEA rf fun v qq1 rv => ?_; try clear rf; subst qq1; exact ⟨_, _, _, _, rfl, a, ⟨v, rfl, rv⟩, fr⟩
    case cont => rcases (show fl = .cont from rf) with rfl; exact ⟨_, _, _, _, rfl, a, rfl, fr⟩
  . obtain ⟨k, l₂, h2, σ₂, e, er, rfl, a, fl, fr⟩ := q
    rw [er] at hbad |-
    have hbad : handle c xs k l₂ h2 ≠ .bad := hbad
    refine xE (handle_known H hbad) fun ks hk => ?_
    refine xE I.top fun outer hfr => ?_
    refine xA (alive a) fun al1 al2 => ?_
    refine leave_fly hfr (I.fs.afterX a.gr I.fr fr) I.own al1 al2 fl fun h' D t ft => ?_
    exact handle_sim C I hk H (Held.touch I hfr a fr t ft) hbad
end
end
section
open PySem PySem.Spec PyProof.Rows PySem.SeqAt
theorem lookup_of_mem' {α : Type} : ∀ {l : List (Str × α)}, (l.map (·.1)).Nodup -> ∀ {x : Str} {v : α}, (x, v) ∈ l -> l.lookup x = some v
  | [], _, _, _, h => nomatch h
  | (k, w) :: r, nd, x, v, h => by
    rw [List.map_cons, List.nodup_cons] at nd
    rw [List.lookup_cons]
    rcases List.mem_cons.mp h with e | h2
    . cases e; rw [BEq.rfl]
    . have hne : (x == k) = false := beq_eq_false_iff_ne.mpr fun e => nd.1 (List.mem_map.mpr ⟨(x, v), h2, e⟩)
      rw [hne]
      exact lookup_of_mem' nd.2 h2
section
variable {env : Env}
noncomputable def relK (env : Env) (x : Str) (k : NameKind) : NameKind := if (k == .free && env.scope.kind == .function && env.kindOf x == some .cell) then .cell else k
theorem relabel_lookup : ∀ {names : List (Str × NameKind)} {x : Str} {k : NameKind}, names.lookup x = some k ->
    (names.map fun (n, k) => if (k == NameKind.free && env.scope.kind == .function && env.kindOf n == some .cell) then (n, NameKind.cell) else (n, k)).lookup x = some (relK env x k)
  | [], _, _, h => by cases h
  | (n, k) :: r, x, k', h => by
    have ih := @relabel_lookup r x k'
    rw [List.lookup_cons] at h
    show List.lookup x ((if (k == NameKind.free && env.scope.kind == .function && env.kindOf n == some .cell) = true then (n, NameKind.cell) else (n, k)) :: _) = _
    have e : (if (k == NameKind.free && env.scope.kind == .function && env.kindOf n == some .cell) = true then (n, NameKind.cell) else (n, k)) = (n, relK env n k) := by
      unfold relK; split <;> rfl
    rw [e, List.lookup_cons]
    rcases hx : x == n with _ | _
    case true => rw [hx] at h; cases h; rw [beq_iff_eq.mp hx]
    case false => rw [hx] at h; exact ih h
theorem lookup_first {α : Type} {c : α} : ∀ {l : List (Str × α)}, (x, c) ∈ l -> ∃ c', l.lookup x = some c' /\ (x, c') ∈ l
  | [], h => nomatch h
  | (k, w) :: r, h => by
    rw [List.lookup_cons]
    rcases hx : x == k with _ | _
    case true => exact ⟨w, rfl, by rw [beq_iff_eq.mp hx]; exact List.mem_cons_self⟩
    case false =>
      rcases List.mem_cons.mp h with e | h
      . cases e; simp at hx
      . refine xEA (lookup_first h) fun c' h1 h2 => ?_
        exact ⟨c', h1, List.mem_cons_of_mem _ h2⟩
theorem closure_from : ∀ (names : List (Str × NameKind)) (acc : List (Str × Addr)), (∀ p ∈ names, p.2 = .free -> ∃ c, env.cells.lookup p.1 = some c) ->
    ∃ cl, (forIn names acc fun (x : Str × NameKind) (cs : List (Str × Addr)) => match x with
        | (name, kind) => if (kind == NameKind.free) = true then do let a <- cellOf env name; pure (ForInStep.yield ((name, a) :: cs)) else pure (ForInStep.yield cs)) = (pure cl : Sem _) /\
      (∀ q ∈ cl, q ∈ acc \/ env.cells.lookup q.1 = some q.2) /\ (∀ q ∈ acc, q ∈ cl) /\ ∀ p ∈ names, p.2 = .free -> ∃ c, (p.1, c) ∈ cl
  | [], acc, _ => ⟨acc, by rw [List.forIn_nil], fun q h => .inl h, fun q h => h, fun p hp => nomatch hp⟩
  | (n, k) :: r, acc, H => by
    have Hr : ∀ p ∈ r, p.2 = .free -> ∃ c, env.cells.lookup p.1 = some c := fun p hp => H p (List.mem_cons_of_mem _ hp)
    by_cases hk : k = .free
    . subst hk
      refine xE (H (n, .free) List.mem_cons_self rfl) fun c hc => ?_
      refine xEAAA (closure_from r ((n, c) :: acc) Hr) fun cl h1 h2 h3 h4 => ?_
      refine ⟨cl, ?_, fun q hq => ?_, fun q hq => h3 q (List.mem_cons_of_mem _ hq), fun p hp hpk => ?_⟩
      . rw [List.forIn_cons, <- h1]
        have e : cellOf env n = pure c := by unfold cellOf; rw [hc]
        show (if (NameKind.free == NameKind.free) = true then (cellOf env n >>= fun a => pure (ForInStep.yield ((n, a) :: acc))) else _) >>= _ = _
        rw [if_pos (show (NameKind.free == NameKind.free) = true from rfl), e]
        rfl
      . rcases h2 q hq with h | h
        . rcases List.mem_cons.mp h with e | h
          . subst e; exact .inr hc
          . exact .inl h
        . exact .inr h
      . rcases List.mem_cons.mp hp with e | hp
        . subst e; exact ⟨c, h3 _ List.mem_cons_self⟩
        . exact h4 p hp hpk
    . refine xEAAA (closure_from r acc Hr) fun cl h1 h2 h3 h4 => ?_
      refine ⟨cl, ?_, h2, h3, fun p hp hpk => ?_⟩
      . rw [List.forIn_cons, <- h1]
        have : (k == NameKind.free) = false := beq_eq_false_iff_ne.mpr hk
        show (if (k == NameKind.free) = true then _ else pure (ForInStep.yield acc)) >>= _ = _
        rw [if_neg (by rw [this]; exact Bool.false_ne_true)]
        rfl
      . rcases List.mem_cons.mp hp with e | hp
        . subst e; exact absurd hpk hk
        . exact h4 p hp hpk
theorem closure_is {scope : Scope} (H : ∀ p ∈ scope.names, p.2 = .free -> ∃ c, env.cells.lookup p.1 = some c) :
    ∃ cl, closureFor scope env = pure cl /\ (∀ q ∈ cl, env.cells.lookup q.1 = some q.2) /\ ∀ p ∈ scope.names, p.2 = .free -> ∃ c, cl.lookup p.1 = some c := by
  refine xEAAA (closure_from (env := env) scope.names [] H) fun cl h1 h2 h3 h4 => ?_
  refine ⟨cl, ?_, fun q hq => (h2 q hq).elim (fun h => nomatch h) id, fun p hp hpk => ?_⟩
  . unfold closureFor
    exact (congrArg (· >>= fun r => pure r) h1).trans rfl
  . refine xE (h4 p hp hpk) fun c hc => ?_
    refine xEA (lookup_first hc) fun c' h _ => ?_
    exact ⟨c', h⟩
end
theorem zipIdx_lookup : ∀ {ns : List Str} {k : Nat} {x : Str} {i : Nat}, (ns.zipIdx k).lookup x = some i -> k <= i /\ ns[i - k]? = some x
  | [], _, _, _, h => by simp at h
  | n :: ns, k, x, i, h => by
    rw [List.zipIdx_cons, List.lookup_cons] at h
    split at h
    . rename_i hb
      cases h
      rw [beq_iff_eq.mp hb]
      exact ⟨Nat.le_refl _, by simp⟩
    . refine xA (zipIdx_lookup h) fun h1 h2 => ?_
      refine ⟨by lia, ?_⟩
      rw [show i - k = (i - (k + 1)) + 1 by lia]
      exact h2
theorem zipIdx_has : ∀ {ns : List Str} {k : Nat} {x : Str}, x ∈ ns -> ∃ i, (ns.zipIdx k).lookup x = some i
  | n :: ns, k, x, h => by
    rw [List.zipIdx_cons, List.lookup_cons]
    rcases hb : x == n with _ | _
    case true => exact ⟨_, rfl⟩
    case false =>
      rcases List.mem_cons.mp h with e | h
      . subst e; simp at hb
      . exact zipIdx_has h
section
variable {P : Par} {cx : Cx} {env : Env} {A : Around} {E : Value -> Shared -> Prop} {σ σ' : Sg} {l l' : Locs} {hp hp' : AHeap} {s s' : Shared} {n : Nat} {scope : Scope}
theorem inner_slot (hok : innerOk cx scope = true) (h : (innerCx cx scope).slot x = some i) :
    (scope.names.lookup x = some .local /\ cx.n <= i /\ (ownNames scope)[i - cx.n]? = some x) \/ (scope.names.lookup x = some .free /\ cx.sc.names.lookup x = some .cell /\ cx.slot x = some i) := by
  simp only [innerOk, Bool.and_eq_true, decide_eq_true_eq] at hok
  refine xA hok fun qq1 hall => ?_; try clear hok; refine xA qq1 fun _ hnd => ?_
  refine xEA (Option.bind_eq_some_iff.mp h) fun k hk hi => ?_
  refine xA (iteN hi) fun hkk hi2 => ?_; clear hi
  next =>
    next =>
      have hk : scope.names.lookup x = some k := hk
      have h : ((ownNames scope).zipIdx cx.n ++ cx.loc).lookup x = some i := hi2
      have hmem := mem_of_lookup' hk
      have hx := List.all_eq_true.mp hall _ hmem
      rw [List.lookup_append] at h
      unfold innerName at hx
      rcases k with _ | _ <;> first | (cases hx; done) | (cases hkk; done) | skip
      . left
        refine ⟨hk, ?_⟩
        dsimp only at hx
        by_cases h0 : x = (".0" : Str)
        . have hno : x ∉ ownNames scope := fun hm => by
            refine xEA (List.mem_filterMap.mp hm) fun q hq e => ?_
            refine xA (iteN e) fun hc e => ?_
            rcases Option.some.inj e with rfl; rw [Bool.and_eq_true, bne_iff_ne] at hc; exact hc.2 h0
          rw [Bool.or_eq_true, bne_iff_ne] at hx
          rcases hx with hx | hx
          . exact absurd h0 hx
          . rcases hz : ((ownNames scope).zipIdx cx.n).lookup x with _ | j
            case some =>
              refine xA (zipIdx_lookup hz) fun _ h2 => ?_
              exact absurd (List.mem_of_getElem? h2) hno
            case none =>
              rw [hz, Option.isNone_iff_eq_none.mp hx] at h
              cases h
        . have hin : x ∈ ownNames scope := List.mem_filterMap.mpr ⟨(x, .local), hmem, by
            rw [if_pos]
            rw [Bool.and_eq_true, bne_iff_ne]
            exact ⟨rfl, h0⟩⟩
          refine xE (zipIdx_has (k := cx.n) hin) fun j hj => ?_
          rw [hj] at h
          cases h
          exact zipIdx_lookup hj
      . right
        dsimp only at hx
        rw [Bool.and_eq_true, beq_iff_eq] at hx
        refine xE (Option.isSome_iff_exists.mp hx.2) fun i' hi' => ?_
        refine ⟨hk, hx.1, ?_⟩
        have hno : x ∉ ownNames scope := fun hm => by
          refine xEA (List.mem_filterMap.mp hm) fun qq1 hq e => ?_; obtain ⟨y, ky⟩ := qq1
          refine xA (iteN e) fun hc e => ?_
          rcases Option.some.inj e with rfl
          rw [Bool.and_eq_true, beq_iff_eq] at hc
          have := Mine.Internal.lookup_of_mem' hnd hq
          rw [hk] at this
          exact nomatch (Option.some.inj this).trans hc.1
        rcases hz : ((ownNames scope).zipIdx cx.n).lookup x with _ | j
        case some =>
          refine xA (zipIdx_lookup hz) fun _ h2 => ?_
          exact absurd (List.mem_of_getElem? h2) hno
        case none =>
          rw [hz] at h
          refine xEA (Option.bind_eq_some_iff.mp hi') fun k2 hk2 hi' => ?_
          exact Option.bind_eq_some_iff.mpr ⟨k2, hk2, (if_pos (iteN hi').1).trans h⟩
theorem frm_inner (f : Frm P h σ env cx l) (hok : innerOk cx scope = true) (sub : ∀ q ∈ cl, env.cells.lookup q.1 = some q.2) (has : ∀ p ∈ scope.names, p.2 = .free -> ∃ c, cl.lookup p.1 = some c)
    (hns : h'.Ns C (fun _ => none)) (hk : ∀ b o, h.get? b = some o -> h'.get? b = some o) (hC : C ∉ σ.map (·.1)) (hCb : P.B.h₀.get? C = none) :
    Frm P h' σ (compEnvC scope cl C env) (innerCx cx scope) (l ++ List.replicate (ownNames scope).length none) := by
  have hsl := fun x i => inner_slot (x := x) (i := i) hok
  have hok' := hok
  simp only [innerOk, Bool.and_eq_true, decide_eq_true_eq, beq_iff_eq] at hok'
  refine xA hok' fun qq1 hall => ?_; try clear hok'; refine xA qq1 fun hkind hnd => ?_
  have memc : ∀ p ∈ cl, p ∈ env.cells := fun p hp => mem_of_lookup' (sub p hp)
  have hrel : ∀ x k, scope.names.lookup x = some k -> (compEnvC scope cl C env).kindOf x = some (relK env x k) := fun x k h => relabel_lookup h
  have hold : ∀ av v, RV P.B h σ av v -> RV P.B h' σ av v := fun av v r => RV.fixes (fun b o e _ => hk b o e) av v r
  refine ⟨hkind, ?_, fun x y i h1 h2 => ?_, fun x i hx => ?_, fun x hx => ?_, fun x i hx => ?_, ⟨_, hns, fun x i hx => ?_⟩, ⟨hC, fun p hp => f.out.2 p (memc p hp)⟩, ⟨hCb, fun p hp => f.new.2 p (memc p hp)⟩, f.globals, f.builtins, fun p hp => ?_,
    fun p hp q hq e => f.apart p (memc p hp) q (memc q hq) e, fun x k hx hlk => ?_⟩
  . rw [List.length_append, List.length_replicate, f.len]; rfl
  . rcases hsl x i h1 with ⟨_, a1, a2⟩ | ⟨_, _, a3⟩ <;> rcases hsl y i h2 with ⟨_, b1, b2⟩ | ⟨_, _, b3⟩
    . rw [a2] at b2; exact Option.some.inj b2
    . exact absurd (f.lt y i b3) (by lia)
    . exact absurd (f.lt x i a3) (by lia)
    . exact f.inj x y i a3 b3
  . rcases hsl x i hx with ⟨_, a1, a2⟩ | ⟨_, _, a3⟩
    . have := (List.getElem?_eq_some_iff.mp a2).1
      show i < cx.n + (ownNames scope).length
      lia
    . exact Nat.lt_of_lt_of_le (f.lt x i a3) (Nat.le_add_right _ _)
  . have h1 : scope.names.lookup x = some .globalImplicit := by
      have := (Bool.and_eq_true_iff.mp hx).1
      exact beq_iff_eq.mp this
    rw [hrel x _ h1]; rfl
  . unfold Cx.slotW at hx
    have hne : ∀ k, scope.names.lookup x = some k -> k ≠ .free -> (compEnvC scope cl C env).kindOf x ≠ some .free := fun k h1 h2 => by
      rw [hrel x k h1]
      unfold relK
      intro e
      split at e
      . cases e
      . exact h2 (Option.some.inj e)
    rcases h1 : scope.names.lookup x with _ | k
    . rw [show (innerCx cx scope).sc.names.lookup x = none from h1] at hx; exact none_ne hx
    . rw [show (innerCx cx scope).sc.names.lookup x = some k from h1] at hx
      exact hne k h1 fun e => by rw [e] at hx; exact none_ne hx
  . rcases hsl x i hx with ⟨a0, a1, a2⟩ | ⟨a0, a1, a3⟩
    . refine .inl ⟨by rw [hrel x _ a0]; rfl, fun av e => ?_⟩
      rw [List.getElem?_append_right (by rw [f.len]; exact a1), List.getElem?_replicate] at e
      split at e <;> cases e
    . have hcell := f.kinds x .cell a1 (.inr rfl)
      refine xEA f.names fun m _ hm => ?_
      rcases hm x i a3 with ⟨hk', _⟩ | ⟨_, c, ov, hc, ⟨o, ho, hd⟩, hv⟩
      . rw [hcell] at hk'; cases hk'
      . refine xE (has (x, .free) (mem_of_lookup' a0) rfl) fun c' hc' => ?_
        have hcc := sub _ (mem_of_lookup' hc')
        obtain rfl : c' = c := by
          rw [hc] at hcc
          exact (Option.some.inj hcc).symm
        refine .inr ⟨.inl ?_, c', ov, hc', ⟨o, hk c' o ho, hd⟩, fun av e => ?_⟩
        . rw [hrel x _ a0]
          unfold relK
          rw [hcell, f.kind]
          rfl
        . rw [List.getElem?_append_left (by rw [f.len]; exact f.lt x i a3)] at e
          refine xEA (hv av e) fun v h1 h2 => ?_
          exact ⟨v, h1, hold _ _ h2⟩
  . refine xEEA (f.cells p (memc p hp)) fun o v ho hd => ?_
    exact ⟨o, v, hk _ o ho, hd⟩
  . rw [hrel x k hx]
    rcases hlk with rfl | rfl <;> rfl
end
end
section
open PySem PySem.Spec PyProof.Rows PySem.SeqAt
structure CP where
  e : X
  k : Nat
  j : Nat
  it : X
  cs : Xs
noncomputable def CP.x (p : CP) : X := .comp p.e p.k p.j p.it p.cs
noncomputable def compBody (c : Ctx) (e : X) (cs : Xs) (l : Locs) (h : AHeap) : Res (Option AV) := (evalConds c cs l h).bind fun b h => ifB b h (evalX c e l h)
noncomputable def evalCP (c : Ctx) (p : CP) (l : Locs) (h : AHeap) : Res AV := evalX c p.x l h
theorem x_cp {c : Ctx} {p : CP} {l : Locs} {h : AHeap} : evalCP c p l h = (evalX c p.it l h).noExc.bind fun src h => if c.q then .bad else
    (compLoop (fun v h => compBody c p.e p.cs (inner l p.k p.j v) h) src c.fuel 0 [] h).noExc.bind fun vs h => newList vs h := rfl
section
variable {P : Par} {cx : Cx} {env : Env} {A : Around} {E : Value -> Shared -> Prop} {σ σ' : Sg} {l l' : Locs} {hp hp' : AHeap} {s s' : Shared} {n : Nat} {scope : Scope}
theorem condB_is {v : AV} {x y : Res Bool} (hb : condB v x y ≠ .bad) : ∃ b, v = .bool b := by
  rcases v with _ | _
  case bool b => exact ⟨b, rfl⟩
  all_goals exact absurd rfl hb
theorem conds_prim {c : Ctx} {ifs : List Expr} {cs : Xs} (hifs : (ifs = [] /\ cs = .nil) \/ ∃ q xq, ifs = [q] /\ cs = .cons xq .nil /\ SimT P cx q xq) (C : Sims P cx c n) (I : Inv P cx n c.q env A σ l hp s) (hb : evalConds c cs l hp ≠ .bad) (hne : ∀ k h', evalConds c cs l hp ≠ .exc k h') :
    wpAny (model P.prog P.w) A (forIn ifs true fun c r => if r = true then do let ok <- isTrue c env (eval c env); pure (ForInStep.yield ok) else pure (ForInStep.yield r))
      (fun ok s' => ∃ hp' σ', evalConds c cs l hp = .ok ok hp' /\ After P σ σ' [] hp' s s') NE s := by
  rcases hifs with ⟨rfl, rfl⟩ | ⟨q, xq, rfl, rfl, h⟩
  . exact wpAny_tests_nil ⟨hp, σ, rfl, .refl I.st⟩
  . have e : evalConds c (.cons xq .nil) l hp = (evalX c xq l hp).bind fun v h => condB v (.ok true h) (.ok false h) := rfl
    rw [e] at hb hne
    have hbr : BoolR (evalX c xq l hp) := fun av h er => by
      rw [er, bok] at hb
      exact condB_is hb
    refine wpAny_tests_one (wpAny_mono (h c n env A σ l hp s C I (bind_ok hb) hbr) (fun b s' ⟨hp', σ', er, a⟩ => ⟨hp', σ', ?_, a⟩) fun _ _ q => (q.bind (f := fun v h => condB v (.ok true h) (.ok false h))).none hne)
    rw [e, er]
    rcases b with _ | _ <;> rfl
theorem comp_items {body : AV -> AHeap -> Res (Option AV)} {src : AV} {fuel : Nat} {acc : List AV} {k : Nat} (hb : compLoop body src fuel k acc hp ≠ .bad) : ∃ xs, itemsAV src hp = some xs := by
  rcases hi : itemsAV src hp with _ | xs
  case some => exact ⟨xs, rfl⟩
  case none =>
    exfalso; apply hb
    rcases fuel with _ | f
    case zero => rfl
    case succ => rw [comp_succ]; delta nextAt; rw [hi]; rfl
theorem iter_self {it : Addr} {src : AV} {k : Nat} (x : IterAt P s.heap σ it src k) {Q : Value -> Shared -> Prop} (h : Q (.ref it) s) : wpAny (model P.prog P.w) A (pyIter (.ref it)) Q E s := by
  rcases src with _ | _
  case rng => exact wpAny_pyIter_rangeiter x h
  case str => obtain ⟨_, x⟩ := x; exact wpAny_pyIter_striter_ascii x h
  case tup => obtain ⟨_, _, _, _, _, x⟩ := x; exact wpAny_pyIter_tupleiter x h
  case loc => obtain ⟨_, _, _, x⟩ := x; exact wpAny_pyIter_listiter x h
  all_goals exact x.elim
theorem same_obj {X : List Addr} {b : Addr} {o : Obj} {h h' : Heap} (g : Grows σ σ' X h h') (ho : h.get? b = some o) (hd : ∀ es ep, o.data ≠ .dict es ep) (hn : b ∉ σ.map (·.1)) (hX : b ∉ X) : h'.get? b = some o := by
  rcases g.oth b o ho hn hX with q | ⟨hcf, _⟩
  . exact q
  . refine xEE hcf fun _ _ q => ?_; exact absurd q (hd _ _)
theorem set_inner {l : Locs} {k j : Nat} {a b : AV} : (inner l k j a).set j (some b) = inner l k j b := by unfold inner; rw [List.set_set]
structure CompInv (P : Par) (cx : Cx) (env : Env) (l : Locs) (K j : Nat) (src : AV) (it D : Addr) (σ : Sg) (s : Shared) (k : Nat) (acc : List AV) (hp' : AHeap) (σ' : Sg) (s' : Shared) : Prop where
  af : After P σ σ' [] hp' s s'
  fr : ∃ lv, Frm P s'.heap σ' env cx lv /\ ∀ av, lv.set j (some av) = inner l K j av
  walk : IterAt P s'.heap σ' it src k
  itn : it ∉ σ'.map (·.1)
  have_ : ∃ ws m, ObjAt s'.heap D (.type "list") (.seq ws m) /\ RVs P.B s'.heap σ' acc ws.toList
  accn : D ∉ σ'.map (·.1)
  len : acc.length <= sizeLim
theorem FX_ne {b : Addr} {o : Obj} (f : Frm P s.heap σ env cx l) (ho : s.heap.get? b = some o) (h1 : ∀ es ep, o.data ≠ .dict es ep) (h2 : ∀ v, o.data ≠ .cell v) : b ∉ FX env := by
  intro hm
  simp only [FX, List.mem_cons, List.mem_map] at hm
  rcases hm with rfl | ⟨p, hp, rfl⟩
  . refine xEEEA f.nsObj fun o' es ep ho' hd' => ?_
    rw [ho] at ho'; cases ho'; exact h1 _ _ hd'
  . refine xEEA (f.cells p hp) fun o' v ho' hd' => ?_
    rw [ho] at ho'; cases ho'; exact h2 _ hd'
structure Aside (P : Par) (s : Shared) (it D K : Addr) : Prop where
  i0 : s.heap.get? it = none
  ib : P.B.h₀.get? it = none
  d0 : s.heap.get? D = none
  db : P.B.h₀.get? D = none
  k0 : s.heap.get? K = none
  kb : P.B.h₀.get? K = none
  dk : D ≠ K
  di : D ≠ it
  ik : it ≠ K
structure CompS (P : Par) (cx : Cx) (c : Ctx) (n : Nat) (env : Env) (A : Around) (K : Addr) (elt : Expr) (x : Str) (ifs : List Expr) (p : CP) : Prop where
  sims : Sims P cx c n
  ar : Arnd n c.q A
  hq : c.q = false
  wx : cx.slotW x = some p.j
  el : SimE P cx elt p.e
  ifs : (ifs = [] /\ p.cs = .nil) \/ ∃ q xq, ifs = [q] /\ p.cs = .cons xq .nil /\ SimT P cx q xq
  loc : env.kindOf x = some .local
  k : env.locals = K
noncomputable def bodyOf (c : Ctx) (p : CP) (l : Locs) (v : AV) (h : AHeap) : Res (Option AV) := compBody c p.e p.cs (inner l p.k p.j v) h
noncomputable def CompRest (P : Par) (cx : Cx) (env : Env) (c : Ctx) (p : CP) (l : Locs) (src : AV) (it D : Addr) (σ : Sg) (s : Shared) (vs : List AV) (hp₂ : AHeap) (f : Nat) (s' : Shared) : Prop :=
  ∃ k acc hp' σ', compLoop (bodyOf c p l) src f k acc hp' = .ok vs hp₂ /\ CompInv P cx env l p.k p.j src it D σ s k acc hp' σ' s'
theorem fix_of {b : Addr} {h h' : Heap} (hk : ∀ x o, x ≠ b -> h.get? x = some o -> h'.get? x = some o) (hf : ∃ o, h.get? b = some o /\ ¬ fixed o) : Fixes h h' := fun x o e f => hk x o (fun q => by
  subst q; refine xEA hf fun o2 e2 hf2 => ?_; rw [e2] at e; cases e; exact hf2 f) e
section
variable {c : Ctx} {K it D : Addr} {elt : Expr} {x : Str} {ifs : List Expr} {p : CP} {src : AV} {vs acc : List AV} {hp₂ : AHeap} {f k : Nat}
theorem comp_put (ap : Aside P s it D K) {hp₄ hp₅ : AHeap} {σ₄ σ₅ : Sg} {s₄ s₅ : Shared} {lv : Locs} {xv : AV} {w : Value} {ws : Array Value} {m : Nat} (hset : ∀ av, lv.set p.j (some av) = inner l p.k p.j av)
    (a4 : After P σ σ₄ [] hp₄ s s₄) (a₅ : After P σ₄ σ₅ [] hp₅ s₄ s₅) (fr : Frm P s₅.heap σ₅ env cx lv) (hit : IterAt P s₄.heap σ₄ it src (k + 1)) (hin : it ∉ σ₄.map (·.1)) (hD : ObjAt s₄.heap D (.type "list") (.seq ws m)) (hacc : RVs P.B s₄.heap σ₄ acc ws.toList) (hDn : D ∉ σ₄.map (·.1))
    (rw' : RV P.B s₅.heap σ₅ xv w) (hR : (if acc.length < sizeLim then compLoop (bodyOf c p l) src f (k + 1) (acc ++ [xv]) hp₅ else .bad) = .ok vs hp₂) :
    wpAny (model P.prog P.w) A (call (.builtin "list.append") [.ref D, w]) (fun _ s' => ∃ m, m < f + 1 /\ CompRest P cx env c p l src it D σ s vs hp₂ m s') E s₅ := by
  have gr := a₅.gr
  have hD5 : ObjAt s₅.heap D (.type "list") (.seq ws m) := same_obj gr hD (fun _ _ e => nomatch e) hDn (fun h => nomatch h)
  have hacc5 := RVs.grows gr _ _ hacc
  have hlen := hacc5.size
  have hDn5 : D ∉ σ₅.map (·.1) := not_mem_grown gr hD hDn
  have hDf : ¬ fixed ({ cls := .type "list", data := .seq ws m } : Obj) := fun q => absurd (Value.type.inj q) (by decide)
  refine xA (iter_same gr hin (fun h => nomatch h) hit) fun hit5 hin5 => ?_
  split at hR
  . rename_i hlt
    refine append_at hD5 (fun h₆ hs₆ hD₆ => ?_) (by have := sizeLim_le (Nat.le_of_lt hlt); lia)
    refine xAA ((a4.trans a₅).extBut (t := s₅.toks) hs₆.extBut ap.d0 hDn5 ap.db ⟨_, hD5, hDf⟩) fun a7 hx7 hk7 => ?_
    have g7 : Grows σ₅ σ₅ [D] s₅.heap h₆ := .sameBut hs₆ (fun o e => by rw [hD5] at e; cases e; exact hDf) (.inr List.mem_cons_self) hD₆
    exact ⟨f, Nat.lt_succ_self f, k + 1, acc ++ [xv], hp₅, σ₅, hR, a7, ⟨_, fr.extBut (FX_ne fr hD5 (fun _ _ e => nomatch e) (fun _ e => nomatch e)) hx7 hk7, hset⟩, hit5.keep g7 (hs₆.2 it (Ne.symm ap.di)), hin5,
      ⟨ws.push w, m + 1, hD₆, by rw [Array.toList_push]; exact (RVs.fixes (fix_of hk7 ⟨_, hD5, hDf⟩) _ _ hacc5).append ⟨hx7 _ _ rw', trivial⟩⟩, hDn5, by rw [List.length_append, List.length_singleton]; lia⟩
  . cases hR
theorem comp_turn (cs : CompS P cx c n env A K elt x ifs p) (Fr : Frs P s.heap σ A) (ap : Aside P s it D K) {hp₁ : AHeap} {σ₁ : Sg} {s₁ : Shared} {lv : Locs} {av : AV} {u : Value} {px : Pos} {ws : Array Value} {m : Nat} (hset : ∀ av, lv.set p.j (some av) = inner l p.k p.j av)
    (a₁ : After P σ σ₁ [] hp₁ s s₁) (fr : Frm P s₁.heap σ₁ env cx lv) (ru : RV P.B s₁.heap σ₁ av u) (hit : IterAt P s₁.heap σ₁ it src (k + 1)) (hin : it ∉ σ₁.map (·.1)) (hD : ObjAt s₁.heap D (.type "list") (.seq ws m)) (hacc : RVs P.B s₁.heap σ₁ acc ws.toList) (hDn : D ∉ σ₁.map (·.1)) (hlen : acc.length <= sizeLim)
    (hR : (bodyOf c p l av hp₁).bind (fun r h => match r with
      | some x => if acc.length < sizeLim then compLoop (bodyOf c p l) src f (k + 1) (acc ++ [x]) h else .bad
      | none => compLoop (bodyOf c p l) src f (k + 1) acc h) = .ok vs hp₂) :
    wpAny (model P.prog P.w) A (assign (.Name x px) env u) (fun _ s₂ =>
      wpAny (model P.prog P.w) A (forIn ifs true fun c r => if r = true then do let ok <- isTrue c env (eval c env); pure (ForInStep.yield ok) else pure (ForInStep.yield r)) (fun ok s₃ =>
        if ok = true then wpAny (model P.prog P.w) A (eval elt env) (fun x s₄ =>
          wpAny (model P.prog P.w) A (call (.builtin "list.append") [.ref D, x]) (fun _ s₅ => ∃ m, m < f + 1 /\ CompRest P cx env c p l src it D σ s vs hp₂ m s₅) E s₄) E s₃
        else ∃ m, m < f + 1 /\ CompRest P cx env c p l src it D σ s vs hp₂ m s₃) E s₂) E s₁ := by
  have hlk := cs.k
  refine wpAny_assign_Name (store_in (X := [K]) a₁.st fr cs.wx ru (fun _ => by rw [hlk]; exact List.mem_cons_self) (fun hne => absurd cs.loc hne) fun s₃ a₃ fr₃ _ => ?_)
  rw [hset av] at fr₃
  have a4 : After P σ σ₁ [] hp₁ s s₃ := by
    have z := (a₁.more (Y := [K]) (fun _ h => nomatch h)).trans a₃
    exact ⟨z.ctl, z.st, z.gr.drop fun b hb => .inr (by rw [List.mem_singleton.mp hb]; exact ap.k0)⟩
  have hD3 : ObjAt s₃.heap D (.type "list") (.seq ws m) := same_obj a₃.gr hD (fun _ _ e => nomatch e) hDn (fun q => ap.dk (List.mem_singleton.mp q))
  have hacc3 := RVs.grows a₃.gr _ _ hacc
  refine xA (iter_same a₃.gr hin (fun q => ap.ik (List.mem_singleton.mp q)) hit) fun hit3 hin3 => ?_
  have hcb : evalConds c p.cs (inner l p.k p.j av) hp₁ ≠ .bad := fun e => by
    unfold bodyOf compBody at hR; rw [e] at hR; cases hR
  have hce : ∀ k h', evalConds c p.cs (inner l p.k p.j av) hp₁ ≠ .exc k h' := fun k h' e => by
    unfold bodyOf compBody at hR; rw [e] at hR; cases hR
  refine wpAny_mono (conds_prim cs.ifs cs.sims ⟨a4.st, fr₃, cs.ar, Fr.after a4.gr⟩ hcb hce) (fun b s₄ q => ?_) (fun _ _ q => q.elim)
  refine xEEA q fun hp₄ σ₄ e4 a₄ => ?_
  have hR : ((if b then (evalX c p.e (inner l p.k p.j av) hp₄).bind fun x h => .ok (some x) h else .ok none hp₄ : Res (Option AV)).bind (fun r h => match r with
      | some x => if acc.length < sizeLim then compLoop (bodyOf c p l) src f (k + 1) (acc ++ [x]) h else .bad
      | none => compLoop (bodyOf c p l) src f (k + 1) acc h)) = .ok vs hp₂ := by
    unfold bodyOf compBody at hR
    rw [e4, bok] at hR
    exact hR
  have fr₄ := fr₃.after a₄
  have a5 := a4.trans a₄
  refine xA (iter_same a₄.gr hin3 (fun h => nomatch h) hit3) fun hit4 hin4 => ?_
  have hD4 : ObjAt s₄.heap D (.type "list") (.seq ws m) := same_obj a₄.gr hD3 (fun _ _ e => nomatch e) hDn (fun h => nomatch h)
  have hacc4 := RVs.grows a₄.gr _ _ hacc3
  have hDn4 : D ∉ σ₄.map (·.1) := not_mem_grown a₄.gr hD3 hDn
  rcases b with _ | _
  case false => exact ⟨f, Nat.lt_succ_self f, k + 1, acc, hp₄, σ₄, hR, a5, ⟨_, fr₄, fun _ => set_inner⟩, hit4, hin4, ⟨ws, m, hD4, hacc4⟩, hDn4, hlen⟩
  case true =>
    rw [if_pos rfl] at hR |-
    have hel' := cs.el c n env A σ₄ (inner l p.k p.j av) hp₄ s₄ cs.sims ⟨a5.st, fr₄, cs.ar, Fr.after a5.gr⟩
    rcases hrx : evalX c p.e (inner l p.k p.j av) hp₄ with ⟨xv, hp₅⟩ | ⟨_, _⟩ | _
    case bad => rw [hrx] at hR; cases hR
    case exc => rw [hrx] at hR; cases hR
    case ok =>
      rw [hrx] at hR hel'
      refine wpAny_mono (hel' (fun e => nomatch e)) (fun w s₅ q => ?_) (fun _ _ q => (q.none (by intro _ _ e; cases e)).elim)
      obtain ⟨_, _, σ₅, e, a₅, rw'⟩ := q
      cases e
      exact comp_put ap (fun _ => set_inner) a5 a₅ (fr₄.after a₅) hit4 hin4 hD4 hacc4 hDn4 rw' hR
theorem comp_loop (cs : CompS P cx c n env A K elt x ifs p) (Fr : Frs P s.heap σ A) (ap : Aside P s it D K) {iter : Expr} {scope : Scope} {px pos : Pos} {R : Result -> Shared -> Prop} {s₀ : Shared} (h₀ : CompRest P cx env c p l src it D σ s vs hp₂ c.fuel s₀)
    (hend : ∀ σ' lv s₅, After P σ (σ' ++ [(D, 0)]) [] (hp₂ ++ [.list vs]) s s₅ -> σ'.length = hp₂.length -> Frm P s₅.heap σ' env cx lv -> R (.ok .next) s₅) (hsz : vs.length <= sizeLim) :
    codeAny (model P.prog P.w) A (.compLoop (.ListComp elt [⟨.Name x px, iter, ifs, 0⟩] scope pos) 0 (.ref it) (.ref D) env) R s₀ := by
  refine codeAny_compLoop_tests (CompRest P cx env c p l src it D σ s vs hp₂) ?_ c.fuel h₀
  rintro f s' ⟨k, acc, hp', σ', hR', J⟩
  refine xEA J.fr fun lv fr hlv => ?_
  have ho := J.walk.obj
  rcases f with _ | f
  case zero => cases hR'
  case succ =>
    rw [comp_succ] at hR'
    rcases hnx : nextAt src k hp' with _ | r
    case none => rw [hnx] at hR'; cases hR'
    case some =>
      rw [hnx] at hR'
      refine xEEA J.have_ fun ws m hD hacc => ?_
      have hitF := frm_iter fr ho
      refine next_prim J.af.st (cs.ar.handled cs.hq) J.walk hnx (fun er h' hs => ?_) (fun av u h' t er ru hs hit' => ?_)
      . subst er
        cases hR'
        refine xAA (J.af.extBut (t := s'.toks) hs ap.i0 J.itn ap.ib ho.notFixed) fun a' hx' hk' => ?_
        have S₅ := a'.st.adopt (off := 0) (ao := .list vs) J.accn ap.db fun kl => ⟨ws, m, hk' D _ ap.di hD, RVs.mono (fun _ _ x _ => x) kl _ _ (RVs.fixes (fix_of hk' ho.notFixed) _ _ hacc), sizeLim_le hsz⟩
        exact hend σ' lv _ ⟨a'.ctl, S₅, a'.gr.adopt ap.d0⟩ a'.st.len (fr.extBut hitF hx' hk')
      . subst er
        refine xAA (J.af.extBut (t := t) hs ap.i0 J.itn ap.ib ho.notFixed) fun a' hx' hk' => ?_
        have hfix := fix_of hk' ho.notFixed
        exact comp_turn (s₁ := { s' with heap := h', toks := t }) cs Fr ap hlv a' (fr.extBut hitF hx' hk') (hx' _ _ ru) (hit' hfix) J.itn (hk' D _ ap.di hD) (RVs.fixes hfix _ _ hacc) J.accn J.len hR'
end
end
end
section
open PySem PySem.Spec PyProof.Rows PySem.SeqAt
section
variable {P : Par} {cx : Cx} {env : Env} {A : Around} {σ σ' : Sg} {l : Locs} {hp hp' : AHeap} {s s' : Shared} {n : Nat} {scope : Scope} {c : Ctx}
theorem inner_scope (hok : innerOk cx scope = true) (f : Frm P s.heap σ env cx l) : scope.kind = .function /\ (∀ q ∈ scope.names, q.2 = .local -> scope.names.lookup q.1 = some .local) /\ (∀ q ∈ scope.names, q.2 ≠ .cell) /\
    ∀ q ∈ scope.names, q.2 = .free -> ∃ c', env.cells.lookup q.1 = some c' := by
  unfold innerOk at hok
  rw [Bool.and_eq_true, Bool.and_eq_true, decide_eq_true_eq, beq_iff_eq] at hok
  refine xA hok fun qq1 hall => ?_; try clear hok; refine xA qq1 fun hkind hnd => ?_
  refine ⟨hkind, fun q hq e => ?_, fun q hq e => ?_, fun q hq e => ?_⟩
  . obtain ⟨a, b⟩ := q
    rcases (show b = .local from e) with rfl
    exact lookup_of_mem' hnd hq
  . have := List.all_eq_true.mp hall q hq
    unfold innerName at this
    rw [e] at this
    cases this
  . have hin := List.all_eq_true.mp hall q hq
    unfold innerName at hin
    rw [e] at hin
    dsimp only at hin
    rw [Bool.and_eq_true, beq_iff_eq] at hin
    refine xE (Option.isSome_iff_exists.mp hin.2) fun i' hi' => ?_
    have hk := f.kinds _ _ hin.1 (.inr rfl)
    refine xEA f.names fun m _ hm => ?_
    rcases hm q.1 i' hi' with ⟨h1, _⟩ | ⟨_, c', _, h1, _⟩
    . rw [hk] at h1; cases h1
    . exact ⟨c', h1⟩
theorem cp_is {p : CP} (hb : evalCP c p l hp ≠ .bad) : ∃ src hp₁ vs hp₂ xs, c.q = false /\ evalX c p.it l hp = .ok src hp₁ /\ itemsAV src hp₁ = some xs /\ compLoop (bodyOf c p l) src c.fuel 0 [] hp₁ = .ok vs hp₂ /\ vs.length <= sizeLim /\ evalCP c p l hp = .ok (.loc hp₂.length) (hp₂ ++ [.list vs]) := by
  rw [x_cp] at hb |-
  rcases hr : evalX c p.it l hp with ⟨src, hp₁⟩ | ⟨_, _⟩ | _
  case bad => rw [hr] at hb; exact absurd rfl hb
  case exc => rw [hr] at hb; exact absurd rfl hb
  case ok =>
    rw [hr] at hb
    have hb : (if c.q = true then Res.bad else (compLoop (bodyOf c p l) src c.fuel 0 [] hp₁).noExc.bind fun vs h => newList vs h) ≠ .bad := hb
    have hg : ((Res.ok src hp₁).noExc.bind fun src h => if c.q = true then Res.bad else (compLoop (fun v h => compBody c p.e p.cs (inner l p.k p.j v) h) src c.fuel 0 [] h).noExc.bind fun vs h => newList vs h) = (if c.q = true then Res.bad else (compLoop (bodyOf c p l) src c.fuel 0 [] hp₁).noExc.bind fun vs h => newList vs h) := rfl
    rw [hg]
    have hq : c.q = false := by
      rcases hq : c.q with _ | _
      case false => rfl
      case true => rw [hq] at hb; exact absurd rfl hb
    rw [if_neg (by rw [hq]; exact Bool.false_ne_true)] at hb |-
    rcases hr2 : compLoop (bodyOf c p l) src c.fuel 0 [] hp₁ with ⟨vs, hp₂⟩ | ⟨_, _⟩ | _
    case bad => rw [hr2] at hb; exact absurd rfl hb
    case exc => rw [hr2] at hb; exact absurd rfl hb
    case ok =>
      rw [hr2] at hb
      have hb : newList vs hp₂ ≠ .bad := hb
      have hsz : vs.length <= sizeLim := Classical.byContradiction fun hn => hb (if_neg hn)
      refine xE (comp_items (by rw [hr2]; exact fun e => nomatch e)) fun xs hi => ?_
      exact ⟨src, hp₁, vs, hp₂, xs, hq, rfl, hi, hr2, hsz, if_pos hsz⟩
theorem gone {σ₁ : Sg} {hp₁ : AHeap} {X : List Addr} (a : After P σ σ₁ X hp₁ s s') {b : Addr} (hb : s'.heap.objs.size <= b) : s'.heap.get? b = none /\ s.heap.get? b = none /\ b ∉ σ₁.map (·.1) /\ P.B.h₀.get? b = none := by
  have h1 : s'.heap.get? b = none := Heap.get?_none_of_le hb
  refine ⟨h1, ?_, fun hm => ?_, ?_⟩
  . rcases hq : s.heap.get? b with _ | o
    case none => rfl
    case some => refine xE (a.gr.ex _ o hq) fun o' e' => ?_; rw [h1] at e'; cases e'
  . refine xEA (List.mem_map.mp hm) fun p hp qq1 => ?_; subst qq1
    refine xEA (a.st.there hp) fun ob e _ => ?_
    rw [h1] at e; cases e
  . rcases hq : P.B.h₀.get? b with _ | o
    case none => rfl
    case some => rw [a.st.base b o hq] at h1; cases h1
noncomputable def nilObj : Obj := { cls := .type "list", dict := none, data := .seq ([] : List Value).toArray }
theorem comp_core {elt iter : Expr} {x : Str} {px pos pp : Pos} {ifs : List Expr} {p : CP} (hok : innerOk cx scope = true) (hx : scope.names.lookup x = some .local) (hwx : (innerCx cx scope).slotW x = some p.j) (hpk : p.k = (ownNames scope).length)
    (hce : ∃ kk, compE kk cx iter = some p.it) (hsi : SimE P cx iter p.it) (hel : SimE P (innerCx cx scope) elt p.e) (hifs : (ifs = [] /\ p.cs = .nil) \/ ∃ q xq, ifs = [q] /\ p.cs = .cons xq .nil /\ SimT P (innerCx cx scope) q xq)
    (C : Sims P cx c n) (I : Inv P cx n c.q env A σ l hp s) (hb : evalCP c p l hp ≠ .bad) {use : Option (Value -> Sem Unit)} {Q : Value -> Shared -> Prop}
    (hfin : ∀ σ' hp₃ s₅ D K mm, After P σ (σ' ++ [(D, 0)]) [] hp₃ s s₅ -> evalCP c p l hp = .ok (.loc σ'.length) hp₃ -> s.heap.get? K = none -> K ∉ (σ' ++ [(D, 0)]).map (fun p : Addr × Nat => p.1) -> P.B.h₀.get? K = none -> s₅.heap.Ns K mm -> compPost (model P.prog P.w) A NE use Q (.ref D) K (.ok .next) s₅) :
    wpAny (model P.prog P.w) A (comprehension (.ListComp elt [⟨.Name x px, iter, ifs, 0⟩] scope pos) scope env pp (PySem.newList []) false (eval iter env) use) Q NE s := by
  obtain ⟨kk, hce⟩ := hce
  refine xEEEEEAAAAA (cp_is hb) fun src hp₁ vs hp₂ xs hq hr hi hr2 hsz ecp => ?_
  refine xAAA (inner_scope hok I.fr) fun hkind hhl hcell hfree => ?_
  refine xEAA (closure_is (env := env) (scope := scope) hfree) fun cl hclos sub has => ?_
  have hit' := hsi c n env A σ l hp s C I (by rw [hr]; exact fun e => nomatch e)
  rw [hr] at hit'
  refine wpAny_comprehension_free rfl (fun v => folded_ok hce v) hclos hkind hhl (wpAny_mono hit' (fun xv s₁ q => ?_) fun _ _ e => (e.none (by intro _ _ z; cases z)).elim)
  obtain ⟨_, _, σ₁, e, a₁, rv⟩ := q
  cases e
  refine iter_prim C.ok a₁.st rv hi fun it s₂ hn0 hnσ hnb a₂ hit => ?_
  have a₂ := a₁.trans a₂
  have hn₀ : s.heap.get? it = none := by
    rcases hq : s.heap.get? it with _ | o
    case none => rfl
    case some => refine xE (a₁.gr.ex _ o hq) fun o' e' => ?_; rw [hn0] at e'; cases e'
  refine xEEEA hit.obj fun oi _ _ hoi _ => ?_
  refine wpAny_newObj_type (wpAny_newFunctionEnv hcell (by intro y hy; simp at hy) (fun h₁ hns₁ hsb₁ => ?_) hkind)
  replace hns₁ : h₁.Ns (s₂.heap.push nilObj).objs.size _ := hns₁
  have hDs := gone a₂ (Nat.le_refl s₂.heap.objs.size)
  have hCs := gone a₂ (b := (s₂.heap.push nilObj).objs.size) (by rw [push_size]; exact Nat.le_succ _)
  have hDC : s₂.heap.objs.size ≠ (s₂.heap.push nilObj).objs.size := by rw [push_size]; exact Nat.ne_of_lt (Nat.lt_succ_self _)
  have old : ∀ b o, s₂.heap.get? b = some o -> h₁.get? b = some o := fun b o e => hsb₁.extBut b o (fun q => by rw [q] at e; exact absurd (e.symm.trans hCs.1) (fun z => nomatch z)) (Heap.get?_push_of_some _ (Heap.get?_push_of_some _ e))
  have hD₁ : h₁.get? s₂.heap.objs.size = some nilObj := hsb₁.extBut _ _ hDC (Heap.get?_push_of_some _ (Heap.get?_push_size _ rfl))
  have a₃ : After P σ σ₁ [] hp₁ s { s₂ with heap := h₁, toks := s₂.toks + ([] : List (Str × Value)).length } := a₂.trans ⟨rfl, a₂.st.keep old, grows_keep old⟩
  have fr₃ := frm_inner (I.fr.after a₂) hok sub has (C := (s₂.heap.push nilObj).objs.size) hns₁ old hCs.2.2.1 hCs.2.2.2
  have hDit : s₂.heap.objs.size ≠ it := fun q => by rw [<- q, hDs.1] at hoi; cases hoi
  have hitK : it ≠ (s₂.heap.push nilObj).objs.size := fun q => by rw [q, hCs.1] at hoi; cases hoi
  have ap : Aside P s it s₂.heap.objs.size (s₂.heap.push nilObj).objs.size := ⟨hn₀, hnb, hDs.2.1, hDs.2.2.2, hCs.2.1, hCs.2.2.2, hDC, hDit, hitK⟩
  have cs : CompS P (innerCx cx scope) c n (compEnvC scope cl (s₂.heap.push nilObj).objs.size env) A (s₂.heap.push nilObj).objs.size elt x ifs p := ⟨⟨C.ok, C.f, C.fq, C.meths, C.attrs, C.cls, C.init, C.exc, C.g⟩, I.ar, hq, hwx, hel, hifs, lookup_relabel_local hx, rfl⟩
  have J₀ : CompInv P (innerCx cx scope) (compEnvC scope cl (s₂.heap.push nilObj).objs.size env) l p.k p.j src it s₂.heap.objs.size σ s 0 [] hp₁ σ₁ { s₂ with heap := h₁, toks := s₂.toks + ([] : List (Str × Value)).length } :=
    ⟨a₃, ⟨_, fr₃, fun av => by rw [hpk]; rfl⟩, hit.keep (X := []) (grows_keep old) ((old it oi hoi).trans hoi.symm), hnσ, ⟨#[], 0, hD₁, trivial⟩, hDs.2.2.1, Nat.zero_le _⟩
  have loop := comp_loop cs I.fs ap (iter := iter) (scope := scope) (px := px) (pos := pos) (R := compPost (model P.prog P.w) A NE use Q (.ref s₂.heap.objs.size) (s₂.heap.push nilObj).objs.size) ⟨0, [], hp₁, σ₁, hr2, J₀⟩ (fun σ' lv s₅ a₅ hlen fr' => by
    refine xEA fr'.names fun mm hnsC _ => ?_
    refine hfin σ' _ s₅ _ _ mm a₅ (by rw [hlen]; exact ecp) hCs.2.1 ?_ hCs.2.2.2 hnsC
    rw [List.map_append, List.mem_append]
    rintro (q | q)
    . exact fr'.out.1 q
    . exact hDC (List.mem_singleton.mp q).symm) hsz
  exact codeAny_compStart_list loop (iter_self J₀.walk loop)
theorem not_FX {K : Addr} (f : Frm P s.heap σ env cx l) (h : s.heap.get? K = none) : K ∉ FX env := fun hm => by
  rcases List.mem_cons.mp hm with q | hm
  . refine xEEEA f.nsObj fun o' _ _ ho' _ => ?_
    rw [<- q, h] at ho'; cases ho'
  . refine xEA (List.mem_map.mp hm) fun p hp q => ?_
    refine xEEA (f.cells p hp) fun o' _ ho' _ => ?_
    rw [q, h] at ho'; cases ho'
theorem ns_obj {h : Heap} {K : Addr} {mm : Str -> Option Value} (x : h.Ns K mm) : ∃ o, h.get? K = some o /\ ¬ fixed o := by
  refine xEEEAA x fun o es ep ho hd _ => ?_
  exact ⟨o, ho, by unfold fixed; rw [hd]; exact fun f => f⟩
structure CPOk (P : Par) (cx : Cx) (elt : Expr) (x : Str) (iter : Expr) (ifs : List Expr) (scope : Scope) (p : CP) : Prop where
  ok : innerOk cx scope = true
  hx : scope.names.lookup x = some .local
  wx : (innerCx cx scope).slotW x = some p.j
  pk : p.k = (ownNames scope).length
  ce : ∃ kk, compE kk cx iter = some p.it
  si : SimE P cx iter p.it
  el : SimE P (innerCx cx scope) elt p.e
  ifs : (ifs = [] /\ p.cs = .nil) \/ ∃ q xq, ifs = [q] /\ p.cs = .cons xq .nil /\ SimT P (innerCx cx scope) q xq
theorem sim_comp {elt iter : Expr} {x : Str} {px pos : Pos} {ifs : List Expr} {p : CP} (o : CPOk P cx elt x iter ifs scope p) : SimE P cx (.ListComp elt [⟨.Name x px, iter, ifs, 0⟩] scope pos) p.x := by
  intro c n env A σ l hp s C I hb
  refine wpAny_mono (show wpAny _ A (eval (.ListComp elt [⟨.Name x px, iter, ifs, 0⟩] scope pos) env) (QV P σ s (evalX c p.x l hp)) NE s from comp_core (P := P) (px := px) (pos := pos) o.ok o.hx o.wx o.pk o.ce o.si o.el o.ifs C I (show evalCP c p l hp ≠ .bad from hb) (use := none) fun σ' hp₃ s₅ D K mm a₅ er hK hKσ hKb hns => ?_) (fun _ _ q => q) (fun _ _ q => q.elim)
  refine ⟨mm, hns, fun h' hs => ?_⟩
  rw [show evalX c p.x l hp = _ from er]
  refine xAA (a₅.extBut (t := s₅.toks) hs.extBut hK hKσ hKb (ns_obj hns)) fun a₇ hx₇ hk₇ => ?_
  exact ⟨_, _, _, rfl, a₇, D, 0, rfl, List.getElem?_concat_length⟩
theorem simSt_comp {elt iter : Expr} {x y : Str} {px py pos spos : Pos} {ifs : List Expr} {p : CP} {i : Nat} (o : CPOk P cx elt x iter ifs scope p) (hput : putOk cx y py (.ListComp elt [⟨.Name x px, iter, ifs, 0⟩] scope pos) = true) (hwy : cx.slotW y = some i) :
    SimSt P cx (.Assign [.Name y py] (.ListComp elt [⟨.Name x px, iter, ifs, 0⟩] scope pos) spos) (.asg i p.x) := by
  intro c n env A σ l hp s C I hb
  have hput : (cx.sc.names.lookup y == some .local && py.line == pos.line && !(scope.names.any fun p => p.1 == y && (p.2 == .local || p.2 == .cell))) = true := hput
  rw [Bool.and_eq_true, Bool.and_eq_true, beq_iff_eq (a := cx.sc.names.lookup y), Bool.not_eq_true'] at hput
  refine xA hput fun qq1 hny => ?_; try clear hput; refine xA qq1 fun hy hline => ?_
  rw [s_asg] at hb |-
  have hsw : swapsWith (.ListComp elt [⟨.Name x px, iter, ifs, 0⟩] scope pos) (some (.Name y py)) spos.line env = pure true := by
    show (pure (env.blockKind == .function && env.kindOf y == some .local && py.line == pos.line && !(scope.names.any fun p => p.1 == y && (p.2 == .local || p.2 == .cell))) : Sem Bool) = _
    rw [I.fr.kinds y .local hy (.inl rfl), hline, hny]
    unfold Env.blockKind
    rw [I.fr.kind]
    rfl
  rw [exec_Assign_Name_used _ _ _ _ hsw]
  refine wpAny_bind (wpAny_standAt (wpAny_bind ?_))
  show wpAny _ A (do let _ <- comprehension (.ListComp elt [⟨.Name x px, iter, ifs, 0⟩] scope pos) scope env _ (PySem.newList []) false (eval iter env) (some (assign (.Name y py) env))) _ _ s
  refine wpAny_bind (wpAny_mono (comp_core (P := P) (px := px) (pos := pos) o.ok o.hx o.wx o.pk o.ce o.si o.el o.ifs C I.toInv (st_ok hb) (use := some (assign (.Name y py) env)) (Q := fun _ s' => QS P env cx σ s ((evalCP c p l hp).st l fun v h => .ok .next (l.set i (some v)) h) .next s')
    fun σ' hp₃ s₅ D K mm a₅ er hK hKσ hKb hns => ?_) (fun _ s' hq => wpAny_pure (wpAny_pure hq)) fun _ _ e => e.elim)
  rw [er]
  show wpAny _ A (assign (.Name y py) env (.ref D)) _ _ _
  have hKX := not_FX I.fr hK
  refine wpAny_assign_Name (store_prim a₅.st (I.fr.after a₅) hwy (av := .loc σ'.length) ⟨D, 0, rfl, List.getElem?_concat_length⟩ fun s₆ a₆ fr₆ _ => ?_)
  have hns₆ : s₆.heap.Ns K mm := near_ns hns (fun o ho => a₆.gr.oth K o ho hKσ hKX)
  refine ⟨mm, hns₆, fun h₇ hs₇ => ?_⟩
  refine xAA ((a₅.toX.trans a₆).extBut (t := s₆.toks) hs₇.extBut hK hKσ hKb (ns_obj hns₆)) fun a₇ hx₇ hk₇ => ?_
  exact ⟨_, _, _, _, rfl, a₇, rfl, fr₆.extBut hKX hx₇ hk₇⟩
end
end
section
open PySem PySem.Spec PyProof.Rows PySem.SeqAt
section
theorem lookup_zip {α : Type} : ∀ {ps : List Str} {vs : List α}, ps.Nodup -> ∀ {i : Nat} {x : Str} {v : α}, ps[i]? = some x -> vs[i]? = some v -> (ps.zip vs).lookup x = some v
  | [], _, _, i, x, v, h, _ => by simp at h
  | _ :: _, [], _, i, x, v, _, h => by simp at h
  | p :: ps, w :: ws, nd, 0, x, v, h, h' => by
    simp at h h'; subst h; subst h'
    simp [List.lookup]
  | p :: ps, w :: ws, nd, i + 1, x, v, h, h' => by
    simp only [List.getElem?_cons_succ] at h h'
    have hne : (x == p) = false := by
      rw [beq_eq_false_iff_ne]
      intro e; subst e
      exact (List.nodup_cons.mp nd).1 (List.mem_of_getElem? h)
    simp only [List.zip_cons_cons, List.lookup, hne]
    exact lookup_zip (List.nodup_cons.mp nd).2 h h'
theorem filterMap_zip {α : Type} : ∀ {ps : List Str} {vs : List α}, ps.Nodup -> ps.length = vs.length -> ∀ (f : Str -> Option α), (∀ x v, (x, v) ∈ ps.zip vs -> f x = some v) -> ps.filterMap (fun n => (f n).map (n, ·)) = ps.zip vs
  | [], [], _, _, _, _ => rfl
  | [], _ :: _, _, h, _, _ => by simp at h
  | _ :: _, [], _, h, _, _ => by simp at h
  | p :: ps, v :: vs, nd, hl, f, hf => by
    have h1 : f p = some v := hf p v (by simp)
    simp only [List.filterMap_cons, h1, Option.map_some, List.zip_cons_cons]
    rw [filterMap_zip (List.nodup_cons.mp nd).2 (by simpa using hl) f fun x v hm => hf x v (by simp [hm])]
theorem ite2 {α : Type} {a b : Bool} {x y z : α} (ha : a = false) (hb : b = false) : (if a = true then x else if b = true then y else z) = z := by rw [ha, hb]; rfl
theorem bind_lit {f q : Str} {args : List Arg} {kd : List (Option Expr)} {df : List Expr} {body : List Stmt} {scope : Scope} {pm cd doc : Value} {vals : List Value}
    (nd : (args.map (·.arg)).Nodup) (hl : (args.map (·.arg)).length = vals.length) : bindArgs (methDef f q ⟨[], args, none, [], kd, none, df⟩ body scope pm cd doc) ⟨vals, []⟩ = pure ((args.map (·.arg)).zip vals) := by
  have hz : (((args.map (·.arg)).zip vals).map (·.1)).Nodup := by
    rw [List.map_fst_zip (Nat.le_of_eq hl)]; exact nd
  have hf := filterMap_zip nd hl (fun n => ((args.map (·.arg)).zip vals).lookup n) fun x v hm => lookup_of_mem' hz hm
  have hm : (args.map (·.arg)).filter (fun n => (((args.map (·.arg)).zip vals).lookup n).isNone) = [] := by
    rw [List.filter_eq_nil_iff]
    intro x hx
    refine xE (List.mem_iff_getElem.mp hx) fun i qq1 => ?_; refine xE qq1 fun hi e => ?_
    have := lookup_zip (vs := vals) nd (i := i) (x := x) (v := vals[i]'(hl ▸ hi)) (by rw [List.getElem?_eq_getElem hi, e]) (by rw [List.getElem?_eq_getElem])
    rw [this]; exact Bool.false_ne_true
  have hb : ∀ D : List Value, D = [] -> (!((((args.map (fun x : Arg => x.arg))).take ((args.map (fun x : Arg => x.arg)).length - D.length)).filter (fun n => (((args.map (fun x : Arg => x.arg)).zip vals).lookup n).isNone)).isEmpty) = false := by
    rintro _ rfl
    rw [List.length_nil, Nat.sub_zero, List.take_length, hm]; rfl
  have ha : (decide (vals.length > (args.map (fun x : Arg => x.arg)).length) && true) = false := by
    rw [hl, Bool.and_true, decide_eq_false_iff_not]; exact Nat.lt_irrefl _
  have hpb : ∀ {α β : Type} (x : α) (f : α -> Sem β), (pure x >>= f) = f x := fun _ _ => rfl
  have hfor : ∀ (l : List Str) (ds : List Value) (b : List (Str × Value)) (g : Str × Value -> List (Str × Value) -> Sem (ForInStep (List (Str × Value)))), ds = [] -> forIn (l.zip ds) b g = pure b := by
    rintro l _ b g rfl
    rw [List.zip_nil_right]; rfl
  unfold bindArgs
  refine (hpb _ _).trans ((hpb none _).trans ((ite2 ha (hb _ List.drop_nil)).trans ?_))
  refine (congrArg (· >>= _) (hfor _ _ _ _ List.drop_nil)).trans ?_
  exact congrArg (pure (f := Sem)) ((congrArg (List.filterMap _) (List.append_nil _)).trans hf)
theorem bind_plain {params : Arguments} {f q : Str} {body : List Stmt} {scope : Scope} {pm cd doc : Value} {vals : List Value} (h1 : params.posonlyargs = []) (h2 : params.kwonlyargs = []) (h3 : params.vararg = none) (h4 : params.kwarg = none)
    (nd : (params.args.map (·.arg)).Nodup) (hl : (params.args.map (·.arg)).length = vals.length) : bindArgs (methDef f q params body scope pm cd doc) ⟨vals, []⟩ = pure ((params.args.map (·.arg)).zip vals) := by
  obtain ⟨po, ar, va, ko, kd, kw, df⟩ := params
  cases h1; cases h2; cases h3; cases h4
  exact bind_lit nd hl
end
section
theorem cells_nodup : ∀ (names : List (Str × NameKind)) (n : Nat) (acc : List (Str × Addr)), (acc.map (·.1)).Nodup -> (names.map (·.1)).Nodup -> (∀ x ∈ names, x.1 ∉ acc.map (·.1)) -> ((cellsFrom n names acc).map (·.1)).Nodup
  | [], _, _, h, _, _ => h
  | (x, k) :: r, n, acc, h, h2, h3 => by
    simp only [List.map_cons, List.nodup_cons] at h2
    unfold cellsFrom
    split
    . refine cells_nodup r _ _ ?_ h2.2 fun y hy => ?_
      . simp only [List.map_cons, List.nodup_cons]
        exact ⟨h3 (x, k) List.mem_cons_self, h⟩
      . simp only [List.map_cons, List.mem_cons, not_or]
        exact ⟨fun e => h2.1 (e ▸ List.mem_map_of_mem hy), h3 y (List.mem_cons_of_mem _ hy)⟩
    . exact cells_nodup r _ _ h h2.2 fun y hy => h3 y (List.mem_cons_of_mem _ hy)
theorem cells_has : ∀ (names : List (Str × NameKind)) (n : Nat) (acc : List (Str × Addr)) (x : Str), (names.lookup x = some .cell \/ (acc.lookup x).isSome = true) -> ((cellsFrom n names acc).lookup x).isSome = true
  | [], _, _, _, h => h.elim (fun e => by simp at e) id
  | (y, k) :: r, n, acc, x, h => by
    unfold cellsFrom
    split
    . rename_i hk
      refine cells_has r _ _ x ?_
      rcases hxy : x == y with _ | _
      case true => exact .inr (by simp [List.lookup, hxy])
      case false =>
        refine h.imp (fun e => ?_) fun e => ?_
        . simpa only [List.lookup, hxy] using e
        . simpa only [List.lookup, hxy] using e
    . rename_i hk
      refine cells_has r _ _ x (h.imp (fun e => ?_) id)
      rcases hxy : x == y with _ | _
      case true => simp only [List.lookup, hxy] at e; cases e; exact absurd rfl hk
      case false => simpa only [List.lookup, hxy] using e
theorem bindL_skip {k : Str -> Option NameKind} {x : Str} : ∀ {bs : List (Str × Value)} {m : Str -> Option Value}, x ∉ bs.map (·.1) -> bindL k bs m x = m x
  | [], _, _ => rfl
  | (n, v) :: r, m, h => by
    simp only [List.map_cons, List.mem_cons, not_or] at h
    unfold bindL
    rw [bindL_skip h.2]
    split
    . exact if_neg h.1
    . rfl
theorem bindC_skip {k : Str -> Option NameKind} {x : Str} : ∀ {bs : List (Str × Value)} {m : Str -> Option Value}, x ∉ bs.map (·.1) -> bindC k bs m x = m x
  | [], _, _ => rfl
  | (n, v) :: r, m, h => by
    simp only [List.map_cons, List.mem_cons, not_or] at h
    unfold bindC
    rw [bindC_skip h.2]
    split
    . rfl
    . exact if_neg h.1
theorem bindL_at {k : Str -> Option NameKind} {x : Str} (hk : k x = some .local) {v : Value} : ∀ {bs : List (Str × Value)} {m : Str -> Option Value}, (bs.map (·.1)).Nodup -> (x, v) ∈ bs -> bindL k bs m x = some v
  | [], _, _, h => nomatch h
  | (n, w) :: r, m, nd, h => by
    simp only [List.map_cons, List.nodup_cons] at nd
    unfold bindL
    rcases List.mem_cons.mp h with e | h2
    . cases e
      rw [bindL_skip nd.1, if_pos hk]; exact if_pos rfl
    . exact bindL_at hk nd.2 h2
theorem bindC_at {k : Str -> Option NameKind} {x : Str} (hk : ¬ k x = some .local) {v : Value} : ∀ {bs : List (Str × Value)} {m : Str -> Option Value}, (bs.map (·.1)).Nodup -> (x, v) ∈ bs -> bindC k bs m x = some v
  | [], _, _, h => nomatch h
  | (n, w) :: r, m, nd, h => by
    simp only [List.map_cons, List.nodup_cons] at nd
    unfold bindC
    rcases List.mem_cons.mp h with e | h2
    . cases e
      rw [bindC_skip nd.1, if_neg hk]; exact if_pos rfl
    . exact bindC_at hk nd.2 h2
end
theorem frm_call {P : Par} {σ : Sg} {hp : AHeap} {s s₁ : Shared} {sh : Sh} {params : Arguments} {scope : Scope} {fd : FuncData} {a : Addr} {avs : List AV} {vs : List Value}
    (S : St P.w P.B σ hp s.heap) (rv : RVs P.B s.heap σ avs vs) (hs : fd.scope = scope) (hok : defOk params scope = true) (hl : avs.length = (params.args.map (·.arg)).length) (hg : fd.globals = mainGlobals) (hb : fd.builtins = builtinsNs)
    (x : InCallC s (callEnvC fd s.heap.objs.size a).locals (bindL (callEnvC fd s.heap.objs.size a).kindOf ((params.args.map (·.arg)).zip vs) fun _ => none) (callEnvC fd s.heap.objs.size a).cells
        (bindC (callEnvC fd s.heap.objs.size a).kindOf ((params.args.map (·.arg)).zip vs) fun _ => none) s₁) :
    Frm P s₁.heap σ (callEnvC fd s.heap.objs.size a) (defCx sh (params.args.map (·.arg)) scope)
      (avs.map some ++ List.replicate ((slotNames (params.args.map (·.arg)) scope).length - (params.args.map (·.arg)).length) none) := by
  subst hs
  have hlv := rv.length
  simp only [defOk, Bool.and_eq_true, Bool.not_eq_true', decide_eq_true_eq, List.isEmpty_iff, Option.isNone_iff_eq_none, beq_iff_eq] at hok
  refine xA hok fun qq1 hpar => ?_; try clear hok; obtain ⟨⟨⟨⟨⟨⟨⟨⟨⟨ho1, ho2⟩, ho3⟩, ho4⟩, hk⟩, hgen⟩, hco⟩, hnp⟩, hnn⟩, hfree⟩ := qq1
  generalize hps : params.args.map (·.arg) = ps at *
  have hkind : (callEnvC fd s.heap.objs.size a).kindOf = fun x => fd.scope.names.lookup x := rfl
  have hcells : (callEnvC fd s.heap.objs.size a).cells = cellsFrom (s.heap.objs.size + 1) fd.scope.names [] := rfl
  have hlocals : (callEnvC fd s.heap.objs.size a).locals = s.heap.objs.size := rfl
  have hcn : ((cellsFrom (s.heap.objs.size + 1) fd.scope.names []).map (·.1)).Nodup := cells_nodup _ _ _ (by simp) hnn (by simp)
  have hzn : ((ps.zip vs).map (·.1)).Nodup := by rw [List.map_fst_zip (by lia)]; exact hnp
  have hns : ∃ r, slotNames ps fd.scope = ps ++ r := ⟨_, rfl⟩
  obtain ⟨r, hns⟩ := hns
  have hsl : ∀ (cx : Cx) y i, cx.sc = fd.scope -> cx.loc = (slotNames ps fd.scope).zipIdx -> cx.slot y = some i -> (slotNames ps fd.scope)[i]? = some y /\ ((fd.scope.names.lookup y = some .local) \/ fd.scope.names.lookup y = some .cell) := by
    intro cx y i e1 e2 h
    unfold Cx.slot at h
    rw [e1, e2] at h
    refine xEA (Option.bind_eq_some_iff.mp h) fun k hk' h => ?_
    refine xA (iteN h) fun hkk h => ?_
    next =>
      next =>
        refine ⟨by simpa using (zipIdx_lookup h).2, ?_⟩
        have hnf : k ≠ .free := by
          have := List.all_eq_true.mp hfree _ (mem_of_lookup' hk')
          simpa using this
        simp only [Bool.and_eq_true] at hkk
        have := hkk.1
        rcases k with _ | _ <;> first | exact .inl hk' | exact .inr hk' | exact absurd rfl hnf | exact absurd this Bool.false_ne_true
  have hfar : ∀ c, s.heap.objs.size <= c -> s.heap.get? c = none := fun c hc => by
    rcases hq : s.heap.get? c with _ | o
    case none => rfl
    case some => exact absurd (Heap.lt_size hq) (Nat.not_lt.mpr hc)
  have hout : ∀ c, s.heap.objs.size <= c -> c ∉ σ.map (·.1) /\ P.B.h₀.get? c = none := fun c hc => by
    refine ⟨fun hm => ?_, ?_⟩
    . refine xEA (List.mem_map.mp hm) fun p hp qq1 => ?_; subst qq1
      refine xEA (S.there hp) fun ob e _ => ?_
      rw [hfar _ hc] at e; cases e
    . rcases hq : P.B.h₀.get? c with _ | o
      case none => rfl
      case some => have := S.base c o hq; rw [hfar _ hc] at this; cases this
  have hval : ∀ (i : Nat) (y : Str) (av : AV), (slotNames ps fd.scope)[i]? = some y -> (avs.map some ++ List.replicate ((slotNames ps fd.scope).length - ps.length) none)[i]? = some (some av) -> ∃ v, (y, v) ∈ ps.zip vs /\ RV P.B s₁.heap σ av v := by
    intro i y av h1 h2
    have hi : i < avs.length := by
      by_cases hi : i < avs.length
      . exact hi
      . rw [List.getElem?_append_right (by simpa using Nat.not_lt.mp hi), List.getElem?_replicate] at h2
        split at h2 <;> cases h2
    rw [List.getElem?_append_left (by simpa using hi), List.getElem?_map] at h2
    refine xEA (Option.map_eq_some_iff.mp h2) fun av' e e' => ?_
    cases e'
    refine xEA (rv.get e) fun v hv r' => ?_
    rw [hns, List.getElem?_append_left (by lia)] at h1
    refine ⟨v, ?_, RV.grows (grows_keep (X := []) x.toInCall.keep) _ _ r'⟩
    apply List.mem_of_getElem? (i := i)
    rw [List.getElem?_zip_eq_some]
    exact ⟨h1, hv⟩
  refine ⟨hk, ?_, fun y z i h1 h2 => ?_, fun y i h => ?_, fun y h => ?_, fun y i h => ?_, ⟨_, x.toInCall.ns, fun y i h => ?_⟩, ⟨(hout _ (Nat.le_refl _)).1, fun p hp => ?_⟩, ⟨(hout _ (Nat.le_refl _)).2, fun p hp => ?_⟩, hg, hb, fun p hp => ?_, fun p hp q hq e => ?_, fun y k h _ => h⟩
  . show _ = (slotNames ps fd.scope).length
    rw [List.length_append, List.length_map, List.length_replicate, hns, List.length_append]; lia
  . have e1 := (hsl _ y i rfl rfl h1).1
    have e2 := (hsl _ z i rfl rfl h2).1
    rw [e1] at e2; exact Option.some.inj e2
  . have e1 := (hsl _ y i rfl rfl h).1
    exact (List.getElem?_eq_some_iff.mp e1).1
  . simp only [Cx.isGlob, Bool.and_eq_true, beq_iff_eq] at h
    exact h.1
  . have e1 := (hsl _ y i rfl rfl (slotW_slot h)).2
    show fd.scope.names.lookup y ≠ _
    rcases e1 with e1 | e1 <;> rw [e1] <;> simp
  . refine xA (hsl _ y i rfl rfl h) fun h1 h2 => ?_
    rcases h2 with h2 | h2
    . refine .inl ⟨h2, fun av e => ?_⟩
      refine xEA (hval i y av h1 e) fun v hm r' => ?_
      exact ⟨v, bindL_at (k := (callEnvC fd s.heap.objs.size a).kindOf) h2 hzn hm, r'⟩
    . refine xE (Option.isSome_iff_exists.mp (cells_has fd.scope.names (s.heap.objs.size + 1) [] y (.inl h2))) fun c hc => ?_
      refine .inr ⟨.inl h2, c, _, hc, x.cell y c hc, fun av e => ?_⟩
      refine xEA (hval i y av h1 e) fun v hm r' => ?_
      exact ⟨v, bindC_at (k := (callEnvC fd s.heap.objs.size a).kindOf) (by show ¬ fd.scope.names.lookup y = _; rw [h2]; simp) hzn hm, r'⟩
  . exact (hout _ (Nat.le_of_lt (x.above p.1 p.2 hp))).1
  . exact (hout _ (Nat.le_of_lt (x.above p.1 p.2 hp))).2
  . refine xEA (x.cell p.1 p.2 (lookup_of_mem' hcn hp)) fun o ho hd => ?_
    exact ⟨o, _, ho, hd⟩
  . exact name_of_addr x.apart (c := p.2) hp (by rw [e]; exact hq)
end
section
open PySem PySem.Spec PyProof.Rows PySem.SeqAt
section
variable {P : Par} {cx : Cx}
theorem lookup_ty {T : Str} {t : Ty} (h : tyOf T = some t) : (T, Value.type (tyName t)) ∈ bltPairs := by
  refine iteB h (fun e h => ?_) fun h => iteB h (fun e h => ?_) fun h => iteB h (fun e h => ?_) fun h => iteB h (fun e h => ?_) fun h => iteB h (fun e h => ?_) none_ne <;> subst e <;> cases h
  . exact blt_int
  . exact blt_bool
  . exact blt_str
  . exact blt_tuple
  . exact blt_list
theorem tgtName_is {t : Expr} {x : Str} (h : tgtName t = some x) : ∃ p, t = .Name x p := by
  rcases t with _ | _
  case Name => cases h; exact ⟨_, rfl⟩
  all_goals exact none_ne h
theorem compTy_name {e : Expr} {t : Ty} (h : compTy cx e = some t) : ∃ T q, e = .Name T q /\ cx.isGlob T = true /\ (T, Value.type (tyName t)) ∈ bltPairs := by
  refine xEA (Option.bind_eq_some_iff.mp h) fun x hx h2 => ?_
  refine xE (tgtName_is hx) fun q qq1 => ?_; subst qq1
  exact xA (iteN h2) fun hg h2 => ⟨x, q, rfl, hg, lookup_ty h2⟩
theorem tyArgs_is {as : List Expr} {t : Ty} (h : compTyArgs cx as = some t) : ∃ a b, as = [a, b] /\ compTy cx b = some t := by
  rcases as with _ | ⟨a, r⟩
  case nil => exact none_ne h
  case cons =>
    rcases r with _ | ⟨b, r⟩
    case nil => exact none_ne h
    case cons =>
      rcases r with _ | ⟨_, _⟩
      case nil => exact ⟨a, b, rfl, h⟩
      case cons => exact none_ne h
variable {k : Nat}
theorem sim_isi_of {as : List Expr} {y : X} {t : Ty} {q p : Pos} (hg : cx.isGlob "isinstance" = true) (hy : compHead (compE k cx) as = some y) (ht : compTyArgs cx as = some t) (H : ∀ e y, compE k cx e = some y -> SimE P cx e y) :
    SimE P cx (.Call (.Name "isinstance" q) as [] p) (.isi y t) := by
  obtain ⟨a, b, rfl, ht⟩ := tyArgs_is ht
  refine xEEAA (compTy_name ht) fun T q' qq1 hgT hT => ?_; subst qq1
  exact sim_isi hg hgT hT (not_starred hy) (H _ y hy)
theorem sim_const {v : Const} {m : Nat} {p : Pos} {x : X} (h : compConst v = some x) : SimE P cx (.Constant v m p) x := by
  rcases v with _ | _ <;> try exact none_ne h
  all_goals rcases Option.some.inj h with rfl
  . exact sim_none
  . exact sim_bool
  . exact sim_int
  . exact sim_str
theorem sim_name {y : Str} {p : Pos} {x : X} (h : compName cx y = some x) : SimE P cx (.Name y p) x := by
  unfold compName at h
  rcases hq : cx.slot y with _ | i <;> rw [hq] at h
  case some => cases h; exact sim_loc hq
  case none =>
    refine xA (iteN h) fun hg h => ?_
    refine xEA (Option.bind_eq_some_iff.mp h) fun k hk h => ?_
    exact sim_glob hg hk h
theorem sim_un {op : UnaryOp} {e : Expr} {y : X} {p : Pos} {x : X} (h : compUn op y = some x) (hy : SimE P cx e y) : SimE P cx (.UnaryOp op e p) x := by
  rcases op with _ | _ <;> try exact none_ne h
  all_goals rcases Option.some.inj h with rfl
  . exact sim_not hy
  . exact sim_neg hy
theorem compEs_nil {f : Expr -> Option X} {es : List Expr} (h : compEs f es = some .nil) : es = [] := by
  rcases es with _ | ⟨e, r⟩
  case nil => rfl
  case cons =>
    refine xEA (opt_bind h) fun a ha h => ?_
    refine xEA (opt_bind h) fun b hb h => ?_
    cases opt_pure h
theorem compEs_cons {f : Expr -> Option X} {es : List Expr} {x : X} {xs : Xs} (h : compEs f es = some (.cons x xs)) : ∃ e r, es = e :: r /\ f e = some x /\ compEs f r = some xs := by
  rcases es with _ | ⟨e, r⟩
  case nil => cases h
  case cons =>
    refine xEA (opt_bind h) fun a ha h => ?_
    refine xEA (opt_bind h) fun b hb h => ?_
    cases opt_pure h
    exact ⟨e, r, rfl, ha, hb⟩
inductive CmpK (f : Expr -> Option X) (xl : X) : List CmpOp -> List Expr -> X -> Prop
  | one (op : CmpOp) (o : COp) (r : Expr) (y : X) (h1 : compCOp op = some o) (h2 : f r = some y) : CmpK f xl [op] [r] (.cmp o xl y)
  | two (op op2 : CmpOp) (o o2 : COp) (m r : Expr) (y z : X) (h1 : compCOp op = some o) (h2 : compCOp op2 = some o2) (h3 : f m = some y) (h4 : f r = some z) : CmpK f xl [op, op2] [m, r] (.cmp2 o o2 xl y z)
theorem compCmp_is {ops : List CmpOp} {f : Expr -> Option X} {rs : List Expr} {xl : X} {xr : Xs} {x : X} (hrs : compEs f rs = some xr) (h : compCmp1 ops xl xr = some x) : CmpK f xl ops rs x := by
  rcases ops with _ | ⟨op, ops⟩
  case nil => exact none_ne h
  case cons =>
    rcases xr with _ | ⟨y, ys⟩
    case nil => exact none_ne h
    case cons =>
      obtain ⟨r, rs', rfl, h1, hrs⟩ := compEs_cons hrs
      rcases ops with _ | ⟨op2, ops⟩
      case nil =>
        rcases ys with _ | ⟨_, _⟩
        case cons => exact none_ne h
        case nil =>
          obtain ⟨o, ho, rfl⟩ := Option.map_eq_some_iff.mp (show (compCOp op).map (fun o => X.cmp o xl y) = some x from h)
          rcases compEs_nil hrs with rfl
          exact .one op o r y ho h1
      case cons =>
        rcases ops with _ | ⟨_, _⟩
        case cons => exact none_ne h
        case nil =>
          rcases ys with _ | ⟨z, zs⟩
          case nil => exact none_ne h
          case cons =>
            rcases zs with _ | ⟨_, _⟩
            case cons => exact none_ne h
            case nil =>
              obtain ⟨r2, rs2, rfl, h3, hrs⟩ := compEs_cons hrs
              rcases compEs_nil hrs with rfl
              refine xEA (opt_bind (show (do return X.cmp2 (<- compCOp op) (<- compCOp op2) xl y z) = some x from h)) fun o ho h => ?_
              refine xEA (opt_bind h) fun o2 ho2 h => ?_
              rcases opt_pure h with rfl
              exact .two op op2 o o2 r r2 y z ho ho2 h1 h3
theorem compIsn_is {ops : List CmpOp} {rs : List Expr} {xl x : X} (h : compIsn ops rs xl = some x) : ∃ op r b, ops = [op] /\ rs = [r] /\ isNone r = true /\ isnOf op = some b /\ x = .isn b xl := by
  rcases ops with _ | ⟨op, ops⟩
  case nil => exact none_ne h
  case cons =>
    rcases ops with _ | ⟨_, _⟩
    case cons => exact none_ne h
    case nil =>
      rcases rs with _ | ⟨e, q⟩
      case nil => exact none_ne h
      case cons =>
        rcases q with _ | ⟨_, _⟩
        case cons => exact none_ne h
        case nil =>
          replace h : (if isNone e = true then (isnOf op).map (fun b => X.isn b xl) else none) = some x := h
          refine xA (iteN h) fun hn h => ?_
          refine xEA (Option.map_eq_some_iff.mp h) fun b hb qq1 => ?_; subst qq1
          exact ⟨op, e, b, rfl, rfl, hn, hb, rfl⟩
theorem sim_biE {f : Str} {as : List Expr} {xs : Xs} {b : BI} {q p : Pos} (hg : cx.isGlob f = true) (hxs : compEs (compE k cx) as = some xs) (hS : SimEs P cx as xs) (h : biOf f = some b) : SimE P cx (.Call (.Name f q) as [] p) (.bi b xs) := by
  refine iteB h (fun e h => ?_) fun h => iteB h (fun e h => ?_) fun h => iteB h (fun e h => ?_) fun h => iteB h (fun e h => ?_) fun h => iteB h (fun e h => ?_) none_ne <;> subst e <;> cases h
  . exact sim_fn (fun _ _ _ => rfl) blt_len prim_len hg hxs hS
  . exact sim_ty (fun _ _ _ => rfl) blt_list prim_list hg hxs hS
  . exact sim_ty (fun _ _ _ => rfl) blt_dict prim_dict hg hxs hS
  . exact sim_ty (fun _ _ _ => rfl) blt_set prim_set hg hxs hS
  . exact sim_fn (fun _ _ _ => rfl) blt_min prim_min hg hxs hS
theorem sim_callE {f : Str} {as : List Expr} {xs : Xs} {x : X} {q p : Pos} (hg : cx.isGlob f = true) (hxs : compEs (compE k cx) as = some xs) (hS : SimEs P cx as xs) (h : compCall cx f xs = some x) : SimE P cx (.Call (.Name f q) as [] p) x := by
  refine iteS h (fun hf g => ?_) fun _ h => iteB h (fun e g => ?_) fun h => iteB h (fun e g => ?_) fun g => ?_
  . rw [Bool.and_eq_true, Bool.not_eq_true'] at hf
    cases g
    exact sim_call hg hf.1 hf.2 hxs hS
  . subst e
    rcases xs with _ | ⟨y, ys⟩
    case nil => exact none_ne g
    case cons =>
      rcases Option.some.inj (show some (X.new (.cons y ys)) = some x from g) with rfl
      refine xEEAA (compEs_cons hxs) fun e r qq1 h1 _ => ?_; subst qq1
      exact sim_new hg (not_starred h1) hxs hS
  . subst e
    rcases Option.some.inj g with rfl
    exact sim_ty (fun _ _ _ => rfl) blt_range prim_range hg hxs hS
  . rcases hlk : biOf f with _ | b <;> rw [hlk] at g
    case none => exact none_ne g
    case some =>
      rcases Option.some.inj g with rfl
      exact sim_biE hg hxs hS hlk
theorem sim_methE {o : Expr} {m : Str} {as : List Expr} {xo x : X} {xs : Xs} {ap p : Pos} (h1 : (ap.endLine == p.line) = true) (h2 : notSuper o = true) (h3 : as.length < 20) (hxs : compEs (compE k cx) as = some xs) (ho : SimE P cx o xo) (hS : SimEs P cx as xs) (h : compMeth cx m xo xs = some x) :
    SimE P cx (.Call (.Attribute o m ap) as [] p) x := by
  refine iteS h (fun hf h => ?_) fun _ h => ?_
  . rw [Bool.and_eq_true] at hf
    cases h
    exact sim_im hf.1 hf.2 h2 hxs h3 h1 ho hS
  . rcases hb : bmOf m with _ | b <;> rw [hb] at h
    case none => exact none_ne h
    case some =>
      cases h
      refine iteB hb (fun e hb => ?_) fun hb => iteB hb (fun e hb => ?_) fun hb => iteB hb (fun e hb => ?_) fun hb => iteB hb (fun e hb => ?_) none_ne <;> subst e <;> cases hb
      . exact sim_bm F.plainAttrs_list F.slot_list_append F.type_list_append bmT_append bm_append h2 hxs h3 h1 ho hS
      . exact sim_bm F.plainAttrs_dict F.slot_dict_get F.type_dict_get bmT_get bm_get h2 hxs h3 h1 ho hS
      . exact sim_bm F.plainAttrs_str F.slot_str_index F.type_str_index bmT_index bm_index h2 hxs h3 h1 ho hS
      . exact sim_bm F.plainAttrs_dict F.slot_dict_pop F.type_dict_pop bmT_pop bm_pop h2 hxs h3 h1 ho hS
theorem simB_of (op : BoolOp) (H : ∀ e y, compE k cx e = some y -> SimE P cx e y) : ∀ (es : List Expr) (x : X), compBool (compE k cx) op es = some x -> SimB P cx op es x
  | [], x, h => by cases h
  | [e], x, h => simB_one (H e x h)
  | e :: e' :: r, x, h => by
    refine xEA (opt_bind h) fun a ha h => ?_
    refine xEA (opt_bind h) fun b hb h => ?_
    have hR := simB_of op H (e' :: r) b hb
    rcases op with _ | _
    case And => rcases opt_pure h with rfl; exact simB_and (H e a ha) hR
    case Or => rcases opt_pure h with rfl; exact simB_or (H e a ha) hR
theorem simEs_of (H : ∀ e y, compE k cx e = some y -> SimE P cx e y) : ∀ (es : List Expr) (xs : Xs), compEs (compE k cx) es = some xs -> SimEs P cx es xs
  | [], xs, h => by cases h; exact simEs_nil
  | e :: r, xs, h => by
    refine xEA (opt_bind h) fun a ha h => ?_
    refine xEA (opt_bind h) fun b hb h => ?_
    rcases opt_pure h with rfl
    exact simEs_cons (not_starred ha) (H e a ha) (simEs_of H r b hb)
theorem simTs_of (op : BoolOp) (H : ∀ e y, compE k cx e = some y -> SimT P cx e y) : ∀ (es : List Expr) (x : X), compBool (compE k cx) op es = some x -> SimTs P cx op es x
  | [], x, h => by cases h
  | [e], x, h => simTs_one (H e x h)
  | e :: e' :: r, x, h => by
    refine xEA (opt_bind h) fun a ha h => ?_
    refine xEA (opt_bind h) fun b hb h => ?_
    have hR := simTs_of op H (e' :: r) b hb
    rcases op with _ | _
    case And => rcases opt_pure h with rfl; exact simTs_and (H e a ha) hR
    case Or => rcases opt_pure h with rfl; exact simTs_or (H e a ha) hR
theorem sim_call_of {g : Expr} {as : List Expr} {ks : List Keyword} {p : Pos} {x : X} (h : stepE (compE k) cx (.Call g as ks p) = some x) (IH : ∀ e y, compE k cx e = some y -> SimE P cx e y) : SimE P cx (.Call g as ks p) x := by
  rcases ks with _ | ⟨_, _⟩
  case cons => exact none_ne h
  case nil =>
    rcases g with _ | _
    case Name g q =>
      replace h : (if (!cx.isGlob g) = true then none else if (g == ("isinstance" : Str)) = true then (do return .isi (<- compHead (compE k cx) as) (<- compTyArgs cx as)) else (do compCall cx g (<- compEs (compE k cx) as))) = some x := h
      refine iteS h (fun _ h => none_ne h) fun hg h => ?_
      . rw [Bool.not_eq_true', Bool.not_eq_false] at hg
        refine iteB h (fun e h => ?_) fun h => ?_
        . subst e
          refine xEA (opt_bind h) fun y hy h => ?_
          refine xEA (opt_bind h) fun t ht h => ?_
          rcases opt_pure h with rfl
          exact sim_isi_of hg hy ht IH
        . refine xEA (opt_bind h) fun xs hxs h => ?_
          exact sim_callE hg hxs (simEs_of IH _ xs hxs) h
    case Attribute o m ap =>
      replace h : (if (!(ap.endLine == p.line && notSuper o && decide (as.length < 20))) = true then none else (do compMeth cx m (<- compE k cx o) (<- compEs (compE k cx) as))) = some x := h
      refine iteS h (fun _ h => none_ne h) fun hok h => ?_
      . rw [Bool.not_eq_true', Bool.not_eq_false, Bool.and_eq_true, Bool.and_eq_true, decide_eq_true_eq] at hok
        refine xEA (opt_bind h) fun xo ho h => ?_
        refine xEA (opt_bind h) fun xs hxs h => ?_
        exact sim_methE hok.1.1 hok.1.2 hok.2 hxs (IH o xo ho) (simEs_of IH _ xs hxs) h
    all_goals exact none_ne h
theorem part_of {o : Option Expr} {x : X} (h : compPart (compE k cx) o = some x) (IH : ∀ e y, compE k cx e = some y -> SimE P cx e y) : ∀ e, o = some e -> SimE P cx e x := fun e he => by
  subst he
  exact IH e x h
theorem sim_sub_of {o i : Expr} {p : Pos} {x : X} (h : stepE (compE k) cx (.Subscript o i p) = some x) (IH : ∀ e y, compE k cx e = some y -> SimE P cx e y) : SimE P cx (.Subscript o i p) x := by
  have sub : (do return .sub (<- compE k cx o) (<- compE k cx i)) = some x -> SimE P cx (.Subscript o i p) x := fun h => by
    refine xEA (opt_bind h) fun xo ho h => ?_
    refine xEA (opt_bind h) fun xi hi h => ?_
    rcases opt_pure h with rfl
    exact sim_sub (IH _ xo ho) (IH _ xi hi)
  rcases i with _ | _
  case Slice lo hi st q =>
    rcases st with _ | _
    case some => exact none_ne h
    case none =>
      refine xEA (opt_bind (show (do return .slice (<- compE k cx o) (<- compPart (compE k cx) lo) (<- compPart (compE k cx) hi)) = some x from h)) fun xo ho h => ?_
      refine xEA (opt_bind h) fun xl hl h => ?_
      refine xEA (opt_bind h) fun xh hh h => ?_
      rcases opt_pure h with rfl
      exact sim_slice (IH _ xo ho) hl (part_of hl IH) hh (part_of hh IH)
  all_goals exact sub h
theorem sim_attr_of {o : Expr} {a : Str} {p : Pos} {x : X} (h : stepE (compE k) cx (.Attribute o a p) = some x) (IH : ∀ e y, compE k cx e = some y -> SimE P cx e y) : SimE P cx (.Attribute o a p) x := by
  replace h : (if (cx.attrs.contains a && notSuper o) = true then (do return .attr a (<- compE k cx o)) else none) = some x := h
  refine xA (iteN h) fun hc h => ?_
  rw [Bool.and_eq_true] at hc
  refine xEA (opt_bind h) fun xo ho h => ?_
  rcases opt_pure h with rfl
  exact sim_attr hc.1 hc.2 (IH _ xo ho)
theorem asTgt_is {t : Expr} {x : Str} (h : asTgt t = some x) : ∃ p, t = .Name x p := by
  rcases t with _ | _
  case Name => cases h; exact ⟨_, rfl⟩
  all_goals exact none_ne h
inductive LC (P : Par) (cx : Cx) (x : X) : Expr -> Prop
  | mk (elt : Expr) (y : Str) (px : Pos) (iter : Expr) (ifs : List Expr) (scope : Scope) (pos : Pos) (p : CP) (o : CPOk P cx elt y iter ifs scope p) (e : x = p.x) : LC P cx x (.ListComp elt [⟨.Name y px, iter, ifs, 0⟩] scope pos)
theorem lc_of {elt : Expr} {gens : List Comprehension} {scope : Scope} {p : Pos} {x : X} (h : compLC (compE k) cx elt gens scope = some x) (IH : ∀ cx e y, compE k cx e = some y -> SimE P cx e y) (IT : ∀ cx e y, compE k cx e = some y -> SimT P cx e y) : LC P cx x (.ListComp elt gens scope p) := by
  rcases gens with _ | ⟨g, r⟩
  case nil => exact none_ne h
  case cons =>
    rcases r with _ | ⟨_, _⟩
    case cons => exact none_ne h
    case nil =>
      obtain ⟨t, iter, ifs, n⟩ := g
      delta compLC at h
      dsimp only at h
      split at h
      . rename_i hc
        rw [Bool.and_eq_true, Bool.and_eq_true, decide_eq_true_eq] at hc
        refine xA hc fun qq1 h6 => ?_; try clear hc; refine xA qq1 fun hn h1 => ?_
        rcases eq_of_beq hn with rfl
        refine xEA (opt_bind h) fun y hy h2 => ?_
        refine xE (asTgt_is hy) fun px qq1 => ?_; subst qq1
        clear h
        split at h2
        . rename_i h5
          have h := h2
          refine xEA (opt_bind h) fun e he h => ?_
          refine xEA (opt_bind h) fun j hj h => ?_
          refine xEA (opt_bind h) fun it hit h => ?_
          refine xEA (opt_bind h) fun cs hcs h => ?_
          rcases opt_pure h with rfl
          refine .mk elt y px iter ifs scope p ⟨e, (ownNames scope).length, j, it, cs⟩ ⟨h1, eq_of_beq h5, hj, rfl, ⟨k, hit⟩, IH _ _ _ hit, IH _ _ _ he, ?_⟩ rfl
          rcases ifs with _ | ⟨q, r⟩
          case nil => cases hcs; exact .inl ⟨rfl, rfl⟩
          case cons =>
            rcases r with _ | ⟨_, _⟩
            case nil =>
              refine xEA (opt_bind hcs) fun xq hq hcs => ?_
              rcases opt_pure hcs with rfl
              exact .inr ⟨q, xq, rfl, rfl, IT _ _ _ hq⟩
            case cons => exact absurd h6 (by rw [List.length_cons, List.length_cons]; lia)
        . cases h2
      . cases h
theorem sim_dict_of {ks : List (Option Expr)} {vs : List Expr} {p : Pos} {x : X} (h : stepE (compE k) cx (.Dict ks vs p) = some x) : SimE P cx (.Dict ks vs p) x := by
  replace h : (if (ks.isEmpty && vs.isEmpty) = true then some X.dict0 else none) = some x := h
  split at h
  . rename_i hc
    rw [Bool.and_eq_true, List.isEmpty_iff, List.isEmpty_iff] at hc
    refine xA hc fun qq1 qq2 => ?_; try clear hc; subst qq1; subst qq2
    cases h; exact sim_dict0
  . cases h
theorem sim_cmp_of {l : Expr} {ops : List CmpOp} {rs : List Expr} {p : Pos} {x : X} (h : stepE (compE k) cx (.Compare l ops rs p) = some x) (IH : ∀ e y, compE k cx e = some y -> SimE P cx e y) : SimE P cx (.Compare l ops rs p) x /\ SimT P cx (.Compare l ops rs p) x := by
  refine xEA (opt_bind h) fun xl hl h => ?_
  have hL := IH _ xl hl
  split at h
  . rename_i y hy
    cases h
    refine xEEEAAAA (compIsn_is hy) fun op r b qq1 qq2 h1 h2 qq3 => ?_; subst qq1; subst qq2; subst qq3
    exact ⟨sim_isn h2 h1 hL, simT_isn h2 h1 hL⟩
  . refine xEA (opt_bind h) fun xr hr h => ?_
    cases compCmp_is hr h with
    | one op o r y h1 h2 => exact ⟨sim_cmp h1 (notMarks h2) hL (IH r y h2), simT_cmp h1 (notMarks h2) hL (IH r y h2)⟩
    | two op op2 o o2 m r y z h1 h2 h3 h4 => exact ⟨sim_cmp2 h1 h2 (notMarks h4) hL (IH m y h3) (IH r z h4), simT_cmp2 h1 h2 (notMarks h4) hL (IH m y h3) (IH r z h4)⟩
theorem step_E {e : Expr} {x : X} (h : stepE (compE k) cx e = some x) (IH : ∀ cx e y, compE k cx e = some y -> SimE P cx e y) (IT : ∀ cx e y, compE k cx e = some y -> SimT P cx e y) : SimE P cx e x := by
  have IH' := IH cx
  rcases e with _ | _
  case Constant => exact sim_const h
  case Name => exact sim_name h
  case BinOp =>
    refine xEA (opt_bind h) fun b hb h => ?_
    refine xEA (opt_bind h) fun xl hl h => ?_
    refine xEA (opt_bind h) fun xr hr h => ?_
    rcases opt_pure h with rfl
    exact sim_bin hb (IH' _ xl hl) (IH' _ xr hr)
  case UnaryOp =>
    refine xEA (opt_bind h) fun xl hl h => ?_
    exact sim_un h (IH' _ xl hl)
  case BoolOp => exact sim_boolop (simB_of _ IH' _ _ h)
  case Compare => exact (sim_cmp_of h IH').1
  case Call => exact sim_call_of h IH'
  case Attribute => exact sim_attr_of h IH'
  case Subscript => exact sim_sub_of h IH'
  case Tuple =>
    refine xEA (opt_bind h) fun xs hxs h => ?_
    rcases opt_pure h with rfl
    exact sim_tup (simEs_of IH' _ xs hxs)
  case List =>
    refine xEA (opt_bind h) fun xs hxs h => ?_
    rcases opt_pure h with rfl
    exact sim_list (simEs_of IH' _ xs hxs)
  case Dict => exact sim_dict_of h
  case ListComp elt gens scope p =>
    cases lc_of (p := p) h IH IT with
    | mk _ _ _ _ _ _ _ q o e => subst e; exact sim_comp o
  all_goals exact none_ne h
theorem step_T {e : Expr} {x : X} (h : stepE (compE k) cx e = some x) (hE : SimE P cx e x) (IH : ∀ cx e y, compE k cx e = some y -> SimE P cx e y) (IT : ∀ cx e y, compE k cx e = some y -> SimT P cx e y) : SimT P cx e x := by
  rcases e with _ | _
  case UnaryOp op y p =>
    rcases op with _ | _
    case Not =>
      refine xEA (opt_bind h) fun xl hl h => ?_
      cases h
      exact simT_not (IT _ y xl hl)
    all_goals exact simT_val (fun _ _ => rfl) hE
  case BoolOp op vs p => exact simT_boolop (simTs_of op (IT cx) vs x h)
  case IfExp => exact none_ne h
  case Compare => exact (sim_cmp_of h (IH cx)).2
  all_goals exact simT_val (fun _ _ => rfl) hE
theorem sim_of : ∀ (k : Nat), (∀ (cx : Cx) (e : Expr) (x : X), compE k cx e = some x -> SimE P cx e x) /\ ∀ (cx : Cx) (e : Expr) (x : X), compE k cx e = some x -> SimT P cx e x
  | 0 => ⟨fun cx e x h => none_ne h, fun cx e x h => none_ne h⟩
  | k + 1 => by
    refine xA (sim_of k) fun IH IT => ?_
    exact ⟨fun cx e x h => step_E h IH IT, fun cx e x h => step_T h (step_E h IH IT) IH IT⟩
theorem simE_of (k : Nat) (e : Expr) (x : X) (h : compE k cx e = some x) : SimE P cx e x := (sim_of k).1 cx e x h
theorem simT_of (k : Nat) (e : Expr) (x : X) (h : compE k cx e = some x) : SimT P cx e x := (sim_of k).2 cx e x h
end
end
section
open PySem PySem.Spec PyProof.Rows PySem.SeqAt
section
variable {P : Par} {cx : Cx}
theorem simSt_asgC {elt : Expr} {gens : List Comprehension} {scope : Scope} {pos p q : Pos} {y : Str} {i : Nat} {x : X} (hi : cx.slotW y = some i) (hput : putOk cx y q (.ListComp elt gens scope pos) = true) (hy : compE deep cx (.ListComp elt gens scope pos) = some x) :
    SimSt P cx (.Assign [.Name y q] (.ListComp elt gens scope pos) p) (.asg i x) := by
  cases lc_of (p := pos) (k := 29) hy (fun cx => (sim_of 29).1 cx) (fun cx => (sim_of 29).2 cx) with
  | mk _ _ _ _ _ _ _ q o e => subst e; exact simSt_comp o hput hi
theorem simSt_asgE {ts : List Expr} {v : Expr} {x : S} {p : Pos} (h : compAsg cx ts v = some x) : SimSt P cx (.Assign ts v p) x := by
  rcases ts with _ | ⟨t, r⟩
  case nil => exact none_ne h
  case cons =>
  rcases r with _ | ⟨_, _⟩
  case cons => exact none_ne h
  case nil =>
    rcases t with _ | _
    case Name y q =>
      replace h : (if putOk cx y q v = true then (do return .asg (<- cx.slotW y) (<- compE deep cx v)) else none) = some x := h
      refine xA (iteN h) fun hput h => ?_
      . refine xEA (opt_bind h) fun i hi h => ?_
        refine xEA (opt_bind h) fun y hy h => ?_
        rcases opt_pure h with rfl
        rcases hc : isComp v with _ | _
        case false => exact simSt_asg hi hc (simE_of _ _ _ hy)
        case true =>
          rcases v with _ | _
          case ListComp => exact simSt_asgC hi hput hy
          all_goals first | exact absurd hc Bool.false_ne_true | exact none_ne hy
    case Subscript o k q =>
      replace h : (if isComp v = true then none else (do return .setitem (<- compE deep cx o) (<- compE deep cx k) (<- compE deep cx v))) = some x := h
      refine iteS h (fun _ h => none_ne h) fun hc h => ?_
      . rw [Bool.not_eq_true] at hc
        refine xEA (opt_bind h) fun xo ho h => ?_
        refine xEA (opt_bind h) fun xk hk h => ?_
        refine xEA (opt_bind h) fun y hy h => ?_
        rcases opt_pure h with rfl
        exact simSt_set hc (simE_of _ _ _ ho) (simE_of _ _ _ hk) (simE_of _ _ _ hy)
    case Attribute o a q =>
      replace h : (if (cx.attrs.contains a && notSuper o && !isComp v) = true then (do return .setattr a (<- compE deep cx o) (<- compE deep cx v)) else none) = some x := h
      refine xA (iteN h) fun hc g => ?_
      clear h; rename _ = some _ => h
      . rw [Bool.and_eq_true, Bool.and_eq_true, Bool.not_eq_true'] at hc
        refine xEA (opt_bind h) fun xo ho h => ?_
        refine xEA (opt_bind h) fun y hy h => ?_
        rcases opt_pure h with rfl
        exact simSt_seta hc.1.1 hc.2 (simE_of _ _ _ ho) (simE_of _ _ _ hy)
    case Tuple ts x1 q =>
      replace h : (if (isComp v || isTup v) = true then none else (do return .asgt (<- tgtsOf cx ts) (<- compE deep cx v))) = some x := h
      refine iteS h (fun _ h => none_ne h) fun hc h => ?_
      . rw [Bool.not_eq_true, Bool.or_eq_false_iff] at hc
        refine xEA (opt_bind h) fun is his h => ?_
        refine xEA (opt_bind h) fun y hy h => ?_
        rcases opt_pure h with rfl
        exact simSt_asgt his hc.1 hc.2 (simE_of _ _ _ hy)
    all_goals exact none_ne h
theorem tgt_is {t : Expr} {i : Nat} (h : tgtOf cx t = some i) : ∃ y p, t = .Name y p /\ cx.slotW y = some i := by
  refine xEA (Option.bind_eq_some_iff.mp h) fun x hx h2 => ?_
  refine xE (tgtName_is hx) fun p qq1 => ?_; subst qq1
  exact ⟨x, p, rfl, h2⟩
theorem simSs_of {k : Nat} (H : ∀ st x, compS k cx st = some x -> SimSt P cx st x) : ∀ (sts : List Stmt) (xs : Ss), compSs (compS k cx) sts = some xs -> SimSs P cx sts xs
  | [], xs, h => by cases h; exact simSs_nil
  | st :: r, xs, h => by
    refine xEA (opt_bind h) fun a ha h => ?_
    refine xEA (opt_bind h) fun b hb h => ?_
    rcases opt_pure h with rfl
    exact simSs_cons (H st a ha) (simSs_of H r b hb)
inductive ExcIs (cx : Cx) : Expr -> S -> Prop
  | mk (k w : Str) (m : Nat) (np cp cpos : Pos) (h1 : cx.isGlob k = true) (h2 : (cx.excs.lookup k).isSome = true) : ExcIs cx (.Call (.Name k np) [.Constant (.str w) m cp] [] cpos) (.raise k)
theorem exc_is {e : Expr} {x : S} (h : compExc cx e = some x) : ExcIs cx e x := by
  rcases e with _ | _
  case Call f as ks cpos =>
    rcases f with _ | _
    case Name k np =>
      rcases as with _ | ⟨a, r⟩
      case nil => exact none_ne h
      case cons =>
        rcases r with _ | ⟨_, _⟩
        case cons => exact none_ne h
        case nil =>
          rcases a with _ | _
          case Constant v m cp =>
            rcases v with _ | _
            case str w =>
              replace h : (if (ks.isEmpty && cx.isGlob k && (cx.excs.lookup k).isSome) = true then some (S.raise k) else none) = some x := h
              refine xA (iteN h) fun hc g => ?_
              clear h; rename _ = some _ => h
              . rw [Bool.and_eq_true, Bool.and_eq_true, List.isEmpty_iff] at hc
                rcases hc.1.1 with rfl
                cases h
                exact .mk k w m np cp cpos hc.1.2 hc.2
            all_goals exact none_ne h
          all_goals exact none_ne h
    all_goals exact none_ne h
  all_goals exact none_ne h
theorem hs_of {k : Nat} (H : ∀ st x, compS k cx st = some x -> SimSt P cx st x) : ∀ (hs : List ExceptHandler) (xs : Hs), compHs (compS k cx) cx hs = some xs -> HSim P cx hs xs
  | [], xs, h => by cases h; exact .nil
  | .ExceptHandler t nm b p :: r, xs, h => by
    rcases t with _ | t
    case none => exact none_ne h
    case some =>
      rcases t with _ | _
      case Name j np =>
        replace h : (if (cx.isGlob j && nm.isNone && !b.isEmpty && (cx.excs.any fun p => p.2.contains j)) = true then (do return .cons (taken cx.excs j) (<- compSs (compS k cx) b) (<- compHs (compS k cx) cx r)) else none) = some xs := h
        refine xA (iteN h) fun hc g => ?_
        clear h; rename _ = some _ => h
        . rw [Bool.and_eq_true, Bool.and_eq_true, Bool.and_eq_true, Option.isNone_iff_eq_none] at hc
          refine xA hc fun qq1 h4 => ?_; try clear hc; obtain ⟨⟨h1, h2⟩, h3⟩ := qq1
          subst h2
          refine xEA (opt_bind h) fun xb hb h => ?_
          refine xEA (opt_bind h) fun xr hr h => ?_
          rcases opt_pure h with rfl
          rcases b with _ | ⟨b₀, bs⟩
          case nil => exact absurd h3 Bool.false_ne_true
          case cons => exact .cons h1 h4 (simSs_of H _ _ hb) (hs_of H r xr hr)
      all_goals exact none_ne h
theorem for_of {k : Nat} {t it : Expr} {b : List Stmt} {p : Pos} {x : S} (h : stepS (compS k cx) cx (.For t it b [] p) = some x) (IH : ∀ st x, compS k cx st = some x -> SimSt P cx st x) : SimSt P cx (.For t it b [] p) x := by
  have one : (do return .forr (<- tgtOf cx t) (<- compE deep cx it) (<- compSs (compS k cx) b)) = some x -> SimSt P cx (.For t it b [] p) x := fun h => by
    refine xEA (opt_bind h) fun i hy h => ?_
    refine xEA (opt_bind h) fun xi hxi h => ?_
    refine xEA (opt_bind h) fun xb hb h => ?_
    rcases opt_pure h with rfl
    refine xEEA (tgt_is hy) fun y p qq1 hi => ?_; subst qq1
    exact simFor (tgt_name hi) hxi (simE_of _ _ xi hxi) (simSs_of IH _ xb hb) fun _ _ _ => rfl
  rcases t with _ | _
  case Tuple ts x1 q =>
    replace h : (do return S.fort (<- tgtsOf cx ts) (<- compE deep cx it) (<- compSs (compS k cx) b)) = some x := h
    refine xEA (opt_bind h) fun is his h => ?_
    refine xEA (opt_bind h) fun xi hxi h => ?_
    refine xEA (opt_bind h) fun xb hb h => ?_
    rcases opt_pure h with rfl
    exact simFor (tgt_tuple his) hxi (simE_of _ _ xi hxi) (simSs_of IH _ xb hb) fun _ _ _ => rfl
  all_goals exact one h
theorem step_of {k : Nat} (IH : ∀ st x, compS k cx st = some x -> SimSt P cx st x) (st : Stmt) (x : S) (h : stepS (compS k cx) cx st = some x) : SimSt P cx st x := by
    rcases st with _ | _
    case Expr e p =>
      replace h : (if isComp e = true then none else (do return .expr (<- compE deep cx e))) = some x := h
      refine iteS h (fun _ h => none_ne h) fun hc h => ?_
      . refine xEA (opt_bind h) fun y hy h => ?_
        rcases opt_pure h with rfl
        exact simSt_expr (Bool.not_eq_true _ ▸ hc) (simE_of _ _ y hy)
    case Return v p =>
      rcases v with _ | v
      case none => exact none_ne h
      case some =>
        refine xEA (opt_bind h) fun y hy h => ?_
        rcases opt_pure h with rfl
        exact simSt_ret (simE_of _ _ y hy)
    case Assign => exact simSt_asgE h
    case If =>
      refine xEA (opt_bind h) fun xt ht h => ?_
      refine xEA (opt_bind h) fun xa ha h => ?_
      refine xEA (opt_bind h) fun xb hb h => ?_
      rcases opt_pure h with rfl
      exact simSt_if (simT_of _ _ xt ht) (simSs_of IH _ xa ha) (simSs_of IH _ xb hb)
    case While t b o p =>
      rcases o with _ | ⟨_, _⟩
      case cons => exact none_ne h
      case nil =>
        refine xEA (opt_bind h) fun xt ht h => ?_
        refine xEA (opt_bind h) fun xb hb h => ?_
        rcases opt_pure h with rfl
        exact simSt_while (simT_of _ _ xt ht) (simSs_of IH _ xb hb)
    case For t it b o p =>
      rcases o with _ | ⟨_, _⟩
      case cons => exact none_ne h
      case nil => exact for_of h IH
    case Raise e cause p =>
      rcases cause with _ | _
      case some => exact none_ne h
      case none =>
        obtain ⟨e, rfl, h⟩ := Option.bind_eq_some_iff.mp (show e.bind (compExc cx) = some x from h)
        cases exc_is h with
        | mk k w m np cp cpos h1 h2 => exact simSt_raise h1 h2
    case Try b hs o f p =>
      replace h : (if (o.isEmpty && f.isEmpty && !hs.isEmpty) = true then (do return .tryx (<- compSs (compS k cx) b) (<- compHs (compS k cx) cx hs)) else none) = some x := h
      refine xA (iteN h) fun hc g => ?_
      clear h; rename _ = some _ => h
      . rw [Bool.and_eq_true, Bool.and_eq_true, List.isEmpty_iff, List.isEmpty_iff] at hc
        refine xA hc fun qq1 h3 => ?_; try clear hc; obtain ⟨rfl, rfl⟩ := qq1
        refine xEA (opt_bind h) fun xb hb h => ?_
        refine xEA (opt_bind h) fun xs hx h => ?_
        rcases opt_pure h with rfl
        rcases hs with _ | ⟨h₀, hs⟩
        case nil => exact absurd h3 Bool.false_ne_true
        case cons => exact simSt_try (simSs_of IH _ xb hb) (hs_of IH _ xs hx)
    case Continue => cases h; exact simSt_cont
    all_goals exact none_ne h
theorem simSt_of : ∀ (k : Nat) (st : Stmt) (x : S), compS k cx st = some x -> SimSt P cx st x
  | 0, st, x, h => none_ne h
  | k + 1, st, x, h => by
    have h : (match stepS (compS k cx) cx st with | some x => some x | none => some .bad) = some x := h
    rcases hq : stepS (compS k cx) cx st with _ | y
    case none => rw [hq] at h; cases h; exact simSt_bad
    case some => rw [hq] at h; cases h; exact step_of (fun st x => simSt_of k st x) st _ hq
structure FnAt (P : Par) (prog : Prog) (sh : Sh) (f : Str) : Prop where
  get : ∃ a o q params body scope pm cd doc d, P.fn f = some (.ref a) /\ P.B.h₀.get? a = some o /\ (P.meths.contains f = true -> o.cls = .type "function") /\ o.data = .func (methDef f q params body scope pm cd doc) /\ P.B.h₀.CodeRec cd q /\
    prog.lookup f = some d /\ compDef sh params body scope = some d
structure ShOk (P : Par) (sh : Sh) : Prop where
  meths : sh.meths = P.meths
  attrs : sh.attrs = P.B.attrs
  cls : P.mg sh.cls = some (.ref P.B.C)
  init : sh.funs.contains "__init__" = true
  exc : ExcsR P sh.excs
  g : ∀ x k, sh.consts.lookup x = some k -> ∃ v, P.mg x = some v /\ ConstR k v
theorem compDef_is {sh : Sh} {params : Arguments} {body : List Stmt} {scope : Scope} {d : FDef} (h : compDef sh params body scope = some d) : defOk params scope = true /\ ∃ xb,
    compSs (compS deep (defCx sh (params.args.map (·.arg)) scope)) body = some xb /\
      d = ⟨(params.args.map (·.arg)).length, (slotNames (params.args.map (·.arg)) scope).length, xb⟩ := by
  rcases hok : defOk params scope with _ | _
  case false => unfold compDef at h; rw [hok] at h; cases h
  case true =>
    unfold compDef at h
    rw [hok] at h
    refine xEA (opt_bind h) fun xb hxb h => ?_
    rcases opt_pure h with rfl
    exact ⟨rfl, xb, hxb, rfl⟩
theorem not_true {b : Bool} (h : (!b) = true) : b = false := by rcases b with _ | _; rfl; cases h
structure DefOk (params : Arguments) (scope : Scope) : Prop where
  po : params.posonlyargs = []
  ko : params.kwonlyargs = []
  va : params.vararg = none
  kw : params.kwarg = none
  kind : scope.kind = .function
  gen : scope.isGenerator = false
  co : scope.isCoroutine = false
  np : (params.args.map (·.arg)).Nodup
  par : ∀ x ∈ params.args.map (·.arg), scope.names.lookup x = some .local \/ scope.names.lookup x = some .cell
theorem defOk_is {params : Arguments} {scope : Scope} (h : defOk params scope = true) : DefOk params scope := by
  unfold defOk at h
  rw [Bool.and_eq_true, Bool.and_eq_true, Bool.and_eq_true, Bool.and_eq_true, Bool.and_eq_true, Bool.and_eq_true, Bool.and_eq_true, Bool.and_eq_true, Bool.and_eq_true, Bool.and_eq_true, decide_eq_true_eq] at h
  refine xA h fun qq1 h9 => ?_; try clear h; obtain ⟨⟨⟨⟨⟨⟨⟨⟨⟨h1, h2⟩, h3⟩, h4⟩, h5⟩, h6⟩, h7⟩, h8⟩, _⟩, _⟩ := qq1
  refine ⟨List.isEmpty_iff.mp h1, List.isEmpty_iff.mp h2, Option.isNone_iff_eq_none.mp h3, Option.isNone_iff_eq_none.mp h4, eq_of_beq h5, not_true h6, not_true h7, h8, fun x hx => ?_⟩
  have := List.all_eq_true.mp h9 x hx
  rw [Bool.or_eq_true] at this
  exact this.imp eq_of_beq eq_of_beq
theorem runDef_is {c : Ctx} {d : FDef} {as : List AV} {h : AHeap} (hb : runDef c d as h ≠ .bad) : as.length = d.params /\ runDef c d as h = retR (execSs c d.body (as.map some ++ List.replicate (d.slots - d.params) none) h) := by
  by_cases hl : as.length = d.params
  . exact ⟨hl, if_pos hl⟩
  . exact absurd (if_neg hl) hb
theorem arnd_in {n : Nat} {z : Bool} {A : Around} {f q : Str} {params : Arguments} {body : List Stmt} {scope : Scope} {pm cd doc : Value} {k : Nat} {a : Addr} (ar : ArndC (n + 1) z A) (hgen : scope.isGenerator = false) (hco : scope.isCoroutine = false) :
    Arnd n z (A.deeper (callEnvC (methDef f q params body scope pm cd doc) k a)) := by
  refine xE ar.frames fun outer hfr => ?_
  exact ⟨⟨⟨_, Around.frames_deeper hfr⟩, by have := ar.depth; show A.depth + 1 + 2 * n + 150 < _; lia, by have := ar.units; show A.units + 3 + 100 * n + 100 < _; lia, ar.handled⟩, by have := ar.depth; show A.depth + 1 + 2 * n + 151 < _; lia, by have := ar.units; show A.units + 3 + 100 * n + 150 < _; lia, ⟨_, outer, Around.frames_deeper hfr, hgen, hco, rfl, rfl⟩⟩
theorem frs_deeper {σ : Sg} {s : Shared} {A : Around} {env : Env} {l : Locs} {outer : List Env} (hfr : A.frames = some outer) (F : Frs P s.heap σ A) (f : Frm P s.heap σ env cx l) (ho : env.frame = some env.locals) : Frs P s.heap σ (A.deeper env) := fun l hl g hg => by
  rw [Around.frames_deeper hfr] at hl
  cases hl
  rcases List.mem_cons.mp hg with rfl | hg
  . refine xEEEA f.nsObj fun o es ep h1 h2 => ?_
    exact ⟨(by rw [f.kind]; exact fun e => nomatch e), _, o, es, ep, ho, f.new.1, h1, h2, f.out.1⟩
  . exact F outer hfr g hg
theorem frame_new {s : Shared} {fd : FuncData} {a : Addr} (habove : ∀ y c, (y, c) ∈ (callEnvC fd s.heap.objs.size a).cells -> s.heap.objs.size < c) : ∀ b ∈ FX (callEnvC fd s.heap.objs.size a), b ∈ ([] : List Addr) \/ s.heap.get? b = none := fun b hb => .inr <| by
  have hge : s.heap.objs.size <= b := by
    rcases List.mem_cons.mp hb with rfl | hb
    . exact Nat.le_refl _
    . refine xEA (List.mem_map.mp hb) fun p hp qq1 => ?_; subst qq1
      exact Nat.le_of_lt (habove p.1 p.2 hp)
  exact Heap.get?_none_of_le hge
theorem run_body {prog : Prog} {sh : Sh} {n : Nat} {z : Bool} (ok : P.Ok) (so : ShOk P sh) (ih : FSim P sh.funs (semF prog n z) n z) (iq : FSim P sh.funs (semF prog n true) n true) {f q : Str} {params : Arguments} {body : List Stmt} {scope : Scope} {pm cd doc : Value} {d : FDef} {a : Addr} {o : Obj} (hd : compDef sh params body scope = some d)
    (h2 : P.B.h₀.get? a = some o) (h3 : o.data = .func (methDef f q params body scope pm cd doc)) (h4 : P.B.h₀.CodeRec cd q) {avs : List AV} {vs : List Value} {σ : Sg} {hp : AHeap} {s : Shared} {A : Around} (S : St P.w P.B σ hp s.heap) (rv : RVs P.B s.heap σ avs vs) (ar : ArndC (n + 1) z A) (F : Frs P s.heap σ A)
    (hb : runDef ⟨semF prog n z, semF prog n true, z, fuelOf⟩ d avs hp ≠ .bad) : wpAny (model P.prog P.w) A (call (.ref a) vs) (QV P σ s (runDef ⟨semF prog n z, semF prog n true, z, fuelOf⟩ d avs hp)) (QE P σ s (runDef ⟨semF prog n z, semF prog n true, z, fuelOf⟩ d avs hp)) s := by
  refine xAEA (compDef_is hd) fun hok xb hxb qq1 => ?_; subst qq1
  have D := defOk_is hok
  refine xA (runDef_is hb) fun hlen er => ?_
  rw [er] at hb |-
  have hlv := rv.length
  refine xE ar.frames fun outer hfr => ?_
  refine wpAny_call (codeAny_call_cells (fd := methDef f q params body scope pm cd doc) (body := body) (binds := (params.args.map (·.arg)).zip vs) (by have := ar.depth; lia) (S.base a o h2) h3 (ok.noLimit S) (h4.keeps S.base) rfl
    (bind_plain D.po D.ko D.va D.kw D.np (hlen.symm.trans hlv)) rfl (fun x hx => ?_) (fun s₁ x => ?_) D.co D.gen D.kind)
  . have hmem : x.1 ∈ params.args.map (·.arg) := (List.of_mem_zip (a := x.1) (b := x.2) hx).1
    exact (D.par _ hmem).imp id fun e => ⟨e, cells_has _ _ _ _ (.inl e)⟩
  . have fr := frm_call (sh := sh) (scope := scope) S rv rfl hok hlen rfl rfl x
    have habove := x.above
    refine xEEA x.done fun h' tk qq1 hkeep => ?_; subst qq1
    have a₁ : After P σ σ [] hp s { s with heap := h', toks := tk } := ⟨rfl, S.keep hkeep, grows_keep hkeep⟩
    have F₁ := frs_deeper (s := { s with heap := h', toks := tk }) hfr (F.after a₁.gr) fr rfl
    have I : InvS P (defCx sh (params.args.map (·.arg)) scope) n z (callEnvC (methDef f q params body scope pm cd doc) s.heap.objs.size a) (A.deeper (callEnvC (methDef f q params body scope pm cd doc) s.heap.objs.size a)) σ _ hp { s with heap := h', toks := tk } :=
      ⟨⟨a₁.st, fr, arnd_in ar D.gen D.co, F₁⟩, ⟨outer, Around.frames_deeper hfr⟩, rfl⟩
    refine wpAny_mono (simSs_of (simSt_of deep) body xb hxb ⟨semF prog n z, semF prog n true, z, fuelOf⟩ n _ _ σ _ hp _ ⟨ok, ih, iq, so.meths, so.attrs, so.cls, so.init, so.exc, so.g⟩ I (fun e => hb (by rw [e]; rfl))) (fun fl s' Q => ?_) (fun v s' Q => ?_)
    . obtain ⟨fl', l', hp', σ', e, a₂, rf, _⟩ := Q
      rw [e] at hb |-
      have a₃ := a₁.toX.trans a₂
      have a₄ : After P σ σ' [] hp' s s' := ⟨a₃.ctl, a₃.st, a₃.gr.drop (frame_new habove)⟩
      rcases fl' with _ | av | _
      case next => rcases (show fl = .next from rf) with rfl; exact ⟨_, _, _, rfl, a₄, rfl⟩
      case ret => refine xEA rf fun v qq1 rv' => ?_; try clear rf; subst qq1; exact ⟨_, _, _, rfl, a₄, rv'⟩
      case cont => exact absurd rfl hb
    . obtain ⟨k, l₂, hp₂, σ₂, e, er2, rfl, b, fl, fr₂⟩ := Q
      rw [er2]
      have F₂ := I.fs.afterX b.gr I.fr fr₂
      have a₃ := a₁.toX.trans b
      refine xA (alive a₃) fun al1 al2 => ?_
      refine wpAny_bind (leave_fly (Around.frames_deeper hfr) F₂ rfl al1 al2 (fl.lift a₁.gr) fun h'' Dd t ft => ?_)
      have a₄ := a₃.touch S.base t fun b hb => F₂.place (Around.frames_deeper hfr) hb
      exact ⟨k, hp₂, σ₂, e, rfl, rfl, ⟨a₄.ctl, a₄.st, a₄.gr.drop (frame_new habove)⟩, ft.fly⟩
theorem semF_sim {prog : Prog} {sh : Sh} (ok : P.Ok) (so : ShOk P sh) (hf : ∀ f, sh.funs.contains f = true -> FnAt P prog sh f) : ∀ n z, FSim P sh.funs (semF prog n z) n z
  | 0, z, f, hc => by
    refine xEEEEEEEEEEAA ((hf f hc).get) fun a o q params body scope pm cd doc d h1 h2 qq1 => ?_; refine xAAAA qq1 fun hc h3 h4 h5 h6 => ?_
    exact ⟨a, o, _, h1, h2, hc, h3, fun avs vs σ hp s A S rv ar F hb => absurd rfl hb⟩
  | n + 1, z, f, hc => by
    refine xEEEEEEEEEEAA ((hf f hc).get) fun a o q params body scope pm cd doc d h1 h2 qq1 => ?_; refine xAAAA qq1 fun hc h3 h4 h5 h6 => ?_
    refine ⟨a, o, _, h1, h2, hc, h3, fun avs vs σ hp s A S rv ar F hb => ?_⟩
    rw [semF_at h5] at hb |-
    exact run_body ok so (semF_sim ok so hf n z) (semF_sim ok so hf n true) h6 h2 h3 h4 S rv ar F hb
end
end
section
open PySem PySem.Spec PySem.W PyProof.Rows PySem.SeqAt
noncomputable def theCls (p : Program) (sh : Sh) : Option ClsRec := (plainsOf p []).find? fun c => c.name == sh.cls
structure Src where
  params : Arguments
  body : List Stmt
  scope : Scope
noncomputable def srcOf (p : Program) (sh : Sh) (f : Str) : Option Src :=
  if sh.meths.contains f then (theCls p sh).bind fun c => (c.meths.find? fun m => m.name == f).map fun m => ⟨m.params, m.body, m.scope⟩
  else ((recsOf p).find? fun d => d.name == f).map fun d => ⟨d.params, d.body, d.scope⟩
noncomputable def compFuns (p : Program) (sh : Sh) : List Str -> Option Prog
  | [] => some []
  | f :: r => ((srcOf p sh f).bind fun x => compDef sh x.params x.body x.scope).bind fun x => (compFuns p sh r).bind fun xs => some ((f, x) :: xs)
theorem compFuns_at {p : Program} {sh : Sh} : ∀ {fs : List Str} {ds : Prog}, compFuns p sh fs = some ds -> ∀ f ∈ fs, ∃ s x, srcOf p sh f = some s /\ compDef sh s.params s.body s.scope = some x /\ ds.lookup f = some x
  | [], _, _, _, h => nomatch h
  | g :: r, ds, h, f, hf => by
    refine xEA (Option.bind_eq_some_iff.mp h) fun x hx h => ?_
    refine xEA (Option.bind_eq_some_iff.mp h) fun xs hxs h => ?_
    rcases Option.some.inj h with rfl
    next =>
      rw [List.lookup_cons]
      by_cases e : f = g
      . subst e
        refine xEA (Option.bind_eq_some_iff.mp hx) fun s h1 h2 => ?_
        exact ⟨s, x, h1, h2, by rw [beq_self_eq_true]⟩
      . have hf' : f ∈ r := (List.mem_cons.mp hf).resolve_left e
        refine xEEAA (compFuns_at hxs f hf') fun s x' h1 h3 h4 => ?_
        have : (f == g) = false := beq_eq_false_iff_ne.mpr e
        exact ⟨s, x', h1, h3, by rw [this]; exact h4⟩
theorem bootB : ∀ x v, (x, v) ∈ bltPairs -> bootBuiltins x = some v /\ x ≠ "__name__" := by
  intro x v h
  simp only [bltPairs, List.mem_cons, Prod.mk.injEq, List.not_mem_nil, or_false] at h
  rcases h with ⟨rfl, rfl⟩ | ⟨rfl, rfl⟩ | ⟨rfl, rfl⟩ | ⟨rfl, rfl⟩ | ⟨rfl, rfl⟩ | ⟨rfl, rfl⟩ | ⟨rfl, rfl⟩ | ⟨rfl, rfl⟩ | ⟨rfl, rfl⟩ | ⟨rfl, rfl⟩ | ⟨rfl, rfl⟩ <;> exact ⟨by rfl, by decide⟩
noncomputable def freeOk (p : Program) (loose : List Str) : Bool := bltPairs.all fun x => !startupNames.contains x.1 && !loose.contains x.1 && !((recsOf p).map (·.name)).contains x.1 && !((litsOf p).map (·.1)).contains x.1 && !((clssOf p loose).map (·.name)).contains x.1
noncomputable def constD : Const -> Option PyData
  | .int i => some (.int i)
  | .str x => some (.str x)
  | _ => none
noncomputable def shOk (p : Program) (sh : Sh) (c : ClsRec) : Bool :=
  sh.attrs.all (fun a => c.statics.contains a) && sh.meths.contains "__init__" && sh.funs.contains "__init__" && decide (sh.attrs.length <= 1000)
noncomputable def constsOk (p : Program) (sh : Sh) : Prop := ∀ x k, (x, k) ∈ sh.consts -> ∃ d, constD k = some d /\ valOf p x = some d
noncomputable def excsOk (p : Program) (sh : Sh) (all : List Str) : Bool :=
  (sh.excs.all fun q => specOf p q.1 == some ("ValueError.__new__", excBm)) && (all.all fun j => specOf p j == some ("ValueError.__new__", excBm)) && sh.excs.all fun q => q.2.all fun j => all.contains j
section
variable {prog view : Program} {mean : ExcName -> Option Value} {w : World} {mg mb : Str -> Option Value} {h : Heap} {sh : Sh}
theorem ok_of_top (T : Top view [] mean mg mb h) (hi : importsNone view = true) (ht : prog.given.tree = none) (hf : freeOk view [] = true) {c : ClsRec} {C N : Addr} {mN : Str -> Option Value} (pa : PlainAt h c C N mN) (hs : shOk view sh c = true)
    (ha : ∀ a ∈ sh.attrs, typeLookup (.type "object") a = pure none) (hm : ∀ m ∈ sh.meths, ∃ y, typeLookup (.type "object") m = pure y) : Par.Ok ⟨prog, w, ⟨h, C, sh.attrs⟩, mg, mb, N, mN, sh.meths⟩ := by
  simp only [shOk, Bool.and_eq_true, decide_eq_true_eq] at hs
  refine xA hs fun qq1 hs4 => ?_; try clear hs; obtain ⟨⟨hs1, hs2⟩, hs3⟩ := qq1
  refine ⟨fun x v hm => ?_, T.g, T.b, T.nolimit, T.seer hi, ht, ?_, pa.cls, pa.quiet _ (List.mem_append_left _ (.head _)), pa.quiet _ (List.mem_append_left _ (.tail _ (.head _))), pa.quiet _ (List.mem_append_left _ (.tail _ (.tail _ (.head _)))), fun a q => ?_, fun m q => hm m (List.contains_iff_mem.mp q), Nat.le_trans hs4 (by decide), hs2⟩
  . refine xA (bootB x v hm) fun h1 h2 => ?_
    have := List.all_eq_true.mp hf _ hm
    simp only [Bool.and_eq_true, Bool.not_eq_true', List.contains_eq_mem, decide_eq_false_iff_not] at this
    refine xA this fun qq1 e => ?_; try clear this; obtain ⟨⟨⟨a, b⟩, c⟩, d⟩ := qq1
    exact ⟨T.free x a b c d e, (T.builtins x h2).trans h1⟩
  . refine xEA ((T.seer hi).mods) fun mm qq1 _ => ?_; refine xEEEA qq1 fun o _ _ ho _ => ?_
    exact ⟨o, ho⟩
  . have hmem := List.contains_iff_mem.mp q
    exact ⟨pa.quiet _ (List.mem_append_right _ (List.contains_iff_mem.mp (List.all_eq_true.mp hs1 a hmem))), ha a hmem⟩
theorem fns_of_top (T : Top view [] mean mg mb h) {pr : Prog} (hc : compFuns view sh sh.funs = some pr) {c : ClsRec} (hcls : theCls view sh = some c) {C N : Addr} {mN : Str -> Option Value} (pa : PlainAt h c C N mN) (f : Str) (hf : sh.funs.contains f = true) :
    FnAt ⟨prog, w, ⟨h, C, sh.attrs⟩, mg, mb, N, mN, sh.meths⟩ pr sh f := by
  refine xEEAA (compFuns_at hc f (List.contains_iff_mem.mp hf)) fun s x h1 h2 h3 => ?_
  unfold srcOf at h1
  rcases hm : sh.meths.contains f with _ | _
  case true =>
    rw [hm, if_pos rfl, hcls] at h1
    refine xEA (Option.map_eq_some_iff.mp h1) fun m hfm qq1 => ?_; subst qq1
    have hn : m.name = f := eq_of_beq (List.find?_some (p := fun m : MethRec => m.name == f) hfm)
    refine xEEEEEAAAA (pa.meths m (List.mem_of_find?_eq_some hfm)) fun g o pm cd doc e1 e2 e3 e4 e5 => ?_
    subst hn
    exact ⟨⟨g, o, _, _, _, _, pm, cd, doc, x, (show (if sh.meths.contains m.name = true then mN m.name else mg m.name) = _ by rw [if_pos hm]; exact e1), e2, fun _ => e3, e4, e5, h3, h2⟩⟩
  case false =>
    rw [hm, if_neg Bool.false_ne_true] at h1
    refine xEA (Option.map_eq_some_iff.mp h1) fun d hfd qq1 => ?_; subst qq1
    have hn : d.name = f := eq_of_beq (List.find?_some (p := fun d : DefRec => d.name == f) hfd)
    refine xEEEEEAAA (T.fn d (List.mem_of_find?_eq_some hfd)) fun a o pm code doc e1 e2 e3 e4 => ?_
    subst hn
    exact ⟨⟨a, o, _, _, _, _, pm, code, doc, x, (show (if sh.meths.contains d.name = true then mN d.name else mg d.name) = _ by rw [if_neg (by rw [hm]; exact Bool.false_ne_true)]; exact e1), e2, fun q => absurd (hm.symm.trans q) Bool.false_ne_true, e3, e4, h3, h2⟩⟩
theorem lookup_in {α : Type} : ∀ {l : List (Str × α)} {n : Str} {c : α}, l.lookup n = some c -> (n, c) ∈ l := PySem.mem_of_lookup
theorem const_of {k : Const} {d : PyData} {v : Value} (hk : constD k = some d) (r : Reads h v d []) : ConstR k v := by
  rcases k with _ | _
  case int i => cases hk; cases r; exact ⟨_, rfl⟩
  case str x => cases hk; cases r; exact ⟨_, rfl⟩
  all_goals exact none_ne hk
theorem excs_of (T : Top view [] mean mg mb h) {all : List Str} (hs : excsOk view sh all = true) (he : ExcSaid sh.excs all mg h) {C N : Addr} {mN : Str -> Option Value} : ExcsR ⟨prog, w, ⟨h, C, sh.attrs⟩, mg, mb, N, mN, sh.meths⟩ sh.excs := by
  unfold excsOk at hs
  rw [Bool.and_eq_true, Bool.and_eq_true] at hs
  refine xA hs fun qq1 h3 => ?_; try clear hs; refine xA qq1 fun h1 h2 => ?_
  have known : ∀ j, (sh.excs.any fun p => p.2.contains j) = true -> j ∈ all := fun j hj => by
    refine xEA (List.any_eq_true.mp hj) fun p hp hc => ?_
    exact List.contains_iff_mem.mp (List.all_eq_true.mp (List.all_eq_true.mp h3 p hp) j (List.contains_iff_mem.mp hc))
  refine ⟨fun k ks hk => ?_, fun j hj => ?_, fun k ks j C' D o cd hk hj e1 e2 e3 e4 => ?_⟩
  . refine xEA (T.ownAt (eq_of_beq (List.all_eq_true.mp h1 _ (lookup_in hk)))) fun K O _ => ?_
    exact ⟨K, O⟩
  . refine xEA (T.ownAt (eq_of_beq (List.all_eq_true.mp h2 _ (known j hj)))) fun K O _ => ?_
    exact ⟨K, O⟩
  . refine xEEEEAAAA (he (k, ks) (lookup_in hk) j (known j hj)) fun C₁ D₁ o₁ cd₁ f1 f2 f3 f4 f5 => ?_
    have e1 : mg k = some (.ref C') := e1
    have e2 : mg j = some (.ref D) := e2
    have f1 : mg k = some (.ref C₁) := f1
    rw [f1] at e1; rw [f2] at e2
    cases e1; cases e2
    have e3 : h.get? C' = some o := e3
    rw [f3] at e3; cases e3
    rw [f4] at e4; cases e4
    exact f5
theorem law_call (T : Top view [] mean mg mb h) (TE : TopE view [] mg h) {s₁ : Shared} (hs : s₁.heap = h) (hi : importsNone view = true) (ht : prog.given.tree = none) (hf : freeOk view [] = true) {c : ClsRec} (hcls : theCls view sh = some c) (hsh : shOk view sh c = true)
    (ha : ∀ a ∈ sh.attrs, typeLookup (.type "object") a = pure none) (hm : ∀ m ∈ sh.meths, ∃ y, typeLookup (.type "object") m = pure y) (hk : constsOk view sh) {all : List Str} (hxs : excsOk view sh all = true) (hxe : ExcSaid sh.excs all mg h) {pr : Prog} (hc : compFuns view sh sh.funs = some pr)
    (hl : sh.funs.contains "law" = true) (hlm : sh.meths.contains "law" = false) {fa : Addr} (hfa : mg "law" = some (.ref fa)) {a : Addr} {vs : List Value} {xs : List Int} (hL : h.IsList a vs.toArray) (hI : IntsAre vs xs) {hp : AHeap}
    (hrun : semF pr 16 false "law" [.scr xs] [] = .ok (.bool true) hp) {Q : Value -> Shared -> Prop} {E : Value -> Shared -> Prop}
    (k : ∀ s', (∀ b o, s₁.heap.get? b = some o -> s'.heap.get? b = some o) -> s'.os = s₁.os -> s'.gens = s₁.gens -> Q (.bool true) s') :
    wpAny (model prog w) callerA (call (.ref fa) [.ref a]) Q E s₁ := by
  subst hs
  refine xEEEA (TE.topC c (List.mem_of_find?_eq_some hcls)) fun C N mN hC pa' => ?_
  have hcn : c.name = sh.cls := eq_of_beq (List.find?_some (p := fun c : ClsRec => c.name == sh.cls) hcls)
  let P : Par := ⟨prog, w, ⟨s₁.heap, C, sh.attrs⟩, mg, mb, N, mN, sh.meths⟩
  have ok : P.Ok := ok_of_top T hi ht hf pa' hsh ha hm
  have so : ShOk P sh := ⟨rfl, rfl, hcn ▸ hC, (by simp only [shOk, Bool.and_eq_true] at hsh; exact hsh.1.2), excs_of T hxs hxe, fun x kk hx => by
    refine xEA (hk x kk (lookup_in hx)) fun d h1 h2 => ?_
    refine xEA (T.const x d h2) fun v h3 h4 => ?_
    exact ⟨v, h3, const_of h1 (h4 s₁.heap)⟩⟩
  refine xEEEAAAA (semF_sim (P := P) ok so (fns_of_top (prog := prog) (w := w) T hc hcls pa') 16 false "law" hl) fun fa' o fd e1 e2 _ e3 hcall => ?_
  have : fa' = fa := by
    have e1' : (if sh.meths.contains "law" = true then mN "law" else mg "law") = some (.ref fa') := e1
    rw [hlm, if_neg Bool.false_ne_true, hfa] at e1'; cases e1'; rfl
  subst this
  have S : St P.w P.B [] [] s₁.heap := ⟨rfl, by simp, (fun n a off o e => by simp at e), (fun b o e => e), (fun p hp => nomatch hp)⟩
  have rv : RVs P.B s₁.heap [] [.scr xs] [.ref a] := ⟨⟨a, _, rfl, hL, ris_of hI⟩, trivial⟩
  refine wpAny_mono (hcall [.scr xs] [.ref a] [] [] s₁ callerA S rv ⟨⟨[], rfl⟩, by decide, by decide, fun _ => rfl⟩ (fun l hl f hf => by cases hl; exact nomatch hf) (by rw [hrun]; exact fun e => nomatch e)) (fun v s' q => ?_) (fun _ _ q => by obtain ⟨_, _, _, _, er, _⟩ := q; rw [hrun] at er; cases er)
  obtain ⟨av, hp', σ', er, af, r⟩ := q
  rw [hrun] at er
  cases er
  rcases (show v = .bool true from r) with rfl
  exact k s' af.st.base (by rw [af.ctl]) (by rw [af.ctl])
end
end
section
open PySem
theorem lim_le {n : Nat} (h : n <= 3000) : n <= sizeLim := Nat.le_trans h (by decide)
theorem lim_lt {n : Nat} (h : n <= 3000) : n < sizeLim := Nat.lt_of_le_of_lt h (by decide)
section
variable {h : AHeap} {l : Locs} {c : Ctx}
theorem b_add {x y : Int} : binAV .add (.int x) (.int y) h = .ok (.int (x + y)) h := rfl
theorem b_sub {x y : Int} : binAV .sub (.int x) (.int y) h = .ok (.int (x - y)) h := rfl
theorem b_mulL {x y : Int} (hx : x.natAbs < 2 ^ 64) : binAV .mul (.int x) (.int y) h = .ok (.int (x * y)) h :=
  if_pos (show (decide (x.natAbs < 2 ^ 64) || decide (y.natAbs < 2 ^ 64)) = true by rw [decide_eq_true hx]; rfl)
theorem b_mulR {x y : Int} (hx : y.natAbs < 2 ^ 64) : binAV .mul (.int x) (.int y) h = .ok (.int (x * y)) h :=
  if_pos (show (decide (x.natAbs < 2 ^ 64) || decide (y.natAbs < 2 ^ 64)) = true by rw [decide_eq_true hx]; exact Bool.or_true _)
theorem b_div {x y : Int} (hy : y ≠ 0) : binAV .div (.int x) (.int y) h = .ok (.int (x.fdiv y)) h := if_neg hy
theorem b_mod {x y : Int} (hy : y ≠ 0) : binAV .mod (.int x) (.int y) h = .ok (.int (x.fmod y)) h := if_neg hy
theorem c_lt {x y : Int} : cmpAV h .lt (.int x) (.int y) = some (decide (x < y)) := rfl
theorem c_le {x y : Int} : cmpAV h .le (.int x) (.int y) = some (decide (x <= y)) := rfl
theorem c_gt {x y : Int} : cmpAV h .gt (.int x) (.int y) = some (decide (y < x)) := rfl
theorem c_ge {x y : Int} : cmpAV h .ge (.int x) (.int y) = some (decide (y <= x)) := rfl
theorem c_eqi {x y : Int} : cmpAV h .eq (.int x) (.int y) = some (decide (x = y)) := rfl
theorem c_nei {x y : Int} : cmpAV h .ne (.int x) (.int y) = some (!decide (x = y)) := rfl
theorem c_eqs {x y : List Nat} : cmpAV h .eq (.str x) (.str y) = some (decide (x = y)) := rfl
theorem len_scr {x : List Int} (hl : x.length <= sizeLim) : biAV .len [.scr x] h = .ok (.int x.length) h := if_pos hl
theorem len_list {n : Nat} {x : List AV} (hn : h[n]? = some (.list x)) : biAV .len [.loc n] h = .ok (.int x.length) h := by
  show lenAV (.loc n) h = _
  delta lenAV
  dsimp only
  rw [hn]
theorem len_tup {x : List AV} (hl : x.length <= sizeLim) : biAV .len [.tup x] h = .ok (.int x.length) h := if_pos hl
theorem idx_nat {γ : Type} {xs : List γ} {k : Int} (hk : 0 <= k) : idx? xs k = xs[k.toNat]? := by unfold idx?; rw [if_pos hk]
theorem idx_last {γ : Type} {xs : List γ} (hk : 0 < xs.length) : idx? xs (-1) = xs[xs.length - 1]? := by
  unfold idx?; rw [if_neg (by lia), if_pos (by lia)]
  congr 1; lia
theorem subI_at {x : List AV} {k : Int} {d : AV} (hl : x.length <= sizeLim) (hd : idx? x k = some d) : okO (subI x (some k)) h = .ok d h := by
  show okO (if x.length <= sizeLim then idx? x k else none) h = _
  rw [if_pos hl, hd]; rfl
theorem sub_scr {x : List Int} {k : Int} {d : Int} (hl : x.length <= sizeLim) (hk : 0 <= k) (hd : x[k.toNat]? = some d) : subAV (.scr x) (.int k) h = .ok (.int d) h :=
  subI_at (x := x.map .int) (by rw [List.length_map]; exact hl) (by rw [idx_nat hk, List.getElem?_map, hd]; rfl)
theorem sub_loc {n : Nat} {x : List AV} {i : AV} (hh : h[n]? = some (.list x)) : subAV (.loc n) i h = okO (subI x (intOf i)) h := by
  delta subAV
  dsimp only
  rw [hh]; rfl
theorem sub_list {n : Nat} {x : List AV} {k : Int} {d : AV} (hl : x.length <= sizeLim) (hh : h[n]? = some (.list x)) (hk : 0 <= k) (hd : x[k.toNat]? = some d) : subAV (.loc n) (.int k) h = .ok d h :=
  (sub_loc hh).trans (subI_at hl (by rw [idx_nat hk]; exact hd))
theorem sub_last {n : Nat} {x : List AV} {d : AV} (hl : x.length <= sizeLim) (hh : h[n]? = some (.list x)) (hd : x[x.length - 1]? = some d) : subAV (.loc n) (.int (-1)) h = .ok d h :=
  (sub_loc hh).trans (subI_at hl (by rw [idx_last (Nat.lt_of_le_of_lt (Nat.zero_le _) (List.getElem?_eq_some_iff.mp hd).1)]; exact hd))
theorem sub_t0 {x y : AV} : subAV (.tup [x, y]) (.int 0) h = .ok x h := rfl
theorem sub_t1 {x y : AV} : subAV (.tup [x, y]) (.int 1) h = .ok y h := rfl
theorem sub_dict {n : Nat} {x : List (Key × AV)} {ep : Nat} {kv : AV} {k : Key} {d : AV} (hh : h[n]? = some (.dict x ep)) (hk : kv.key? = some k) (hs : sortOk x k = true) (hd : x.lookup k = some d) : subAV (.loc n) kv h = .ok d h := by
  delta subAV
  dsimp only
  rw [hh]
  show okO (subD x kv.key?) h = _
  rw [hk]
  show okO (if sortOk x k = true then x.lookup k else none) h = _
  rw [if_pos hs, hd]; rfl
theorem isIn_dict {n : Nat} {x : List (Key × AV)} {ep : Nat} {kv : AV} {k : Key} (hh : h[n]? = some (.dict x ep)) (hk : kv.key? = some k) (hs : sortOk x k = true) : isIn h kv (.loc n) = some (x.lookup k).isSome := by
  delta isIn
  dsimp only
  rw [hh]
  show inDict x kv.key? = _
  rw [hk]
  exact if_pos hs
theorem in_dict' {n : Nat} {x : List (Key × AV)} {ep : Nat} {kv : AV} {k : Key} (hh : h[n]? = some (.dict x ep)) (hk : kv.key? = some k) (hs : sortOk x k = true) : cmpAV h .isin kv (.loc n) = some (x.lookup k).isSome := isIn_dict hh hk hs
theorem notin_dict' {n : Nat} {x : List (Key × AV)} {ep : Nat} {kv : AV} {k : Key} (hh : h[n]? = some (.dict x ep)) (hk : kv.key? = some k) (hs : sortOk x k = true) : cmpAV h .notin kv (.loc n) = some (!(x.lookup k).isSome) :=
  congrArg (Option.map not) (isIn_dict hh hk hs)
theorem set_dict {n : Nat} {x : List (Key × AV)} {ep : Nat} {kv v : AV} {k : Key} (hh : h[n]? = some (.dict x ep)) (hk : kv.key? = some k) (hs : sortOk x k = true) (hl : x.length < sizeLim) :
    ∃ ep', setItemAV (.loc n) kv v h = some (h.set n (.dict (dictPut x k v) ep')) :=
  ⟨if (x.lookup k).isSome then ep else ep + 1, by
    delta setItemAV
    dsimp only
    rw [hh]
    show setD h n x ep v kv.key? = _
    rw [hk]
    exact if_pos (by rw [hs, decide_eq_true hl]; rfl)⟩
theorem newList_ok {vs : List AV} (hl : vs.length <= sizeLim) : newList vs h = .ok (.loc h.length) (h ++ [.list vs]) := if_pos hl
theorem listAt_of {n : Nat} {x : List AV} (hh : h[n]? = some (.list x)) : listAt h n = some x := by delta listAt; rw [hh]
theorem dictAt_of {n : Nat} {x : List (Key × AV)} {ep : Nat} (hh : h[n]? = some (.dict x ep)) : dictAt h n = some (x, ep) := by delta dictAt; rw [hh]
theorem append_ok {n : Nat} {x : List AV} {v : AV} (hh : h[n]? = some (.list x)) (hl : x.length < sizeLim) : appendAV (.loc n) [v] h = .ok .none (h.set n (.list (x ++ [v]))) := by
  delta appendAV
  dsimp only
  rw [listAt_of hh]
  exact if_pos hl
theorem newListO_ok {o : Option (List AV)} {x : List AV} (ho : o = some x) (hl : x.length <= sizeLim) : newListO o h = .ok (.loc h.length) (h ++ [.list x]) := by
  rw [ho]; exact newList_ok hl
theorem list_ok {n : Nat} {x : List AV} (hh : walkOf h n = some x) (hl : x.length <= sizeLim) : biAV .list [.loc n] h = .ok (.loc h.length) (h ++ [.list x]) := newListO_ok hh hl
theorem walk_list {n : Nat} {x : List AV} (hh : h[n]? = some (.list x)) : walkOf h n = some x := by delta walkOf; rw [hh]
theorem walk_dict {n : Nat} {x : List (Key × AV)} {ep : Nat} (hh : h[n]? = some (.dict x ep)) : walkOf h n = some (x.map fun p => p.1.av) := by delta walkOf; rw [hh]
end
theorem eqAll_int {f : AV -> AV -> Option Bool} {κ : Type} [DecidableEq κ] {g : κ -> AV} (hf : ∀ a b, f (g a) (g b) = some (decide (a = b))) : ∀ xs ys : List κ, xs.length = ys.length -> eqAll f (xs.map g) (ys.map g) = some (decide (xs = ys))
  | [], [], _ => rfl
  | a :: xs, b :: ys, h => by
    have e : eqAll f ((a :: xs).map g) ((b :: ys).map g) = and2 (f (g a) (g b)) (eqAll f (xs.map g) (ys.map g)) := rfl
    rw [e, hf, eqAll_int hf xs ys (Nat.succ.inj h)]
    by_cases h1 : a = b
    . subst h1
      by_cases h2 : xs = ys
      . rw [decide_eq_true rfl, decide_eq_true h2, decide_eq_true (by rw [h2])]; rfl
      . rw [decide_eq_true rfl, decide_eq_false h2, decide_eq_false fun q => h2 (List.cons.inj q).2]; rfl
    . rw [decide_eq_false h1, decide_eq_false fun q => h1 (List.cons.inj q).1]; rfl
  | [], _ :: _, h => nomatch h
  | _ :: _, [], h => nomatch h
theorem eqv_pair {h : AHeap} {n : Nat} {a b c d : Int} : eqv h (n + 2) (.tup [.int a, .int b]) (.tup [.int c, .int d]) = some (decide (a = c) && decide (b = d)) := by
  show some (decide (a = c) && (decide (b = d) && true)) = _
  rw [Bool.and_true]
theorem eq_lists {h : AHeap} {n m : Nat} {κ : Type} [DecidableEq κ] {g : κ -> AV} {xs ys : List κ} (hn : h[n]? = some (.list (xs.map g))) (hm : h[m]? = some (.list (ys.map g))) (hf : ∀ a b, eqv h 5 (g a) (g b) = some (decide (a = b))) :
    eqv h eqFuel (.loc n) (.loc m) = some (decide (xs = ys)) := by
  have e : eqv h eqFuel (.loc n) (.loc m) = eqL (eqv h 5) (listAt h n) (listAt h m) := rfl
  rw [e, listAt_of hn, listAt_of hm]
  show (if (xs.map g).length = (ys.map g).length then eqAll (eqv h 5) (xs.map g) (ys.map g) else some false) = _
  rw [List.length_map, List.length_map]
  by_cases hl : xs.length = ys.length
  . rw [if_pos hl, eqAll_int hf _ _ hl]
  . rw [if_neg hl]
    have : xs ≠ ys := fun e => hl (by rw [e])
    rw [decide_eq_false this]
theorem ne_of_eqv {h : AHeap} {a b : AV} {r : Bool} (e : eqv h eqFuel a b = some r) : cmpAV h .ne a b = some (!r) := by
  show (eqv h eqFuel a b).map not = _
  rw [e]; rfl
theorem eq_of_list {h : AHeap} {n m : Nat} {x : List AV} {r : Bool} (hm : h[m]? = some (.list x)) (e : eqv h eqFuel (.loc n) (.loc m) = some r) : cmpAV h .eq (.loc n) (.loc m) = some r := e
theorem nx_ok {α : Type} {a : α} {h : AHeap} : (Res.ok a h).noExc = .ok a h := rfl
theorem nx_s {f : Flow} {l : Locs} {h : AHeap} : (SR.ok f l h).noExc = .ok f l h := rfl
theorem retR_exc {k : Str} {l : Locs} {h : AHeap} : retR (.exc k l h) = .exc k h := rfl
inductive Halt : SR -> Prop
  | ret (v : AV) (l : Locs) (h : AHeap) : Halt (.ok (.ret v) l h)
  | exc (k : Str) (l : Locs) (h : AHeap) : Halt (.exc k l h)
inductive Turn (I : Locs -> AHeap -> Prop) (R : SR -> Prop) : SR -> Prop
  | next (l : Locs) (h : AHeap) (i : I l h) : Turn I R (.ok .next l h)
  | cont (l : Locs) (h : AHeap) (i : I l h) : Turn I R (.ok .cont l h)
  | halt (r : SR) (q : Halt r) (x : R r) : Turn I R r
theorem forLoop_gen {put : Locs -> AV -> Option Locs} {body : Locs -> AHeap -> SR} {src : AV} {items : List AV} (I : Nat -> Locs -> AHeap -> Prop) (R : SR -> Prop)
    (hn : ∀ k l h, I k l h -> nextAt src k h = some items[k]?)
    (step : ∀ k v l h, items[k]? = some v -> I k l h -> ∃ l1, put l v = some l1 /\ Turn (I (k + 1)) R (body l1 h)) :
    ∀ f k l h, items.length < f + k -> k <= items.length -> I k l h ->
      (∃ l' h', forLoop put body src f k l h = .ok .next l' h' /\ I items.length l' h') \/ R (forLoop put body src f k l h)
  | 0, k, l, h, h1, h2, _ => absurd h1 (by lia)
  | f + 1, k, l, h, h1, h2, hI => by
    rw [for_succ, hn k l h hI]
    by_cases hk : k < items.length
    . refine xEA (step k items[k] l h (List.getElem?_eq_getElem hk) hI) fun l1 hp t => ?_
      rw [List.getElem?_eq_getElem hk]
      show (∃ l' h', (match put l items[k] with | some l' => (body l' h).lap (forLoop put body src f (k + 1)) | none => SR.bad) = SR.ok .next l' h' /\ I items.length l' h') \/ R (match put l items[k] with | some l' => (body l' h).lap (forLoop put body src f (k + 1)) | none => SR.bad)
      rw [hp]
      show (∃ l' h', (body l1 h).lap (forLoop put body src f (k + 1)) = SR.ok .next l' h' /\ I items.length l' h') \/ R ((body l1 h).lap (forLoop put body src f (k + 1)))
      generalize hb : body l1 h = r at t
      cases t with
      | next l' h' i => exact forLoop_gen I R hn step f (k + 1) l' h' (by lia) (by lia) i
      | cont l' h' i => exact forLoop_gen I R hn step f (k + 1) l' h' (by lia) (by lia) i
      | halt _ q x => cases q <;> exact .inr x
    . have e : k = items.length := by lia
      subst e
      rw [List.getElem?_eq_none (Nat.le_refl _)]
      exact .inl ⟨l, h, rfl, hI⟩
theorem forLoop_put {put : Locs -> AV -> Option Locs} {body : Locs -> AHeap -> SR} {src : AV} {items : List AV} (I : Nat -> Locs -> AHeap -> Prop)
    (hn : ∀ k l h, I k l h -> nextAt src k h = some items[k]?)
    (step : ∀ k v l h, items[k]? = some v -> I k l h -> ∃ l1, put l v = some l1 /\ ∃ l' h', body l1 h = .ok .next l' h' /\ I (k + 1) l' h')
    {f : Nat} {l : Locs} {h : AHeap} (hf : items.length < f) (hI : I 0 l h) : ∃ l' h', forLoop put body src f 0 l h = .ok .next l' h' /\ I items.length l' h' := by
  rcases forLoop_gen (body := body) I (fun _ => False) hn (fun k v l h e hI => xEAEEA (step k v l h e hI) fun l1 hp l' h' a c => ⟨l1, hp, by rw [a]; exact .next l' h' c⟩) f 0 l h (by omega) (by lia) hI with h1 | h1
  . exact h1
  . exact h1.elim
theorem forLoop_all {i : Nat} {body : Locs -> AHeap -> SR} {src : AV} {items : List AV} (I : Nat -> Locs -> AHeap -> Prop)
    (hn : ∀ k l h, I k l h -> nextAt src k h = some items[k]?)
    (step : ∀ k v l h, items[k]? = some v -> I k l h -> ∃ l' h', body (l.set i (some v)) h = .ok .next l' h' /\ I (k + 1) l' h')
    {f : Nat} {l : Locs} {h : AHeap} (hf : items.length < f) (hI : I 0 l h) : ∃ l' h', forLoop (put1 i) body src f 0 l h = .ok .next l' h' /\ I items.length l' h' :=
  forLoop_put I hn (fun k v l h e hI => ⟨_, rfl, step k v l h e hI⟩) hf hI
theorem compLoop_all {body : AV -> AHeap -> Res (Option AV)} {src : AV} {items : List AV} (I : Nat -> List AV -> AHeap -> Prop)
    (hn : ∀ k a h, I k a h -> nextAt src k h = some items[k]?)
    (step : ∀ k v a h, items[k]? = some v -> I k a h -> ∃ r h', body v h = .ok r h' /\ I (k + 1) (a ++ r.toList) h') (hl : items.length <= 1000) :
    ∀ f k a h, items.length < f + k -> k <= items.length -> a.length <= k -> I k a h -> ∃ a' h', compLoop body src f k a h = .ok a' h' /\ I items.length a' h' /\ a'.length <= items.length
  | 0, k, a, h, h1, h2, _, _ => by omega
  | f + 1, k, a, h, h1, h2, h3, hI => by
    rw [comp_succ, hn k a h hI]
    by_cases hk : k < items.length
    . refine xEEA (step k items[k] a h (List.getElem?_eq_getElem hk) hI) fun r h' hb hc => ?_
      rw [List.getElem?_eq_getElem hk]
      show ∃ a1 h1, (body items[k] h).bind _ = _ /\ _
      rw [hb]
      rcases r with _ | x
      case none =>
        rw [Option.toList_none, List.append_nil] at hc
        exact compLoop_all I hn step hl f (k + 1) a h' (by lia) (by lia) (by lia) hc
      case some =>
        rw [Option.toList_some] at hc
        show ∃ a1 h1, (if a.length < sizeLim then compLoop body src f (k + 1) (a ++ [x]) h' else Res.bad) = _ /\ _
        rw [if_pos (by unfold sizeLim; lia)]
        exact compLoop_all I hn step hl f (k + 1) _ h' (by lia) (by lia) (by simp; omega) hc
    . have e : k = items.length := by lia
      subst e
      rw [List.getElem?_eq_none (Nat.le_refl _)]
      exact ⟨a, h, rfl, hI, h3⟩
theorem ss_step {c : Ctx} {s : S} {r : Ss} {l l' : Locs} {h h' : AHeap} (e : execS c s l h = .ok .next l' h') : execSs c (.cons s r) l h = execSs c r l' h' := by
  show (execS c s l h).turn _ = _
  rw [e]; rfl
theorem ss_stop {c : Ctx} {s : S} {r : Ss} {l l' : Locs} {h h' : AHeap} {v : AV} (e : execS c s l h = .ok (.ret v) l' h') : execSs c (.cons s r) l h = .ok (.ret v) l' h' := by
  show (execS c s l h).turn _ = _
  rw [e]; rfl
theorem ss_one {c : Ctx} {s : S} {l l' : Locs} {h h' : AHeap} {f : Flow} (e : execS c s l h = .ok f l' h') : execSs c (.cons s .nil) l h = .ok f l' h' := by
  show (execS c s l h).turn _ = _
  rw [e]; rcases f with _ | _ <;> rfl
abbrev Prog.has (p : Prog) (f : Str) (d : FDef) : Prop := p.lookup f = some d
theorem run_at {p : Prog} {n : Nat} {f : Str} {as : List AV} {h : AHeap} {d : FDef} (hl : Prog.has p f d) (ha : as.length = d.params) :
    ∃ F, 50000 <= F /\ semF p (n + 1) false f as h = retR (execSs (cF p n F) d.body (as.map some ++ List.replicate (d.slots - d.params) none) h) := by
  refine ⟨fuelOf, by decide, ?_⟩
  rw [semF_at hl]
  exact if_pos ha
theorem next_of {src : AV} {k : Nat} {xs : List AV} {h : AHeap} (hi : itemsAV src h = some xs) : nextAt src k h = some xs[k]? := by
  delta nextAt
  rw [hi]; rfl
theorem next_list {h : AHeap} {n k : Nat} {x : List AV} (hh : h[n]? = some (.list x)) : nextAt (.loc n) k h = some x[k]? := next_of (listAt_of hh)
theorem next_tup {h : AHeap} {k : Nat} {x : List AV} : nextAt (.tup x) k h = some x[k]? := next_of rfl
theorem next_rng {b : Int} {k : Nat} {h : AHeap} (hb : b.natAbs <= sizeLim) : nextAt (.rng 0 b 1) k h = some (rngItems 0 b 1)[k]? := next_of (if_pos ⟨.inl rfl, Nat.zero_le _, hb⟩)
theorem rng_up (m : Nat) : rngItems 0 m 1 = (List.range m).map fun (k : Nat) => AV.int k := by
  show (List.range ((m : Int) - 0).toNat).map _ = _
  rw [Int.sub_zero, Int.toNat_natCast]
  exact List.map_congr_left fun k _ => by rw [Int.one_mul, Int.zero_add]
theorem up_item {m k : Nat} {v : AV} (h : (rngItems 0 m 1)[k]? = some v) : k < m /\ v = .int k := by
  rw [rng_up, List.getElem?_map] at h
  refine xEA (Option.map_eq_some_iff.mp h) fun j hj qq1 => ?_; subst qq1
  refine xE (List.getElem?_eq_some_iff.mp hj) fun h1 h2 => ?_
  rw [List.length_range] at h1
  rw [List.getElem_range] at h2
  subst h2
  exact ⟨h1, rfl⟩
theorem up_length (m : Nat) : (rngItems 0 m 1).length = m := by rw [rng_up, List.length_map, List.length_range]
theorem range_up {m : Nat} (hm : m <= 1000) : rangeOf [.int (m : Int)] = some (.rng 0 m 1) := by
  exact if_pos (Nat.le_trans hm (by decide))
theorem run_in {p : Prog} {n : Nat} {f : Str} {as : List AV} {h : AHeap} {d : FDef} (hl : Prog.has p f d) (l : Locs) (he : as.map some ++ List.replicate (d.slots - d.params) none = l) (ha : as.length = d.params) :
    ∃ F, 50000 <= F /\ semF p (n + 1) false f as h = retR (execSs (cF p n F) d.body l h) := by
  subst he
  exact run_at hl ha
noncomputable def cellAt (xs : List Int) (k : Nat) : Int := xs.getD k 0
noncomputable def mixF (c k : Int) : Int := ((c + 7919 * k + 11) * 48271).fmod 2147483647
noncomputable def mixed (c k : Int) : Int := (mixF c k * mixF c k + 40692 * mixF c k).fmod 2147483399
theorem fmod_bound (a : Int) {m : Int} (hm : 0 < m) : 0 <= a.fmod m /\ a.fmod m < m := by
  rw [Int.fmod_eq_emod_of_nonneg _ (Int.le_of_lt hm)]
  exact ⟨Int.emod_nonneg _ (Int.ne_of_gt hm), Int.emod_lt_of_pos _ hm⟩
noncomputable def d__law_cell_at : FDef := ⟨2, 2,
  (.cons (.iff (.cmp .lt (.loc 1) (.bi .len (.cons (.loc 0) .nil)))
    (.cons (.ret (.sub (.loc 0) (.loc 1)))
    .nil)
    .nil)
  (.cons (.ret (.int 0))
  .nil))⟩
noncomputable def d__law_mixed : FDef := ⟨2, 3,
  (.cons (.asg 2 (.bin .mod (.bin .mul (.bin .add (.bin .add (.loc 0) (.bin .mul (.int 7919) (.loc 1))) (.int 11)) (.int 48271)) (.int 2147483647)))
  (.cons (.ret (.bin .mod (.bin .add (.bin .mul (.loc 2) (.loc 2)) (.bin .mul (.int 40692) (.loc 2))) (.int 2147483399)))
  .nil))⟩
section
variable {p : Prog} {n : Nat} {h : AHeap}
theorem run_cell_at (hp : Prog.has p "_law_cell_at" d__law_cell_at) {xs : List Int} (hl : xs.length <= 63) (k : Nat) : semF p (n + 1) false "_law_cell_at" [.scr xs, .int k] h = .ok (.int (cellAt xs k)) h := by
  refine xEA (run_at (n := n) (h := h) hp (as := [.scr xs, .int k]) rfl) fun F hF e => ?_
  rw [e]
  have hs : xs.length <= sizeLim := Nat.le_trans hl (by decide)
  simp only [d__law_cell_at, ss_cons, ss_nil, s_iff, s_ret, x_cmp, x_loc, x_bi, xs_cons, xs_nil, x_sub, x_int, List.map_cons, List.map_nil, List.cons_append, List.nil_append, loc0, locS, okO_some, bok, sok, len_scr hs, c_lt, boolO_some, cond_if, Bool.and_false, Bool.false_eq_true, if_false]
  by_cases hk : k < xs.length
  . rw [if_pos (by lia), sub_scr hs (by lia) (d := cellAt xs k) (by simp [cellAt, hk]), sok, turn_ret, turn_ret, retR_ret]
  . rw [if_neg (by lia), turn_next, turn_ret, retR_ret, cellAt, List.getD_eq_getElem?_getD, List.getElem?_eq_none (by lia)]
    rfl
theorem run_mixed (hp : Prog.has p "_law_mixed" d__law_mixed) (c k : Int) : semF p (n + 1) false "_law_mixed" [.int c, .int k] h = .ok (.int (mixed c k)) h := by
  refine xEA (run_at (n := n) (h := h) hp (as := [.int c, .int k]) rfl) fun F hF e => ?_
  rw [e]
  have hb := fmod_bound ((c + 7919 * k + 11) * 48271) (m := 2147483647) (by decide)
  have hm : ((c + 7919 * k + 11) * 48271).fmod 2147483647 = mixF c k := rfl
  rw [hm] at hb
  simp only [d__law_mixed, ss_cons, ss_nil, s_asg, s_ret, x_bin, x_loc, x_int, List.map_cons, List.map_nil, List.cons_append, List.nil_append, List.replicate, List.set, loc0, locS, okO_some, bok, sok, b_add, b_mulL (x := 7919) (by decide), b_mulR (y := 48271) (by decide), b_mod (y := 2147483647) (by decide), turn_next, hm]
  rw [b_mulL (by omega), bok, b_mulL (by decide), bok, b_add, bok, b_mod (by decide), sok, turn_ret, retR_ret]
  rfl
end
end
section
open PySem
section
variable {c : Ctx} {l l' : Locs} {h h' h1 h2 h3 : AHeap} {v u w : AV} {vs : List AV} {r : Res AV} {x y o t : X} {as : Xs} {b q : Bool} {s : SR} {k f m : Str} {i : Nat}
theorem ev_call (ea : evalXs c as l h = .ok vs h1) (ef : c.F f vs h1 = r) : evalX c (.call f as) l h = r := by rw [x_call, ea]; exact ef
theorem ev_im (eo : evalX c o l h = .ok v h1) (hm : hasMeth m v h1 = true) (ea : evalXs c as l h1 = .ok vs h2) (ef : c.F m (v :: vs) h2 = r) : evalX c (.im m o as) l h = r := by
  rw [x_im, eo, bok, if_pos hm, ea]; exact ef
theorem ev_bm {m : BM} (eo : evalX c o l h = .ok v h1) (hm : bmOk m v h1 = true) (ea : evalXs c as l h1 = .ok vs h2) (ef : bmAV m v vs h2 = r) : evalX c (.bm m o as) l h = r := by
  rw [x_bm, eo, bok, if_pos hm, ea]; exact ef
theorem ev_bi {b : BI} (hq : c.q = false) (ea : evalXs c as l h = .ok vs h1) (ef : biAV b vs h1 = r) : evalX c (.bi b as) l h = r := by
  rw [x_bi, ea, bok, hq, Bool.and_false]; exact ef
theorem ev_attr (eo : evalX c o l h = .ok v h1) (ef : attrAV k v h1 = r) : evalX c (.attr k o) l h = r := by rw [x_attr, eo]; exact ef
theorem ev_sub (eo : evalX c o l h = .ok v h1) (ei : evalX c x l h1 = .ok u h2) (ef : subAV v u h2 = r) : evalX c (.sub o x) l h = r := by rw [x_sub, eo, bok, ei]; exact ef
theorem ev_bin {op : BOp} (eo : evalX c o l h = .ok v h1) (ei : evalX c x l h1 = .ok u h2) (ef : binAV op v u h2 = r) : evalX c (.bin op o x) l h = r := by rw [x_bin, eo, bok, ei]; exact ef
theorem ev_cmp {op : COp} (eo : evalX c o l h = .ok v h1) (ei : evalX c x l h1 = .ok u h2) (ef : cmpAV h2 op v u = some b) : evalX c (.cmp op o x) l h = .ok (.bool b) h2 := by rw [x_cmp, eo, bok, ei, bok, ef]; rfl
theorem ev_or_f (ex : evalX c x l h = .ok (.bool false) h1) (ey : evalX c y l h1 = r) : evalX c (.or x y) l h = r := by rw [x_or, ex]; exact ey
theorem ev_or_t (ex : evalX c x l h = .ok (.bool true) h1) : evalX c (.or x y) l h = .ok (.bool true) h1 := by rw [x_or, ex]; rfl
theorem ev_and_t (ex : evalX c x l h = .ok (.bool true) h1) (ey : evalX c y l h1 = r) : evalX c (.and x y) l h = r := by rw [x_and, ex]; exact ey
theorem ev_and_f (ex : evalX c x l h = .ok (.bool false) h1) : evalX c (.and x y) l h = .ok (.bool false) h1 := by rw [x_and, ex]; rfl
theorem ev_not (ex : evalX c x l h = .ok (.bool b) h1) : evalX c (.not x) l h = .ok (.bool !b) h1 := by rw [x_not, ex]; rfl
theorem ev_tup (ea : evalXs c as l h = .ok vs h1) (hl : vs.length <= 1000) : evalX c (.tup as) l h = .ok (.tup vs) h1 := by rw [x_tup, ea]; exact if_pos (Nat.le_trans hl (by decide))
theorem ev_list (ea : evalXs c as l h = .ok vs h1) (hl : vs.length <= 1000) : evalX c (.list as) l h = .ok (.loc h1.length) (h1 ++ [.list vs]) := by rw [x_list, ea]; exact if_pos (Nat.le_trans hl (by decide))
theorem ev_range (ea : evalXs c as l h = .ok vs h1) (er : rangeOf vs = some v) : evalX c (.range as) l h = .ok v h1 := by rw [x_range, ea, bok, er]; rfl
theorem ev_cons {xs : Xs} (ex : evalX c x l h = .ok v h1) (er : evalXs c xs l h1 = .ok vs h2) : evalXs c (.cons x xs) l h = .ok (v :: vs) h2 := by rw [xs_cons, ex, bok, er]; rfl
theorem ev_one (ex : evalX c x l h = .ok v h1) : evalXs c (.cons x .nil) l h = .ok [v] h1 := ev_cons ex rfl
theorem st_expr (e : evalX c x l h = .ok v h1) : execS c (.expr x) l h = .ok .next l h1 := by rw [s_expr, e]; rfl
theorem st_ret (e : evalX c x l h = .ok v h1) : execS c (.ret x) l h = .ok (.ret v) l h1 := by rw [s_ret, e]; rfl
theorem st_asg (e : evalX c x l h = .ok v h1) : execS c (.asg i x) l h = .ok .next (l.set i (some v)) h1 := by rw [s_asg, e]; rfl
theorem st_set (ex : evalX c x l h = .ok v h1) (eo : evalX c o l h1 = .ok u h2) (ek : evalX c y l h2 = .ok w h3) (es : setItemAV u w v h3 = some h') : execS c (.setitem o y x) l h = .ok .next l h' := by
  rw [s_set, ex, sok, eo, sok, ek, sok, es]; rfl
theorem st_t {a d : Ss} (e : evalX c t l h = .ok (.bool true) h1) (ea : execSs c a l h1 = s) : execS c (.iff t a d) l h = s := by rw [s_iff, e]; exact ea
theorem st_f {a d : Ss} (e : evalX c t l h = .ok (.bool false) h1) (ea : execSs c d l h1 = s) : execS c (.iff t a d) l h = s := by rw [s_iff, e]; exact ea
theorem st_for {d : Ss} (hq : c.q = false) (e : evalX c x l h = .ok v h1) (ef : forLoop (put1 i) (fun l h => execSs c d l h) v c.fuel 0 l h1 = s) : execS c (.forr i x d) l h = s := by
  rw [s_for, e, sok, hq]; exact ef
theorem st_fort {d : Ss} {is : List Nat} (hq : c.q = false) (e : evalX c x l h = .ok v h1) (ef : forLoop (puts is) (fun l h => execSs c d l h) v c.fuel 0 l h1 = s) : execS c (.fort is x d) l h = s := by
  rw [s_fort, e, sok, hq]; exact ef
theorem st_expr_x (e : evalX c x l h = .exc k h1) : execS c (.expr x) l h = .exc k l h1 := by rw [s_expr, e]; rfl
theorem st_ret_x (e : evalX c x l h = .exc k h1) : execS c (.ret x) l h = .exc k l h1 := by rw [s_ret, e]; rfl
theorem st_asg_x (e : evalX c x l h = .exc k h1) : execS c (.asg i x) l h = .exc k l h1 := by rw [s_asg, e]; rfl
theorem ss_exc {a : S} {d : Ss} (e : execS c a l h = .exc k l' h') : execSs c (.cons a d) l h = .exc k l' h' := by rw [ss_cons, e]; rfl
theorem ss_last {a : S} (e : execS c a l h = s) : execSs c (.cons a .nil) l h = s := by
  rw [ss_cons, e]
  rcases s with ⟨f, _, _⟩ | ⟨_, _, _⟩ | _
  case ok => rcases f with _ | _ <;> rfl
  case exc => rfl
  case bad => rfl
theorem fin_exc (e : execSs c d l h = .exc k l' h') : retR (execSs c d l h) = .exc k h' := by rw [e]; rfl
theorem fin_ret (e : execSs c d l h = .ok (.ret v) l' h') : retR (execSs c d l h) = .ok v h' := by rw [e]; rfl
theorem try_ok {d : Ss} {hs : Hs} {fl : Flow} (hq : c.q = false) (e : execSs c d l h = .ok fl l' h') : execS c (.tryx d hs) l h = .ok fl l' h' := by
  rw [s_try, hq, if_neg Bool.false_ne_true, e]
theorem try_exc {d : Ss} {hs : Hs} (hq : c.q = false) (e : execSs c d l h = .exc k l' h') (eh : handle c hs k l' h' = s) : execS c (.tryx d hs) l h = s := by
  rw [s_try, hq, if_neg Bool.false_ne_true, e]; exact eh
end
end
section
namespace Cu
section Assoc
variable {α β : Type} [DecidableEq α] [BEq α] [LawfulBEq α]
noncomputable def put (t : List (α × β)) (a : α) (b : β) : List (α × β) :=
  if t.any (fun p => p.1 == a) then t.map (fun p => if p.1 == a then (p.1, b) else p) else t ++ [(a, b)]
theorem lookup_none {t : List (α × β)} {a : α} : t.lookup a = none ↔ a ∉ t.map (·.1) := by
  induction t with
  | nil => simp
  | cons p t ih =>
    obtain ⟨k, v⟩ := p
    simp only [List.lookup_cons, List.map_cons, List.mem_cons, not_or]
    by_cases e : a = k
    . simp [e]
    . simp only [beq_eq_false_iff_ne.mpr e, ih, e, not_false_eq_true, true_and]
theorem lookup_mem {t : List (α × β)} {a : α} {b : β} (h : t.lookup a = some b) : (a, b) ∈ t := by
  induction t with
  | nil => simp at h
  | cons p t ih =>
    obtain ⟨k, v⟩ := p
    simp only [List.lookup_cons] at h
    by_cases e : a = k
    . simp only [e, BEq.rfl, Option.some.injEq] at h; simp [e, h]
    . simp only [beq_eq_false_iff_ne.mpr e] at h; exact List.mem_cons_of_mem _ (ih h)
theorem lookup_of_mem {t : List (α × β)} (nd : (t.map (·.1)).Nodup) {a : α} {b : β} (h : (a, b) ∈ t) : t.lookup a = some b := by
  induction t with
  | nil => simp at h
  | cons p t ih =>
    obtain ⟨k, v⟩ := p
    simp only [List.map_cons, List.nodup_cons] at nd
    simp only [List.lookup_cons]
    rcases List.mem_cons.mp h with e | e
    . injection e with e1 e2; subst e1; subst e2; simp
    . have : a ≠ k := by rintro rfl; exact nd.1 (List.mem_map.mpr ⟨_, e, rfl⟩)
      simp only [beq_eq_false_iff_ne.mpr this]; exact ih nd.2 e
theorem any_iff {t : List (α × β)} {a : α} : t.any (fun p => p.1 == a) = true ↔ a ∈ t.map (·.1) := by
  simp only [List.any_eq_true, beq_iff_eq, List.mem_map]
theorem put_keys {t : List (α × β)} {a : α} {b : β} : (put t a b).map (·.1) = if a ∈ t.map (·.1) then t.map (·.1) else t.map (·.1) ++ [a] := by
  unfold put
  by_cases h : a ∈ t.map (·.1)
  . rw [if_pos (any_iff.mpr h), if_pos h, List.map_map]
    apply List.map_congr_left
    intro p _
    simp only [Function.comp]; split <;> rfl
  . rw [if_neg (fun q => h (any_iff.mp q)), if_neg h]; simp
theorem put_nodup {t : List (α × β)} (nd : (t.map (·.1)).Nodup) {a : α} {b : β} : ((put t a b).map (·.1)).Nodup := by
  rw [put_keys]
  split
  . exact nd
  . rename_i h
    rw [List.nodup_append]
    refine ⟨nd, by simp, ?_⟩
    intro x hx y hy e
    simp at hy; subst hy; subst e; exact h hx
theorem put_length {t : List (α × β)} {a : α} {b : β} : (put t a b).length = if a ∈ t.map (·.1) then t.length else t.length + 1 := by
  have := congrArg List.length (put_keys (t := t) (a := a) (b := b))
  rw [List.length_map] at this
  rw [this]; split <;> simp
theorem put_lookup {t : List (α × β)} {a x : α} {b : β} : (put t a b).lookup x = if x = a then some b else t.lookup x := by
  unfold put
  split
  . rename_i h
    induction t with
    | nil => simp at h
    | cons p t ih =>
      obtain ⟨k, v⟩ := p
      by_cases e : k = a
      . subst e
        by_cases ex : x = k
        . subst ex; simp
        . simp only [List.map_cons, BEq.rfl, if_true, List.lookup_cons, beq_eq_false_iff_ne.mpr ex, if_neg ex]
          clear ih h
          induction t with
          | nil => rfl
          | cons q t ih =>
            obtain ⟨k2, v2⟩ := q
            by_cases e2 : k2 = k
            . subst e2; simp only [List.map_cons, BEq.rfl, if_true, List.lookup_cons, beq_eq_false_iff_ne.mpr ex]; exact ih
            . simp only [List.map_cons, beq_eq_false_iff_ne.mpr e2, List.lookup_cons]
              show (match x == k2 with | true => some v2 | false => _) = (match x == k2 with | true => some v2 | false => _)
              rcases x == k2 with _ | _
              . exact ih
              . rfl
      . have h' : t.any (fun p => p.1 == a) = true := by simpa [e] using h
        simp only [List.map_cons, beq_eq_false_iff_ne.mpr e, List.lookup_cons, Bool.false_eq_true, if_false]
        by_cases ex : x = k
        . subst ex; simp [e]
        . simp only [beq_eq_false_iff_ne.mpr ex]; exact ih h'
  . rename_i h
    rw [any_iff] at h
    rw [<- lookup_none] at h
    rw [List.lookup_append]
    by_cases e : x = a
    . subst e; simp [h]
    . simp [e, List.lookup_cons, beq_eq_false_iff_ne.mpr e]
end Assoc
theorem card_le {α : Type} [DecidableEq α] {l l' : List α} (nd : l.Nodup) (s : ∀ x ∈ l, x ∈ l') : l.length <= l'.length := by
  induction l generalizing l' with
  | nil => simp
  | cons a l ih =>
    rw [List.nodup_cons] at nd
    have ha := s a (by simp)
    have := ih (l' := l'.erase a) nd.2 (fun x hx => (List.mem_erase_of_ne (by rintro rfl; exact nd.1 hx)).mpr (s x (by simp [hx])))
    rw [List.length_erase_of_mem ha] at this
    have : 0 < l'.length := List.length_pos_of_mem ha
    simp; lia
abbrev Seat := Int × Int
section
variable {β : Type} {hm : β -> Int -> Seat}
structure Way (hm : β -> Int -> Seat) (t : List (Seat × β)) (s0 : Seat) (w : List Seat) : Prop where
  head : w[0]? = some s0
  nd : w.Nodup
  step : ∀ (i : Nat) s s', w[i]? = some s -> w[i + 1]? = some s' -> ∃ n, t.lookup s = some n /\ s' = hm n (1 - s.1)
theorem Way.one (t : List (Seat × β)) (s0 : Seat) : Way hm t s0 [s0] := ⟨rfl, by simp, by intro i s s' _ h; simp at h⟩
theorem Way.pos {t : List (Seat × β)} {s0 : Seat} {w : List Seat} (W : Way hm t s0 w) : 0 < w.length := by
  have := W.head
  rcases w with _ | _ <;> simp at this |-
theorem Way.snoc {t : List (Seat × β)} {s0 : Seat} {w : List Seat} (W : Way hm t s0 w) {s : Seat} {n : β} (hl : w[w.length - 1]? = some s) (hn : t.lookup s = some n) (hx : hm n (1 - s.1) ∉ w) :
    Way hm t s0 (w ++ [hm n (1 - s.1)]) := by
  have hp := W.pos
  refine ⟨?_, ?_, ?_⟩
  . rw [List.getElem?_append_left hp]; exact W.head
  . rw [List.nodup_append]
    refine ⟨W.nd, by simp, ?_⟩
    intro x hx' y hy e
    simp at hy; subst hy; subst e; exact hx hx'
  . intro i a b ha hb
    by_cases h : i + 1 < w.length
    . rw [List.getElem?_append_left h] at hb
      rw [List.getElem?_append_left (by lia)] at ha
      exact W.step i a b ha hb
    . have hi : i + 1 = w.length := by
        have := (List.getElem?_eq_some_iff.mp hb).1
        simp at this; lia
      rw [List.getElem?_append_left (by lia)] at ha
      have : i = w.length - 1 := by lia
      subst this
      rw [hl] at ha; injection ha with ha; subst ha
      rw [List.getElem?_append_right (by lia)] at hb
      have e : w.length - 1 + 1 - w.length = 0 := by lia
      rw [e] at hb; simp at hb
      exact ⟨n, hn, hb.symm⟩
theorem Way.short {t : List (Seat × β)} {s0 : Seat} {w : List Seat} (W : Way hm t s0 w) : w.length <= t.length + 1 := by
  have h : (w.take (w.length - 1)).length <= (t.map (·.1)).length := by
    apply card_le (W.nd.sublist (List.take_sublist _ _))
    intro x hx
    refine xE (List.getElem_of_mem hx) fun i qq1 => ?_; obtain ⟨hi, e⟩ := qq1
    rw [List.length_take] at hi
    have h1 : w[i]? = some x := by rw [<- e, List.getElem_take]; exact List.getElem?_eq_getElem _
    refine xEA (W.step i x _ h1 (List.getElem?_eq_getElem (by omega))) fun n hn _ => ?_
    exact List.mem_map.mpr ⟨_, lookup_mem hn, rfl⟩
  rw [List.length_take, List.length_map] at h
  lia
theorem Way.last {t : List (Seat × β)} {s0 : Seat} {w : List Seat} (W : Way hm t s0 w) : ∃ s, w[w.length - 1]? = some s := ⟨_, List.getElem?_eq_getElem (by have := W.pos; omega)⟩
noncomputable def wayGo (hm : β -> Int -> Seat) (t : List (Seat × β)) : Nat -> List Seat -> List Seat
  | 0, w => w
  | f + 1, w => match w[w.length - 1]? with
    | none => w
    | some s => match t.lookup s with
      | none => w
      | some n => if hm n (1 - s.1) ∈ w then w else wayGo hm t f (w ++ [hm n (1 - s.1)])
noncomputable def wayOf (hm : β -> Int -> Seat) (t : List (Seat × β)) (s : Seat) : List Seat := wayGo hm t (t.length + 1) [s]
theorem go_free {t : List (Seat × β)} {f : Nat} {w : List Seat} {s : Seat} (hs : w[w.length - 1]? = some s) (hn : t.lookup s = none) : wayGo hm t (f + 1) w = w := by
  unfold wayGo; rw [hs]; dsimp only; rw [hn]
theorem go_shut {t : List (Seat × β)} {f : Nat} {w : List Seat} {s : Seat} {n : β} (hs : w[w.length - 1]? = some s) (hn : t.lookup s = some n) (hi : hm n (1 - s.1) ∈ w) : wayGo hm t (f + 1) w = w := by
  unfold wayGo; rw [hs]; dsimp only; rw [hn]; exact if_pos hi
theorem go_on {t : List (Seat × β)} {f : Nat} {w : List Seat} {s : Seat} {n : β} (hs : w[w.length - 1]? = some s) (hn : t.lookup s = some n) (hi : hm n (1 - s.1) ∉ w) : wayGo hm t (f + 1) w = wayGo hm t f (w ++ [hm n (1 - s.1)]) := by
  rw [wayGo, hs]; dsimp only; rw [hn]; exact if_neg hi
theorem Way.go {t : List (Seat × β)} {s0 : Seat} : ∀ {f : Nat} {w : List Seat}, Way hm t s0 w -> Way hm t s0 (wayGo hm t f w)
  | 0, _, W => W
  | f + 1, w, W => by
    refine xE W.last fun s hs => ?_
    rcases hn : t.lookup s with _ | n
    case none => rw [go_free hs hn]; exact W
    case some =>
      by_cases hi : hm n (1 - s.1) ∈ w
      . rw [go_shut hs hn hi]; exact W
      . rw [go_on hs hn hi]; exact (W.snoc hs hn hi).go
theorem wayOf_way (t : List (Seat × β)) (s : Seat) : Way hm t s (wayOf hm t s) := (Way.one t s).go
end
end Cu
end
section
open PySem Cu
section
variable {h : AHeap} {l : Locs} {c : Ctx}
theorem tup2 {α : Type} {x y : AV} {a b : α} : (if ([x, y] : List AV).length <= sizeLim then a else b) = a := if_pos (by show 2 <= sizeLim; decide)
theorem tup3 {α : Type} {x y z : AV} {a b : α} : (if ([x, y, z] : List AV).length <= sizeLim then a else b) = a := if_pos (by show 3 <= sizeLim; decide)
theorem cmpAnd_t {k : Res AV} : cmpAnd (some true) h k = k := rfl
theorem cmpAnd_f {k : Res AV} : cmpAnd (some false) h k = .ok (.bool false) h := rfl
theorem len_str {x : List Nat} (hl : x.length <= sizeLim) : biAV .len [.str x] h = .ok (.int x.length) h := if_pos hl
theorem idx_str {x : List Nat} {k : Nat} {d : Nat} (hl : x.length <= sizeLim) (hd : x[k]? = some d) : subAV (.str x) (.int k) h = .ok (.str [d]) h :=
  subI_at (x := x.map fun c => .str [c]) (by rw [List.length_map]; exact hl) (by rw [idx_nat (by lia), List.getElem?_map, Int.toNat_natCast, hd]; rfl)
theorem b_adds {x y : List Nat} (hl : x.length + y.length <= sizeLim) : binAV .add (.str x) (.str y) h = .ok (.str (x ++ y)) h := if_pos hl
theorem c_notin1 {c : Nat} {y : List Nat} : cmpAV h .notin (.str [c]) (.str y) = some (!decide (c ∈ y)) := rfl
theorem bmOk_index {x : List Nat} : bmOk .index (.str x) h = true := rfl
theorem index_ok {x : List Nat} {c i : Nat} (hi : x.findIdx? (· == c) = some i) : bmAV .index (.str x) [.str [c]] h = .ok (.int i) h := by
  show okO ((x.findIdx? (· == c)).map _) h = _
  rw [hi]; rfl
theorem next_str {x : List Nat} {k : Nat} (hx : ∀ c ∈ x, c < 128) : nextAt (.str x) k h = some (x.map fun c => AV.str [c])[k]? :=
  next_of (if_pos (List.all_eq_true.mpr fun c hc => decide_eq_true (hx c hc)))
theorem str_item {t : List Nat} {k : Nat} {v : AV} (hv : (t.map fun c => AV.str [c])[k]? = some v) : ∃ hk : k < t.length, v = .str [t[k]] := by
  rw [List.getElem?_map] at hv
  refine xEA (Option.map_eq_some_iff.mp hv) fun x hx qq1 => ?_; subst qq1
  refine xE (List.getElem?_eq_some_iff.mp hx) fun hk qq1 => ?_; subst qq1
  exact ⟨hk, rfl⟩
end
noncomputable def signs : List Nat := [97, 98, 99, 100, 101, 102, 103, 104, 105, 106, 107, 108, 109, 110, 111, 112, 113, 114, 115, 116, 117, 118, 119, 120, 121, 122, 48, 49, 50, 51, 52, 53, 54, 55, 56, 57]
theorem signs_len : signs.length = 36 := rfl
theorem signs_fit : signs.length <= sizeLim := by rw [signs_len]; unfold sizeLim; lia
theorem signs_small : ∀ c ∈ signs, c < 128 := by decide
noncomputable def posOf (c : Nat) : Nat := (signs.findIdx? (· == c)).getD 0
theorem posOf_at {c : Nat} (hc : c ∈ signs) : signs.findIdx? (· == c) = some (posOf c) := by
  unfold posOf
  rcases hq : signs.findIdx? (· == c) with _ | i
  case some => rfl
  case none => exact absurd ((List.findIdx?_eq_none_iff.mp hq) c hc) (by rw [beq_self_eq_true]; exact Bool.noConfusion)
abbrev Nm := List Nat
structure Good (t : Nm) : Prop where
  pos : 1 <= t.length
  len : t.length <= 12
  all : ∀ x ∈ t, x ∈ signs
theorem Good.fit {t : Nm} (G : Good t) : t.length <= sizeLim := by have := G.len; unfold sizeLim; lia
theorem Good.small {t : Nm} (G : Good t) : ∀ c ∈ t, c < 128 := fun c hc => signs_small c (G.all c hc)
noncomputable def homeStep (times count : Int) (acc : Int) (c : Nat) : Int := (acc * times + posOf c + 1).fmod count
noncomputable def homeOf (t : List Nat) (times count : Int) : Int := t.foldl (homeStep times count) 0
theorem home_take {t : List Nat} {times count : Int} {k : Nat} (hk : k < t.length) : homeOf (t.take (k + 1)) times count = homeStep times count (homeOf (t.take k) times count) t[k] := by
  unfold homeOf
  rw [List.take_add_one, List.getElem?_eq_getElem hk, Option.toList_some, List.foldl_append, List.foldl_cons, List.foldl_nil]
theorem home_in {t : List Nat} {times count : Int} (hc : 0 < count) (hl : 1 <= t.length) : 0 <= homeOf t times count /\ homeOf t times count < count := by
  have : homeOf (t.take (t.length - 1 + 1)) times count = _ := home_take (by omega)
  rw [show t.length - 1 + 1 = t.length by lia, List.take_length] at this
  rw [this]
  exact fmod_bound _ hc
noncomputable def b_is_name_1 : Ss :=
  (.cons (.iff (.cmp .notin (.loc 1) (.str signs))
    (.cons (.ret (.bool false))
    .nil)
    .nil)
  .nil)
noncomputable def d_is_name : FDef := ⟨1, 2,
  (.cons (.iff (.or (.not (.isi (.loc 0) .str)) (.not (.cmp2 .le .le (.int 1) (.bi .len (.cons (.loc 0) .nil)) (.int 12))))
    (.cons (.ret (.bool false))
    .nil)
    .nil)
  (.cons (.forr 1 (.loc 0) b_is_name_1)
  (.cons (.ret (.bool true))
  .nil)))⟩
noncomputable def b_home_1 : Ss :=
  (.cons (.asg 3 (.bin .mod (.bin .add (.bin .add (.bin .mul (.loc 3) (.loc 1)) (.bm .index (.str signs) (.cons (.loc 4) .nil))) (.int 1)) (.loc 2)))
  .nil)
noncomputable def d_home : FDef := ⟨3, 5,
  (.cons (.asg 3 (.int 0))
  (.cons (.forr 4 (.loc 0) b_home_1)
  (.cons (.ret (.loc 3))
  .nil)))⟩
noncomputable def d_is_whole : FDef := ⟨3, 3,
  (.cons (.ret (.and (.isi (.loc 0) .int) (.and (.not (.isi (.loc 0) .bool)) (.cmp2 .le .le (.loc 1) (.loc 0) (.loc 2)))))
  .nil)⟩
noncomputable def d_need_name : FDef := ⟨1, 1,
  (.cons (.iff (.not (.call "is_name" (.cons (.loc 0) .nil)))
    (.cons (.raise "NoName")
    .nil)
    .nil)
  .nil)⟩
noncomputable def d_need_value : FDef := ⟨1, 1,
  (.cons (.iff (.not (.call "is_whole" (.cons (.loc 0) (.cons (.neg (.int 1000000000)) (.cons (.int 1000000000) .nil)))))
    (.cons (.raise "NoValue")
    .nil)
    .nil)
  .nil)⟩
noncomputable def d__law_room : FDef := ⟨3, 3,
  (.cons (.iff (.cmp .gt (.bi .len (.cons (.loc 0) .nil)) (.int 63))
    (.cons (.ret (.loc 2))
    .nil)
    .nil)
  (.cons (.ret (.loc 1))
  .nil))⟩
noncomputable def b__law_home_1 : Ss :=
  (.cons (.asg 4 (.bin .mod (.bin .add (.bin .add (.bin .mul (.loc 4) (.loc 1)) (.bm .index (.loc 3) (.cons (.loc 5) .nil))) (.int 1)) (.loc 2)))
  .nil)
noncomputable def d__law_home : FDef := ⟨3, 6,
  (.cons (.asg 3 (.str signs))
  (.cons (.asg 4 (.int 0))
  (.cons (.forr 5 (.loc 0) b__law_home_1)
  (.cons (.ret (.loc 4))
  .nil))))⟩
section
variable {p : Prog} {n : Nat} {h : AHeap}
theorem run_is_name (hp : Prog.has p "is_name" d_is_name) {t : Nm} (G : Good t) : semF p (n + 1) false "is_name" [.str t] h = .ok (.bool true) h := by
  refine xEA (run_at (n := n) (h := h) hp (as := [.str t]) rfl) fun F hF e => ?_
  have hty : ∀ h, isTy h (.str t) .str = some true := fun _ => rfl
  have h1 := G.pos
  have h2 := G.len
  obtain ⟨l', h', e2, rfl, _⟩ := forLoop_all (i := 1) (src := .str t) (items := t.map fun c => AV.str [c]) (body := fun l h => execSs (cF p n F) b_is_name_1 l h)
    (fun k l h' => h' = h /\ ∃ v, l = [some (.str t), v]) (fun k l h' _ => next_str G.small) (fun k v l h' hv ⟨eh, v', el⟩ => by
      subst eh; subst el
      refine xE (str_item hv) fun hk qq1 => ?_; subst qq1
      refine ⟨_, _, ?_, rfl, some (.str [t[k]]), rfl⟩
      simp only [b_is_name_1, ss_cons, ss_nil, s_ret, s_iff, x_bool, x_str, x_loc, x_cmp, List.set, loc0, locS, okO_some, bok, sok, turn_next, turn_ret, boolO_some, cond_f, Bool.not_true, c_notin1, decide_eq_true (G.all _ (List.getElem_mem hk))]) (f := F) (l := [some (.str t), none]) (h := h) (by rw [List.length_map]; lia) ⟨rfl, none, rfl⟩
  rw [e]
  simp only [d_is_name, ss_cons, ss_nil, s_ret, s_iff, s_for, x_bool, x_int, x_loc, x_not, x_or, x_cmp2, x_bi, x_isi, xs_nil, xs_cons, List.map_cons, List.map_nil, List.cons_append, List.nil_append, List.replicate, loc0, okO_some, bok, sok, turn_next, turn_ret, Bool.and_false, Bool.false_eq_true, if_false, boolO_some, notAV_bool, retR_ret, cond_f, condV_f, cmpAnd_t, Bool.not_true, hty, len_str G.fit, c_le, decide_eq_true (show (1 : Int) <= t.length by lia), decide_eq_true (show (t.length : Int) <= 12 by lia), e2]
theorem run_home (hp : Prog.has p "home" d_home) {t : Nm} (G : Good t) {times count : Int} (ht : times.natAbs < 2 ^ 64) (hc : 0 < count) :
    semF p (n + 1) false "home" [.str t, .int times, .int count] h = .ok (.int (homeOf t times count)) h := by
  refine xEA (run_at (n := n) (h := h) hp (as := [.str t, .int times, .int count]) rfl) fun F hF e => ?_
  have h2 := G.len
  obtain ⟨l', h', e2, rfl, v4, rfl⟩ := forLoop_all (i := 4) (src := .str t) (items := t.map fun c => AV.str [c]) (body := fun l h => execSs (cF p n F) b_home_1 l h)
    (fun k l h' => h' = h /\ ∃ v4, l = [some (.str t), some (.int times), some (.int count), some (.int (homeOf (t.take k) times count)), v4]) (fun k l h' _ => next_str G.small) (fun k v l h' hv ⟨eh, v4, el⟩ => by
      subst eh; subst el
      refine xE (str_item hv) fun hk qq1 => ?_; subst qq1
      refine ⟨_, _, ?_, rfl, some (.str [t[k]]), rfl⟩
      simp only [b_home_1, ss_cons, ss_nil, s_asg, x_int, x_str, x_loc, x_bin, x_bm, xs_nil, xs_cons, List.set, loc0, locS, okO_some, bok, sok, turn_next, b_add, if_true, b_mulR ht, bmOk_index, index_ok (posOf_at (G.all _ (List.getElem_mem hk))), b_mod (show count ≠ 0 by lia), home_take hk]
      rfl) (f := F) (l := [some (.str t), some (.int times), some (.int count), some (.int 0), none]) (h := h) (by rw [List.length_map]; lia) ⟨rfl, none, rfl⟩
  rw [List.length_map, List.take_length] at e2
  rw [e]
  simp only [d_home, ss_cons, ss_nil, s_ret, s_asg, s_for, x_int, x_loc, List.map_cons, List.map_nil, List.cons_append, List.nil_append, List.replicate, List.set, loc0, locS, okO_some, sok, turn_next, turn_ret, Bool.false_eq_true, if_false, retR_ret, e2]
theorem run_law_home (hp : Prog.has p "_law_home" d__law_home) {t : Nm} (G : Good t) {times count : Int} (ht : times.natAbs < 2 ^ 64) (hc : 0 < count) :
    semF p (n + 1) false "_law_home" [.str t, .int times, .int count] h = .ok (.int (homeOf t times count)) h := by
  refine xEA (run_at (n := n) (h := h) hp (as := [.str t, .int times, .int count]) rfl) fun F hF e => ?_
  have h2 := G.len
  obtain ⟨l', h', e2, rfl, v4, rfl⟩ := forLoop_all (i := 5) (src := .str t) (items := t.map fun c => AV.str [c]) (body := fun l h => execSs (cF p n F) b__law_home_1 l h)
    (fun k l h' => h' = h /\ ∃ v4, l = [some (.str t), some (.int times), some (.int count), some (.str signs), some (.int (homeOf (t.take k) times count)), v4]) (fun k l h' _ => next_str G.small) (fun k v l h' hv ⟨eh, v4, el⟩ => by
      subst eh; subst el
      refine xE (str_item hv) fun hk qq1 => ?_; subst qq1
      refine ⟨_, _, ?_, rfl, some (.str [t[k]]), rfl⟩
      simp only [b__law_home_1, ss_cons, ss_nil, s_asg, x_int, x_loc, x_bin, x_bm, xs_nil, xs_cons, List.set, loc0, locS, okO_some, bok, sok, turn_next, b_add, if_true, b_mulR ht, bmOk_index, index_ok (posOf_at (G.all _ (List.getElem_mem hk))), b_mod (show count ≠ 0 by lia), home_take hk]
      rfl) (f := F) (l := [some (.str t), some (.int times), some (.int count), some (.str signs), some (.int 0), none]) (h := h) (by rw [List.length_map]; lia) ⟨rfl, none, rfl⟩
  rw [List.length_map, List.take_length] at e2
  rw [e]
  simp only [d__law_home, ss_cons, ss_nil, s_ret, s_asg, s_for, x_int, x_str, x_loc, List.map_cons, List.map_nil, List.cons_append, List.nil_append, List.replicate, List.set, loc0, locS, okO_some, sok, turn_next, turn_ret, Bool.false_eq_true, if_false, retR_ret, e2]
theorem run_is_whole (hp : Prog.has p "is_whole" d_is_whole) {x a b : Int} (ha : a <= x) (hb : x <= b) : semF p (n + 1) false "is_whole" [.int x, .int a, .int b] h = .ok (.bool true) h := by
  refine xEA (run_at (n := n) (h := h) hp (as := [.int x, .int a, .int b]) rfl) fun F hF e => ?_
  have t1 : ∀ h, isTy h (.int x) .int = some true := fun _ => rfl
  have t2 : ∀ h, isTy h (.int x) .bool = some false := fun _ => rfl
  rw [e]
  simp only [d_is_whole, ss_cons, ss_nil, s_ret, x_loc, x_not, x_and, x_cmp2, x_isi, List.map_cons, List.map_nil, List.cons_append, List.nil_append, loc0, locS, okO_some, bok, sok, turn_ret, boolO_some, notAV_bool, retR_ret, condV_t, cmpAnd_t, Bool.not_false, t1, t2, c_le, decide_eq_true ha, decide_eq_true hb]
theorem run_need_name (hp : Prog.has p "is_name" d_is_name) (hp2 : Prog.has p "need_name" d_need_name) {t : Nm} (G : Good t) : semF p (n + 2) false "need_name" [.str t] h = .ok .none h := by
  refine xEA (run_at (n := n + 1) (h := h) hp2 (as := [.str t]) rfl) fun F hF e => ?_
  rw [e]
  simp only [d_need_name, ss_cons, ss_nil, s_iff, x_loc, x_not, x_call, s_raise, xs_nil, xs_cons, List.map_cons, List.map_nil, List.cons_append, List.nil_append, loc0, okO_some, bok, sok, turn_next, turn_exc, Bool.false_eq_true, if_false, notAV_bool, retR_next, cond_f, Bool.not_true, run_is_name (n := n) hp G]
theorem run_need_value (hp : Prog.has p "is_whole" d_is_whole) (hp2 : Prog.has p "need_value" d_need_value) {v : Int} (h1 : -1000000000 <= v) (h2 : v <= 1000000000) : semF p (n + 2) false "need_value" [.int v] h = .ok .none h := by
  refine xEA (run_at (n := n + 1) (h := h) hp2 (as := [.int v]) rfl) fun F hF e => ?_
  rw [e]
  simp only [d_need_value, ss_cons, ss_nil, s_iff, x_int, x_loc, x_neg, x_not, x_call, s_raise, xs_nil, xs_cons, List.map_cons, List.map_nil, List.cons_append, List.nil_append, loc0, okO_some, bok, sok, turn_next, turn_exc, Bool.false_eq_true, if_false, notAV_bool, negAV_int, retR_next, cond_f, Bool.not_true, run_is_whole (n := n) hp h1 h2]
theorem run_room (hp : Prog.has p "_law_room" d__law_room) {xs : List Int} (hl : xs.length <= 63) {a b : Int} : semF p (n + 1) false "_law_room" [.scr xs, .int a, .int b] h = .ok (.int a) h := by
  refine xEA (run_at (n := n) (h := h) hp (as := [.scr xs, .int a, .int b]) rfl) fun F hF e => ?_
  rw [e]
  simp only [d__law_room, ss_cons, ss_nil, s_ret, s_iff, x_int, x_loc, x_cmp, x_bi, xs_nil, xs_cons, List.map_cons, List.map_nil, List.cons_append, List.nil_append, loc0, locS, okO_some, bok, sok, turn_next, turn_ret, Bool.and_false, Bool.false_eq_true, if_false, boolO_some, retR_ret, cond_f, len_scr (show xs.length <= sizeLim from lim_le (by lia)), c_gt, decide_eq_false (show ¬(63 : Int) < xs.length by lia)]
end
end
section
open PySem Cu
noncomputable def mk {α β : Type} (kf : α -> Key) (vf : β -> AV) (t : List (α × β)) : List (Key × AV) := t.map fun p => (kf p.1, vf p.2)
section
variable {α β : Type} [DecidableEq α] [BEq α] [LawfulBEq α] {kf : α -> Key} {vf : β -> AV}
theorem mk_length {t : List (α × β)} : (mk kf vf t).length = t.length := by simp [mk]
theorem mk_lookup (inj : ∀ a b, kf a = kf b -> a = b) (a : α) : ∀ t : List (α × β), (mk kf vf t).lookup (kf a) = (t.lookup a).map vf
  | [] => rfl
  | (k, v) :: t => by
    have ih := mk_lookup inj a t
    simp only [mk, List.map_cons, List.lookup_cons] at ih |-
    by_cases h : a = k
    . subst h; simp
    . rw [beq_eq_false_iff_ne.mpr h, beq_eq_false_iff_ne.mpr fun e => h (inj _ _ e)]; exact ih
theorem mk_put (inj : ∀ a b, kf a = kf b -> a = b) {t : List (α × β)} {a : α} {b : β} : dictPut (mk kf vf t) (kf a) (vf b) = mk kf vf (put t a b) := by
  have hb : ∀ x : α, (kf x == kf a) = (x == a) := fun x => by
    by_cases h : x = a
    . subst h; simp
    . rw [beq_eq_false_iff_ne.mpr h, beq_eq_false_iff_ne.mpr fun e => h (inj _ _ e)]
  have hany : (mk kf vf t).any (fun p => p.1 == kf a) = t.any (fun p => p.1 == a) := by
    simp only [mk, List.any_map]; congr 1; funext p; exact hb p.1
  unfold dictPut put
  rw [hany]
  split
  . simp only [mk, List.map_map]
    apply List.map_congr_left
    intro p _
    simp only [Function.comp, hb]
    split <;> rfl
  . simp [mk]
theorem mk_sort (hs : ∀ a b, (kf a).sort = (kf b).sort) {t : List (α × β)} {a : α} : sortOk (mk kf vf t) (kf a) = true := by
  simp only [sortOk, mk, List.all_map, List.all_eq_true, Function.comp, beq_iff_eq]
  exact fun p _ => hs _ _
end
noncomputable def sv (s : Seat) : AV := .tup [.int s.1, .int s.2]
noncomputable def kp (s : Seat) : Key := .pair s.1 s.2
theorem kp_inj (a b : Seat) (h : kp a = kp b) : a = b := by
  rcases a with ⟨_, _⟩; rcases b with ⟨_, _⟩; simp only [kp, Key.pair.injEq] at h; rw [h.1, h.2]
theorem ks_inj (a b : Nm) (h : Key.str a = Key.str b) : a = b := Key.str.inj h
theorem sv_key (s : Seat) : (sv s).key? = some (kp s) := rfl
theorem kp_av (s : Seat) : (kp s).av = sv s := rfl
theorem str_key (t : Nm) : (AV.str t).key? = some (.str t) := rfl
abbrev St' := List (Seat × Nm)
abbrev Th := List (Nm × Int)
noncomputable def stK (t : St') : List (Key × AV) := mk kp .str t
noncomputable def thK (t : Th) : List (Key × AV) := mk .str .int t
theorem stK_sort {t : St'} {s : Seat} : sortOk (stK t) (kp s) = true := mk_sort fun _ _ => rfl
theorem thK_sort {t : Th} {s : Nm} : sortOk (thK t) (.str s) = true := mk_sort fun _ _ => rfl
theorem stK_at {t : St'} {s : Seat} : (stK t).lookup (kp s) = (t.lookup s).map .str := mk_lookup kp_inj s t
theorem thK_at {t : Th} {s : Nm} : (thK t).lookup (.str s) = (t.lookup s).map .int := mk_lookup ks_inj s t
theorem stK_put {t : St'} {s : Seat} {x : Nm} : dictPut (stK t) (kp s) (.str x) = stK (put t s x) := mk_put kp_inj
theorem thK_put {t : Th} {s : Nm} {x : Int} : dictPut (thK t) (.str s) (.int x) = thK (put t s x) := mk_put ks_inj
theorem eqv_pair' {h : AHeap} {n : Nat} (a b : Seat) : eqv h (n + 2) (sv a) (sv b) = some (decide (a = b)) := by
  rw [sv, sv, eqv_pair]
  rcases a with ⟨_, _⟩; rcases b with ⟨_, _⟩
  simp only [Prod.mk.injEq, Option.some.injEq]
  rw [Bool.decide_and]
theorem find_map {h : AHeap} {κ : Type} [BEq κ] [LawfulBEq κ] [DecidableEq κ] {g : κ -> AV} (hf : ∀ a b, eqv h eqFuel (g a) (g b) = some (decide (a = b))) (a : κ) : ∀ w : List κ, findEq h (g a) (w.map g) = some (decide (a ∈ w))
  | [] => rfl
  | b :: w => by
    have e : findEq h (g a) ((b :: w).map g) = or2 (eqv h eqFuel (g b) (g a)) (findEq h (g a) (w.map g)) := rfl
    rw [e, find_map hf a w, hf]
    show some (decide (b = a) || decide (a ∈ w)) = _
    simp only [List.mem_cons, Bool.decide_or]
    congr 1
    by_cases h : a = b <;> simp [h, eq_comm]
theorem in_seats {h : AHeap} {n : Nat} {a : Seat} {w : List Seat} (hn : h[n]? = some (.list (w.map sv))) : cmpAV h .isin (sv a) (.loc n) = some (decide (a ∈ w)) := by
  have e : cmpAV h .isin (sv a) (.loc n) = isIn h (sv a) (.loc n) := rfl
  rw [e]
  delta isIn
  dsimp only
  rw [hn]
  exact find_map (fun a b => eqv_pair' (n := 4) a b) a w
theorem notin_tup {h : AHeap} {a : Seat} {w : List Seat} : cmpAV h .notin (sv a) (.tup (w.map sv)) = some (!decide (a ∈ w)) :=
  congrArg (Option.map not) (find_map (fun a b => eqv_pair' (n := 4) a b) a w)
section
variable {h g : AHeap} {o o' : AObj}
theorem get_new : (h ++ [o])[h.length]? = some o := List.getElem?_concat_length
theorem get_old {i : Nat} (e : h[i]? = some o) : (h ++ g)[i]? = some o := by
  rw [List.getElem?_append_left (List.getElem?_eq_some_iff.mp e).1]; exact e
theorem set_new : (h ++ [o]).set h.length o' = h ++ [o'] := by
  rw [List.set_append_right _ _ (Nat.le_refl _), Nat.sub_self]; rfl
theorem get_set {i : Nat} (e : h[i]? = some o) : (h.set i o')[i]? = some o' := by
  rw [List.getElem?_set_self (List.getElem?_eq_some_iff.mp e).1]
theorem get_other {i j : Nat} (e : h[i]? = some o) (hne : j ≠ i) : (h.set j o')[i]? = some o := by
  rw [List.getElem?_set_ne hne]; exact e
theorem get_lt {i : Nat} (e : h[i]? = some o) : i < h.length := (List.getElem?_eq_some_iff.mp e).1
end
structure Tb where
  c : Int
  f : Int
  s : Int
structure Tb.Ok (T : Tb) : Prop where
  c1 : 1 <= T.c
  c2 : T.c <= 1000
  f1 : 1 <= T.f
  f2 : T.f <= 1000000
  s1 : 1 <= T.s
  s2 : T.s <= 1000000
noncomputable def Tb.hm (T : Tb) (t : Nm) (r : Int) : Seat := (r, homeOf t (if r = 0 then T.f else T.s) T.c)
noncomputable def Tb.homes (T : Tb) (t : Nm) : AV := .tup [sv (T.hm t 0), sv (T.hm t 1)]
noncomputable def nsOf (T : Tb) (d e : Nat) : List (Str × AV) := [("things", .loc e), ("standing", .loc d), ("second", .int T.s), ("first", .int T.f), ("count", .int T.c)]
structure TabAt (h : AHeap) (t : Nat) (T : Tb) (d e : Nat) : Prop where
  inst : ∃ k, h[t]? = some (.inst k) /\ h[k]? = some (.ns (nsOf T d e))
theorem TabAt.more {h g : AHeap} {t d e : Nat} {T : Tb} (x : TabAt h t T d e) : TabAt (h ++ g) t T d e := by
  refine xEA x.inst fun k h1 h2 => ?_
  exact ⟨k, get_old h1, get_old h2⟩
theorem TabAt.at {h : AHeap} {t d e : Nat} {T : Tb} (x : TabAt h t T d e) : instAt h t = some (nsOf T d e) := by
  refine xEA x.inst fun k h1 h2 => ?_
  delta instAt; rw [h1]; dsimp only; rw [h2]
theorem TabAt.attr {h : AHeap} {t d e : Nat} {T : Tb} (x : TabAt h t T d e) {a : Str} {v : AV} (hv : (nsOf T d e).lookup a = some v) : attrAV a (.loc t) h = .ok v h := by
  show okO ((instAt h t).bind fun fs => fs.lookup a) h = _
  rw [x.at, Option.bind_some, hv]; rfl
section
variable {h : AHeap} {t d e : Nat} {T : Tb}
theorem TabAt.cnt (x : TabAt h t T d e) : attrAV "count" (.loc t) h = .ok (.int T.c) h := x.attr rfl
theorem TabAt.fst (x : TabAt h t T d e) : attrAV "first" (.loc t) h = .ok (.int T.f) h := x.attr rfl
theorem TabAt.snd (x : TabAt h t T d e) : attrAV "second" (.loc t) h = .ok (.int T.s) h := x.attr rfl
theorem TabAt.std (x : TabAt h t T d e) : attrAV "standing" (.loc t) h = .ok (.loc d) h := x.attr rfl
theorem TabAt.thg (x : TabAt h t T d e) : attrAV "things" (.loc t) h = .ok (.loc e) h := x.attr rfl
theorem TabAt.meth (x : TabAt h t T d e) {m : Str} (hm : ((nsOf T d e).lookup m).isNone = true) : hasMeth m (.loc t) h = true := by
  delta hasMeth; dsimp only; rw [x.at]; exact hm
end
noncomputable def Tb.In (T : Tb) (s : Seat) : Prop := (s.1 = 0 \/ s.1 = 1) /\ 0 <= s.2 /\ s.2 < T.c
theorem Tb.hm_in {T : Tb} (ok : T.Ok) {t : Nm} (G : Good t) {r : Int} (hr : r = 0 \/ r = 1) : T.In (T.hm t r) := ⟨hr, home_in (by have := ok.c1; lia) G.pos⟩
noncomputable def d__init_ : FDef := ⟨4, 4,
  (.cons (.iff (.not (.call "is_whole" (.cons (.loc 1) (.cons (.int 1) (.cons (.int 1000) .nil)))))
    (.cons (.raise "NoNests")
    .nil)
    .nil)
  (.cons (.iff (.or (.not (.call "is_whole" (.cons (.loc 2) (.cons (.int 1) (.cons (.int 1000000) .nil))))) (.not (.call "is_whole" (.cons (.loc 3) (.cons (.int 1) (.cons (.int 1000000) .nil))))))
    (.cons (.raise "NoNests")
    .nil)
    .nil)
  (.cons (.setattr "count" (.loc 0) (.loc 1))
  (.cons (.setattr "first" (.loc 0) (.loc 2))
  (.cons (.setattr "second" (.loc 0) (.loc 3))
  (.cons (.setattr "standing" (.loc 0) .dict0)
  (.cons (.setattr "things" (.loc 0) .dict0)
  .nil)))))))⟩
noncomputable def d_homes : FDef := ⟨2, 2,
  (.cons (.expr (.call "need_name" (.cons (.loc 1) .nil)))
  (.cons (.ret (.tup (.cons (.tup (.cons (.int 0) (.cons (.call "home" (.cons (.loc 1) (.cons (.attr "first" (.loc 0)) (.cons (.attr "count" (.loc 0)) .nil)))) .nil))) (.cons (.tup (.cons (.int 1) (.cons (.call "home" (.cons (.loc 1) (.cons (.attr "second" (.loc 0)) (.cons (.attr "count" (.loc 0)) .nil)))) .nil))) .nil))))
  .nil))⟩
noncomputable def d_need_nest : FDef := ⟨2, 2,
  (.cons (.iff (.or (.not (.isi (.loc 1) .tuple)) (.cmp .ne (.bi .len (.cons (.loc 1) .nil)) (.int 2)))
    (.cons (.raise "NoNest")
    .nil)
    .nil)
  (.cons (.iff (.or (.not (.call "is_whole" (.cons (.sub (.loc 1) (.int 0)) (.cons (.int 0) (.cons (.int 1) .nil))))) (.not (.call "is_whole" (.cons (.sub (.loc 1) (.int 1)) (.cons (.int 0) (.cons (.bin .sub (.attr "count" (.loc 0)) (.int 1)) .nil))))))
    (.cons (.raise "NoNest")
    .nil)
    .nil)
  .nil))⟩
noncomputable def d_at : FDef := ⟨2, 2,
  (.cons (.expr (.im "need_nest" (.loc 0) (.cons (.loc 1) .nil)))
  (.cons (.ret (.bm .get (.attr "standing" (.loc 0)) (.cons (.loc 1) .nil)))
  .nil))⟩
noncomputable def d_many : FDef := ⟨1, 1,
  (.cons (.ret (.bi .len (.cons (.attr "things" (.loc 0)) .nil)))
  .nil)⟩
section
variable {p : Prog} {n : Nat} {h : AHeap} {t d e : Nat} {T : Tb}
theorem set_attr {a : Str} {v : AV} {k : Nat} {fs : List (Str × AV)} (h1 : h[t]? = some (.inst k)) (h2 : h[k]? = some (.ns fs)) : setAttrAV a (.loc t) v h = some (h.set k (.ns ((a, v) :: fs))) := by
  show (nsAt h t).map _ = _
  delta nsAt; rw [h1]; dsimp only; rw [h2]; rfl
theorem tail_set {fs fs' : List (Str × AV)} {g : AHeap} : (h ++ .ns fs :: g).set h.length (.ns fs') = h ++ .ns fs' :: g := by
  rw [List.set_append_right _ _ (Nat.le_refl _), Nat.sub_self]; rfl
theorem attr_new {a : Str} {v : AV} {fs : List (Str × AV)} {g : AHeap} : setAttrAV a (.loc (h.length + 1)) v (h ++ .ns fs :: .inst h.length :: g) = some (h ++ .ns ((a, v) :: fs) :: .inst h.length :: g) := by
  rw [set_attr (k := h.length) (fs := fs) (by rw [List.getElem?_append_right (by lia), Nat.add_sub_cancel_left]; rfl) (by rw [List.getElem?_append_right (Nat.le_refl _), Nat.sub_self]; rfl), tail_set]
theorem run_init (hp : Prog.has p "is_whole" d_is_whole) (hp2 : Prog.has p "__init__" d__init_) (ok : T.Ok) : semF p (n + 2) false "__init__" [.loc (h.length + 1), .int T.c, .int T.f, .int T.s] (made h) =
    .ok .none (h ++ [.ns (nsOf T (h.length + 2) (h.length + 3)), .inst h.length, .dict [] 0, .dict [] 0]) := by
  refine xEA (run_at (n := n + 1) (h := made h) hp2 (as := [.loc (h.length + 1), .int T.c, .int T.f, .int T.s]) rfl) fun F hF e => ?_
  have em : made h = h ++ .ns [] :: .inst h.length :: [] := rfl
  have l1 : ∀ a b : AObj, (h ++ a :: b :: []).length = h.length + 2 := fun a b => by rw [List.length_append]; rfl
  have l2 : ∀ a b c : AObj, (h ++ a :: b :: c :: []).length = h.length + 3 := fun a b c => by rw [List.length_append]; rfl
  rw [e, em]
  simp only [d__init_, ss_cons, ss_nil, s_iff, s_seta, x_int, x_loc, x_not, x_or, x_call, x_dict0, s_raise, xs_nil, xs_cons, List.map_cons, List.map_nil, List.cons_append, List.nil_append, loc0, locS, okO_some, bok, sok, turn_next, turn_exc, Bool.false_eq_true, if_false, heapO_some, notAV_bool, retR_next, cond_f, condV_f, Bool.not_true, run_is_whole (n := n) hp ok.c1 ok.c2, run_is_whole (n := n) hp ok.f1 ok.f2, run_is_whole (n := n) hp ok.s1 ok.s2, attr_new, l1, l2, List.append_assoc]
  rfl
theorem run_homes (hp : Prog.has p "is_name" d_is_name) (hp2 : Prog.has p "need_name" d_need_name) (hp3 : Prog.has p "home" d_home) (hp4 : Prog.has p "homes" d_homes) (ok : T.Ok) (x : TabAt h t T d e) {nm : Nm} (G : Good nm) :
    semF p (n + 3) false "homes" [.loc t, .str nm] h = .ok (T.homes nm) h := by
  refine xEA (run_at (n := n + 2) (h := h) hp4 (as := [.loc t, .str nm]) rfl) fun F hF e => ?_
  rw [e]
  have := ok.c1
  have := ok.f1
  have := ok.f2
  have := ok.s1
  have := ok.s2
  simp only [d_homes, ss_cons, ss_nil, s_expr, s_ret, x_int, x_loc, x_call, x_attr, x_tup, xs_nil, xs_cons, List.map_cons, List.map_nil, List.cons_append, List.nil_append, loc0, locS, okO_some, bok, sok, turn_next, turn_ret, retR_ret, tup2, run_need_name (n := n) hp hp2 G, x.cnt, x.fst, x.snd, run_home (n := n + 1) hp3 G (times := T.f) (count := T.c) (by omega) (by lia), run_home (n := n + 1) hp3 G (times := T.s) (count := T.c) (by omega) (by lia)]
  rfl
theorem run_need_nest (hp : Prog.has p "is_whole" d_is_whole) (hp2 : Prog.has p "need_nest" d_need_nest) (x : TabAt h t T d e) {s : Seat} (hs : T.In s) : semF p (n + 2) false "need_nest" [.loc t, sv s] h = .ok .none h := by
  refine xEA (run_at (n := n + 1) (h := h) hp2 (as := [.loc t, sv s]) rfl) fun F hF e => ?_
  rw [e]
  have t1 : ∀ h, isTy h (sv s) .tuple = some true := fun _ => rfl
  have t2 : biAV .len [sv s] h = .ok (.int 2) h := rfl
  have t3 : cmpAV h .ne (.int 2) (.int 2) = some false := rfl
  have t4 : subAV (sv s) (.int 0) h = .ok (.int s.1) h := rfl
  have t5 : subAV (sv s) (.int 1) h = .ok (.int s.2) h := rfl
  refine xAA hs fun h1 h2 h3 => ?_
  simp only [d_need_nest, ss_cons, ss_nil, s_iff, x_int, x_loc, x_bin, x_not, x_or, x_cmp, x_call, x_bi, x_isi, x_attr, x_sub, s_raise, xs_nil, xs_cons, List.map_cons, List.map_nil, List.cons_append, List.nil_append, loc0, locS, okO_some, bok, sok, turn_next, turn_exc, Bool.and_false, Bool.false_eq_true, if_false, boolO_some, notAV_bool, retR_next, cond_f, condV_f, b_sub, Bool.not_true, t1, t2, t3, t4, t5, x.cnt, run_is_whole (n := n) hp (show 0 <= s.1 by lia) (show s.1 <= 1 by lia), run_is_whole (n := n) hp h2 (show s.2 <= T.c - 1 by lia)]
noncomputable def optS (o : Option Nm) : AV := match o with
  | some x => .str x
  | none => .none
theorem bmOk_get {i ep : Nat} {kvs : List (Key × AV)} (hd : h[i]? = some (.dict kvs ep)) : bmOk .get (.loc i) h = true := by
  show (dictAt h i).isSome = true
  rw [dictAt_of hd]; rfl
theorem get_st {i ep : Nat} {st : St'} {s : Seat} (hd : h[i]? = some (.dict (stK st) ep)) : bmAV .get (.loc i) [sv s] h = .ok (optS (st.lookup s)) h := by
  show getAV (.loc i) [sv s] h = _
  delta getAV; dsimp only
  rw [dictAt_of hd]
  show okO (if sortOk (stK st) (kp s) then some (((stK st).lookup (kp s)).getD .none) else none) h = _
  rw [if_pos stK_sort, stK_at]
  rcases st.lookup s with _ | _ <;> rfl
theorem run_at' (hp : Prog.has p "is_whole" d_is_whole) (hp2 : Prog.has p "need_nest" d_need_nest) (hp3 : Prog.has p "at" d_at) (x : TabAt h t T d e) {st : St'} {ep : Nat} (hd : h[d]? = some (.dict (stK st) ep)) {s : Seat} (hs : T.In s) :
    semF p (n + 3) false "at" [.loc t, sv s] h = .ok (optS (st.lookup s)) h := by
  refine xEA (run_at (n := n + 2) (h := h) hp3 (as := [.loc t, sv s]) rfl) fun F hF e => ?_
  rw [e]
  simp only [d_at, ss_cons, ss_nil, s_expr, s_ret, x_loc, x_im, x_bm, x_attr, xs_nil, xs_cons, List.map_cons, List.map_nil, List.cons_append, List.nil_append, loc0, locS, okO_some, bok, sok, turn_next, turn_ret, retR_ret, if_true, x.meth (m := "need_nest") rfl, run_need_nest (n := n) hp hp2 x hs, x.std, bmOk_get hd, get_st hd]
theorem run_many (hp : Prog.has p "many" d_many) (x : TabAt h t T d e) {th : Th} {ep : Nat} (he : h[e]? = some (.dict (thK th) ep)) : semF p (n + 1) false "many" [.loc t] h = .ok (.int th.length) h := by
  refine xEA (run_at (n := n) (h := h) hp (as := [.loc t]) rfl) fun F hF e1 => ?_
  rw [e1]
  have hl : biAV .len [.loc e] h = .ok (.int th.length) h := by
    show lenAV (.loc e) h = _
    delta lenAV; dsimp only; rw [he]; dsimp only; rw [thK, mk_length]
  simp only [d_many, ss_cons, ss_nil, s_ret, x_loc, x_bi, x_attr, xs_nil, xs_cons, List.map_cons, List.map_nil, List.cons_append, List.nil_append, loc0, okO_some, bok, sok, turn_ret, Bool.and_false, Bool.false_eq_true, if_false, retR_ret, x.thg, hl]
end
end
section
open PySem Cu
noncomputable def b_way_1 : Ss :=
  (.cons (.asg 3 (.sub (.im "homes" (.loc 0) (.cons (.sub (.attr "standing" (.loc 0)) (.sub (.loc 2) (.neg (.int 1)))) .nil)) (.bin .sub (.int 1) (.sub (.sub (.loc 2) (.neg (.int 1))) (.int 0)))))
  (.cons (.iff (.cmp .isin (.loc 3) (.loc 2))
    (.cons (.ret (.loc 2))
    .nil)
    .nil)
  (.cons (.expr (.bm .append (.loc 2) (.cons (.loc 3) .nil)))
  .nil)))
noncomputable def t_way_1 : X := (.cmp .isin (.sub (.loc 2) (.neg (.int 1))) (.attr "standing" (.loc 0)))
noncomputable def d_way : FDef := ⟨2, 4,
  (.cons (.expr (.im "need_nest" (.loc 0) (.cons (.loc 1) .nil)))
  (.cons (.asg 2 (.list (.cons (.loc 1) .nil)))
  (.cons (.whil t_way_1 b_way_1)
  (.cons (.ret (.loc 2))
  .nil))))⟩
noncomputable def StOk (st : St') : Prop := ∀ s nm, st.lookup s = some nm -> Good nm /\ (s.1 = 0 \/ s.1 = 1)
structure HasT (p : Prog) : Prop where
  a : Prog.has p "is_name" d_is_name
  b : Prog.has p "home" d_home
  c : Prog.has p "is_whole" d_is_whole
  d : Prog.has p "need_name" d_need_name
  f : Prog.has p "need_value" d_need_value
  g : Prog.has p "homes" d_homes
  i : Prog.has p "need_nest" d_need_nest
section
variable {p : Prog} {n : Nat} {h : AHeap} {t d e : Nat} {T : Tb}
theorem at_map {w : List Seat} {i : Nat} {s : Seat} (h : w[i]? = some s) : (w.map sv)[i]? = some (sv s) := by rw [List.getElem?_map, h]; rfl
theorem last_sub {a : Nat} {w : List Seat} {s : Seat} (hl : w.length <= 2000) (ha : h[a]? = some (.list (w.map sv))) (hs : w[w.length - 1]? = some s) : subAV (.loc a) (.int (-1)) h = .ok (sv s) h :=
  sub_last (lim_le (by rw [List.length_map]; lia)) ha (by rw [List.length_map]; exact at_map hs)
theorem st_get {a : Nat} {st : St'} {ep : Nat} {s : Seat} {m : Nm} (ha : h[a]? = some (.dict (stK st) ep)) (hs : st.lookup s = some m) : subAV (.loc a) (sv s) h = .ok (.str m) h :=
  sub_dict ha (sv_key s) stK_sort (by rw [stK_at, hs]; rfl)
theorem st_in {a : Nat} {st : St'} {ep : Nat} {s : Seat} (ha : h[a]? = some (.dict (stK st) ep)) : cmpAV h .isin (sv s) (.loc a) = some (st.lookup s).isSome := by
  rw [in_dict' ha (sv_key s) stK_sort, stK_at, Option.isSome_map]
theorem st_notin {a : Nat} {st : St'} {ep : Nat} {s : Seat} (ha : h[a]? = some (.dict (stK st) ep)) : cmpAV h .notin (sv s) (.loc a) = some (!(st.lookup s).isSome) := by
  rw [notin_dict' ha (sv_key s) stK_sort, stK_at, Option.isSome_map]
theorem sv0 {s : Seat} : subAV (sv s) (.int 0) h = .ok (.int s.1) h := rfl
theorem homes_at {nm : Nm} {r : Int} (hr : r = 0 \/ r = 1) : subAV (T.homes nm) (.int r) h = .ok (sv (T.hm nm r)) h := by
  rcases hr with rfl | rfl <;> rfl
theorem other_row {r : Int} (hr : r = 0 \/ r = 1) : 1 - r = 0 \/ 1 - r = 1 := by lia
theorem bmOk_append {i : Nat} {x : List AV} (hd : h[i]? = some (.list x)) : bmOk .append (.loc i) h = true := by
  show (listAt h i).isSome = true
  rw [listAt_of hd]; rfl
theorem add_seat {w : List Seat} {s : Seat} (hl : w.length <= 2000) : bmAV .append (.loc h.length) [sv s] (h ++ [.list (w.map sv)]) = .ok .none (h ++ [.list ((w ++ [s]).map sv)]) := by
  rw [show bmAV .append (.loc h.length) [sv s] (h ++ [.list (w.map sv)]) = _ from append_ok get_new (lim_lt (by rw [List.length_map]; lia)), set_new, List.map_append]; rfl
theorem list1 {v : AV} : newList [v] h = .ok (.loc h.length) (h ++ [.list [v]]) := newList_ok (by show 1 <= sizeLim; decide)
theorem way_loop (H : HasT p) (ok : T.Ok) {st : St'} {ep : Nat} (so : StOk st) (x : TabAt h t T d e) (hd : h[d]? = some (.dict (stK st) ep)) (hl : st.length <= 1000) {s0 : Seat} {F : Nat} :
    ∀ k f w v, Way T.hm st s0 w -> k <= f -> st.length + 1 < k + w.length ->
      ∃ fl v', whileLoop (fun l h => (evalX (cF p (n + 3) F) t_way_1 l h).noExc) (fun l h => (execSs (cF p (n + 3) F) b_way_1 l h).noExc) f
          [some (.loc t), some (sv s0), some (.loc h.length), v] (h ++ [.list (w.map sv)]) = .ok fl [some (.loc t), some (sv s0), some (.loc h.length), v'] (h ++ [.list ((wayGo T.hm st k w).map sv)]) /\
        (fl = .next \/ fl = .ret (.loc h.length)) := by
  intro k
  induction k with
  | zero => intro f w v W _ hf; have := W.short; omega
  | succ k ih =>
    intro f w v W hkf hf
    obtain ⟨f, rfl⟩ : ∃ g, f = g + 1 := ⟨f - 1, by lia⟩
    have hws := W.short
    have hwl : w.length <= 2000 := by lia
    refine xE W.last fun s hs => ?_
    have x' := x.more (g := [.list (w.map sv)])
    have hd' := get_old (g := [.list (w.map sv)]) hd
    have hL := last_sub hwl (get_new (h := h) (o := .list (w.map sv))) hs
    have e1 : ∀ (y : SR), whileLoop (fun l h => (evalX (cF p (n + 3) F) t_way_1 l h).noExc) (fun l h => (execSs (cF p (n + 3) F) b_way_1 l h).noExc) (f + 1)
          [some (.loc t), some (sv s0), some (.loc h.length), v] (h ++ [.list (w.map sv)]) = condS (.bool (st.lookup s).isSome) ((execSs (cF p (n + 3) F) b_way_1 [some (.loc t), some (sv s0), some (.loc h.length), v] (h ++ [.list (w.map sv)])).noExc.lap
            (whileLoop (fun l h => (evalX (cF p (n + 3) F) t_way_1 l h).noExc) (fun l h => (execSs (cF p (n + 3) F) b_way_1 l h).noExc) f)) (.ok .next [some (.loc t), some (sv s0), some (.loc h.length), v] (h ++ [.list (w.map sv)])) := by
      intro _
      show (Res.st (Res.noExc (evalX _ _ _ _)) _ _) = _
      simp only [nx_ok, t_way_1, x_cmp, x_sub, x_neg, x_int, x_loc, x_attr, loc0, locS, okO_some, bok, negAV_int, hL, x'.std, st_in hd', boolO_some, sok]
    rw [e1 .bad]
    rcases hn : st.lookup s with _ | nm
    case none =>
      rw [Option.isSome_none, cond_f, go_free hs hn]
      exact ⟨_, v, rfl, .inl rfl⟩
    case some =>
      refine xA (so s nm hn) fun G hrow => ?_
      rw [Option.isSome_some, cond_t]
      have hh := run_homes (n := n) (h := h ++ [.list (w.map sv)]) H.a H.d H.b H.g ok x' G
      by_cases hin : T.hm nm (1 - s.1) ∈ w
      . rw [go_shut hs hn hin]
        refine ⟨_, some (sv (T.hm nm (1 - s.1))), ?_, .inr rfl⟩
        simp only [b_way_1, ss_cons, ss_nil, s_expr, s_ret, s_asg, s_iff, x_int, x_loc, x_bin, x_neg, x_cmp, x_im, x_bm, x_attr, x_sub, xs_nil, xs_cons, List.set, loc0, locS, okO_some, bok, sok, turn_next, turn_ret, lap_ret, nx_s, boolO_some, negAV_int, cond_t, b_sub, if_true, hL, x'.std, x'.meth (m := "homes") rfl, st_get hd' hn, sv0, hh, homes_at (other_row hrow), in_seats get_new, decide_eq_true hin]
      . rw [go_on hs hn hin]
        refine xEEA (ih f (w ++ [T.hm nm (1 - s.1)]) (some (sv (T.hm nm (1 - s.1)))) (W.snoc hs hn hin) (by lia) (by rw [List.length_append, List.length_singleton]; lia)) fun fl v' e r => ?_
        refine ⟨fl, v', ?_, r⟩
        rw [<- e]
        simp only [b_way_1, ss_cons, ss_nil, s_expr, s_ret, s_asg, s_iff, x_int, x_loc, x_bin, x_neg, x_cmp, x_im, x_bm, x_attr, x_sub, xs_nil, xs_cons, List.set, loc0, locS, okO_some, bok, sok, turn_next, turn_ret, lap_next, nx_s, boolO_some, negAV_int, cond_f, b_sub, if_true, hL, x'.std, x'.meth (m := "homes") rfl, st_get hd' hn, sv0, hh, homes_at (other_row hrow), in_seats get_new, decide_eq_false hin, bmOk_append get_new, add_seat hwl]
theorem run_way (H : HasT p) (hp : Prog.has p "way" d_way) (ok : T.Ok) {st : St'} {ep : Nat} (so : StOk st) (x : TabAt h t T d e) (hd : h[d]? = some (.dict (stK st) ep)) (hl : st.length <= 1000) {s : Seat} (hs : T.In s) :
    semF p (n + 4) false "way" [.loc t, sv s] h = .ok (.loc h.length) (h ++ [.list ((wayOf T.hm st s).map sv)]) := by
  refine xEA (run_at (n := n + 3) (h := h) hp (as := [.loc t, sv s]) rfl) fun F hF e => ?_
  refine xEEA (way_loop (n := n) (s0 := s) H ok so x hd hl (F := F) (st.length + 1) F [s] none (Way.one st s) (by lia) (by rw [List.length_singleton]; lia)) fun fl v e2 hfl => ?_
  rw [List.map_cons, List.map_nil] at e2
  rw [e]
  simp only [d_way, ss_cons, ss_nil, s_expr, s_ret, s_asg, s_whil, x_loc, x_im, x_list, xs_nil, xs_cons, List.map_cons, List.map_nil, List.cons_append, List.nil_append, List.replicate, List.set, loc0, locS, okO_some, bok, sok, turn_next, if_true, x.meth (m := "need_nest") rfl, run_need_nest (n := n + 1) H.c H.i x hs, list1, e2]
  rcases hfl with rfl | rfl
  . simp only [loc0, locS, okO_some, sok, turn_next, turn_ret, retR_ret]; rfl
  . simp only [turn_ret, retR_ret]; rfl
noncomputable def HomesAt (h : AHeap) (i : Nat) (T : Tb) (ns : List Nm) : Prop := ∃ kvs ep, h[i]? = some (.dict kvs ep) /\ (∀ nm, sortOk kvs (.str nm) = true) /\ ∀ nm ∈ ns, kvs.lookup (.str nm) = some (T.homes nm)
theorem HomesAt.more {i : Nat} {ns : List Nm} {g : AHeap} (x : HomesAt h i T ns) : HomesAt (h ++ g) i T ns := xEEA x fun kvs ep h1 h2 => ⟨kvs, ep, get_old h1, h2⟩
theorem HomesAt.get {i : Nat} {ns : List Nm} (x : HomesAt h i T ns) {nm : Nm} (hn : nm ∈ ns) : subAV (.loc i) (.str nm) h = .ok (T.homes nm) h := by
  refine xEEAA x fun kvs ep h1 h2 h3 => ?_
  exact sub_dict h1 (str_key nm) (h2 nm) (h3 nm hn)
end
end
section
open PySem Cu
noncomputable def d__law_table : FDef := ⟨1, 4,
  (.cons (.asg 1 (.bin .add (.int 1) (.bin .mod (.call "_law_cell_at" (.cons (.loc 0) (.cons (.int 0) .nil))) (.int 6))))
  (.cons (.iff (.cmp .eq (.bin .mod (.bin .div (.call "_law_cell_at" (.cons (.loc 0) (.cons (.int 0) .nil))) (.int 6)) (.int 8)) (.int 1))
    (.cons (.asg 1 (.bin .add (.int 1) (.bin .mod (.bin .div (.call "_law_cell_at" (.cons (.loc 0) (.cons (.int 0) .nil))) (.int 48)) (.int 1000))))
    .nil)
    .nil)
  (.cons (.asg 2 (.bin .add (.int 1) (.bin .mod (.call "_law_mixed" (.cons (.call "_law_cell_at" (.cons (.loc 0) (.cons (.int 1) .nil))) (.cons (.int 1) .nil))) (.sub (.list (.cons (.int 7) (.cons (.int 1000000) .nil))) (.bin .mod (.call "_law_cell_at" (.cons (.loc 0) (.cons (.int 1) .nil))) (.int 2))))))
  (.cons (.asg 3 (.bin .add (.int 1) (.bin .mod (.call "_law_mixed" (.cons (.call "_law_cell_at" (.cons (.loc 0) (.cons (.int 2) .nil))) (.cons (.int 2) .nil))) (.sub (.list (.cons (.int 9) (.cons (.int 1000000) .nil))) (.bin .mod (.call "_law_cell_at" (.cons (.loc 0) (.cons (.int 2) .nil))) (.int 2))))))
  (.cons (.ret (.tup (.cons (.loc 1) (.cons (.loc 2) (.cons (.loc 3) .nil)))))
  .nil)))))⟩
noncomputable def b__law_homes_1 : Ss :=
  (.cons (.setitem (.loc 2) (.loc 3) (.tup (.cons (.tup (.cons (.int 0) (.cons (.call "_law_home" (.cons (.loc 3) (.cons (.sub (.loc 1) (.int 1)) (.cons (.sub (.loc 1) (.int 0)) .nil)))) .nil))) (.cons (.tup (.cons (.int 1) (.cons (.call "_law_home" (.cons (.loc 3) (.cons (.sub (.loc 1) (.int 2)) (.cons (.sub (.loc 1) (.int 0)) .nil)))) .nil))) .nil))))
  .nil)
noncomputable def d__law_homes : FDef := ⟨2, 4,
  (.cons (.asg 2 .dict0)
  (.cons (.forr 3 (.loc 0) b__law_homes_1)
  (.cons (.ret (.loc 2))
  .nil)))⟩
section
variable {p : Prog} {n : Nat} {h : AHeap} {t d e : Nat} {T : Tb}
noncomputable def keysOf (st : St') : List Seat := st.map (·.1)
theorem walk_st {i ep : Nat} {st : St'} (hd : h[i]? = some (.dict (stK st) ep)) : walkOf h i = some ((keysOf st).map sv) := by
  rw [walk_dict hd, stK, mk, keysOf, List.map_map, List.map_map]; rfl
theorem keys_len {st : St'} : (keysOf st).length = st.length := List.length_map ..
theorem in_keys {st : St'} {s : Seat} (h : s ∈ keysOf st) : ∃ nm, st.lookup s = some nm := by
  rcases hq : st.lookup s with _ | nm
  case some => exact ⟨nm, rfl⟩
  case none => exact absurd h (lookup_none.mp hq)
theorem pick {a b i : Int} (hi : i = 0 \/ i = 1) : ∃ m : Int, (m = a \/ m = b) /\ subAV (.loc h.length) (.int i) (h ++ [.list [.int a, .int b]]) = .ok (.int m) (h ++ [.list [.int a, .int b]]) := by
  have hL : (h ++ [.list [.int a, .int b]])[h.length]? = some (.list [.int a, .int b]) := get_new
  rcases hi with rfl | rfl
  . exact ⟨a, .inl rfl, sub_list (by show 2 <= sizeLim; decide) hL (by decide) rfl⟩
  . exact ⟨b, .inr rfl, sub_list (by show 2 <= sizeLim; decide) hL (by decide) rfl⟩
theorem two_list {a b : Int} : newList [.int a, .int b] h = .ok (.loc h.length) (h ++ [.list [.int a, .int b]]) := newList_ok (by show 2 <= sizeLim; decide)
theorem two_mod (x : Int) : x.fmod 2 = 0 \/ x.fmod 2 = 1 := by have := fmod_bound x (m := 2) (by decide); lia
theorem run_law_table (hp : Prog.has p "_law_cell_at" d__law_cell_at) (hp2 : Prog.has p "_law_mixed" d__law_mixed) (hp3 : Prog.has p "_law_table" d__law_table) {xs : List Int} (hl : xs.length <= 63) :
    ∃ T : Tb, T.Ok /\ ∃ a b, semF p (n + 2) false "_law_table" [.scr xs] h = .ok (.tup [.int T.c, .int T.f, .int T.s]) (h ++ [a, b]) := by
  refine xEA (run_in (n := n + 1) (h := h) hp3 (as := [.scr xs]) [some (.scr xs), none, none, none] rfl rfl) fun F hF e => ?_
  have c0 : ∀ h : AHeap, semF p (n + 1) false "_law_cell_at" [.scr xs, .int 0] h = .ok (.int (cellAt xs 0)) h := fun h => run_cell_at (n := n) (h := h) hp hl 0
  have c1 : ∀ h : AHeap, semF p (n + 1) false "_law_cell_at" [.scr xs, .int 1] h = .ok (.int (cellAt xs 1)) h := fun h => run_cell_at (n := n) (h := h) hp hl 1
  have c2 : ∀ h : AHeap, semF p (n + 1) false "_law_cell_at" [.scr xs, .int 2] h = .ok (.int (cellAt xs 2)) h := fun h => run_cell_at (n := n) (h := h) hp hl 2
  refine xEA (pick (h := h) (a := 7) (b := 1000000) (two_mod (cellAt xs 1))) fun m1 hm1 p1 => ?_
  refine xEA (pick (h := h ++ [.list [.int 7, .int 1000000]]) (a := 9) (b := 1000000) (two_mod (cellAt xs 2))) fun m2 hm2 p2 => ?_
  have b0 := fmod_bound (cellAt xs 0) (m := 6) (by decide)
  have b3 := fmod_bound ((cellAt xs 0).fdiv 48) (m := 1000) (by decide)
  have b1 := fmod_bound (mixed (cellAt xs 1) 1) (m := m1) (by lia)
  have b2 := fmod_bound (mixed (cellAt xs 2) 2) (m := m2) (by lia)
  have hc : ∃ c : Int, 1 <= c /\ c <= 1000 /\ c = (if ((cellAt xs 0).fdiv 6).fmod 8 = 1 then 1 + ((cellAt xs 0).fdiv 48).fmod 1000 else 1 + (cellAt xs 0).fmod 6) := by
    refine ⟨_, ?_, ?_, rfl⟩ <;> split <;> omega
  obtain ⟨c, hc1, hc2, hc⟩ := hc
  refine ⟨⟨c, 1 + (mixed (cellAt xs 1) 1).fmod m1, 1 + (mixed (cellAt xs 2) 2).fmod m2⟩, ⟨hc1, hc2, ?_, ?_, ?_, ?_⟩, .list [.int 7, .int 1000000], .list [.int 9, .int 1000000], ?_⟩
  . show 1 <= 1 + _; omega
  . show 1 + _ <= 1000000; lia
  . show 1 <= 1 + _; omega
  . show 1 + _ <= 1000000; lia
  rw [e, d__law_table]
  refine (congrArg retR ((ss_step (l' := [some (.scr xs), some (.int (1 + (cellAt xs 0).fmod 6)), none, none]) (h' := h) ?_).trans ((ss_step (l' := [some (.scr xs), some (.int c), none, none]) (h' := h) ?_).trans
    ((ss_step (l' := [some (.scr xs), some (.int c), some (.int (1 + (mixed (cellAt xs 1) 1).fmod m1)), none]) (h' := h ++ [.list [.int 7, .int 1000000]]) ?_).trans
    ((ss_step (l' := [some (.scr xs), some (.int c), some (.int (1 + (mixed (cellAt xs 1) 1).fmod m1)), some (.int (1 + (mixed (cellAt xs 2) 2).fmod m2))]) (h' := h ++ [.list [.int 7, .int 1000000]] ++ [.list [.int 9, .int 1000000]]) ?_).trans rfl))))).trans ?_
  . simp only [s_asg, x_int, x_loc, x_bin, x_call, xs_nil, xs_cons, List.set, loc0, okO_some, bok, sok, b_add, c0, b_mod (y := 6) (by decide)]
  . rw [s_iff, hc]
    simp only [ss_cons, ss_nil, s_asg, x_int, x_loc, x_bin, x_cmp, x_call, xs_nil, xs_cons, List.set, loc0, okO_some, bok, sok, turn_next, boolO_some, b_add, c0, b_mod (y := 8) (by decide), b_div (y := 6) (by decide), c_eqi, b_div (y := 48) (by decide), b_mod (y := 1000) (by decide), cond_if]
    split <;> rfl
  . simp only [s_asg, x_int, x_loc, x_bin, x_call, x_sub, x_list, xs_nil, xs_cons, List.set, loc0, okO_some, bok, sok, b_add, c1, run_mixed (n := n) hp2, two_list, b_mod (y := 2) (by decide), p1, b_mod (show m1 ≠ 0 by omega)]
  . simp only [s_asg, x_int, x_loc, x_bin, x_call, x_sub, x_list, xs_nil, xs_cons, List.set, loc0, okO_some, bok, sok, b_add, c2, run_mixed (n := n) hp2, two_list, b_mod (y := 2) (by decide), p2, b_mod (show m2 ≠ 0 by omega)]
  . simp only [ss_cons, ss_nil, s_ret, x_loc, x_tup, xs_nil, xs_cons, List.cons_append, List.nil_append, loc0, locS, okO_some, bok, sok, turn_ret, retR_ret, tup3, List.append_assoc]
inductive HomInv (h : AHeap) (a : Nat) (T : Tb) (ns : List Nm) (k : Nat) : Locs -> AHeap -> Prop
  | mk (v : Option AV) (ks : List (Nm × Nm)) (ep : Nat) (hl : ks.length <= k) (hq : ∀ q ∈ ks, q.1 = q.2) (hk : ∀ nm ∈ ns.take k, (ks.lookup nm).isSome = true) :
      HomInv h a T ns k [some (.loc a), some (.tup [.int T.c, .int T.f, .int T.s]), some (.loc h.length), v] (h ++ [.dict (Mine.Internal.mk .str T.homes ks) ep])
theorem run_law_homes (hp : Prog.has p "_law_home" d__law_home) (hp2 : Prog.has p "_law_homes" d__law_homes) (ok : T.Ok) {a : Nat} {ns : List Nm} (hn : ∀ nm ∈ ns, Good nm) (hl : ns.length <= 100) (ha : h[a]? = some (.list (ns.map .str))) :
    ∃ kvs ep, semF p (n + 2) false "_law_homes" [.loc a, .tup [.int T.c, .int T.f, .int T.s]] h = .ok (.loc h.length) (h ++ [.dict kvs ep]) /\ (∀ nm, sortOk kvs (.str nm) = true) /\ ∀ nm ∈ ns, kvs.lookup (.str nm) = some (T.homes nm) := by
  refine xEA (run_at (n := n + 1) (h := h) hp2 (as := [.loc a, .tup [.int T.c, .int T.f, .int T.s]]) rfl) fun F hF e => ?_
  have := ok.c1
  have := ok.f1
  have := ok.f2
  have := ok.s1
  have := ok.s2
  obtain ⟨l', h', e2, I2⟩ := forLoop_all (i := 3) (src := .loc a) (items := ns.map AV.str) (body := fun l h => execSs (cF p (n + 1) F) b__law_homes_1 l h)
    (HomInv h a T ns) (fun k l h' hI => by cases hI; exact next_list (get_old ha)) (fun k v l h' hv hI => by
      cases hI with
      | mk v' ks ep hkl hq hk =>
      rw [List.getElem?_map] at hv
      refine xEA (Option.map_eq_some_iff.mp hv) fun nm hnm qq1 => ?_; subst qq1
      have G := hn nm (List.mem_of_getElem? hnm)
      have hkn := (List.getElem?_eq_some_iff.mp hnm).1
      have t0 : ∀ h : AHeap, subAV (.tup [.int T.c, .int T.f, .int T.s]) (.int 0) h = .ok (.int T.c) h := fun _ => rfl
      have t1 : ∀ h : AHeap, subAV (.tup [.int T.c, .int T.f, .int T.s]) (.int 1) h = .ok (.int T.f) h := fun _ => rfl
      have t2 : ∀ h : AHeap, subAV (.tup [.int T.c, .int T.f, .int T.s]) (.int 2) h = .ok (.int T.s) h := fun _ => rfl
      refine xE (set_dict (h := h ++ [.dict (mk .str T.homes ks) ep]) (v := T.homes nm) get_new (str_key nm) (mk_sort fun _ _ => rfl) (by rw [mk_length]; unfold sizeLim; lia)) fun ep' hset => ?_
      rw [mk_put ks_inj, set_new] at hset
      have hset : setItemAV (.loc h.length) (.str nm) (.tup [.tup [.int 0, .int (homeOf nm T.f T.c)], .tup [.int 1, .int (homeOf nm T.s T.c)]]) (h ++ [.dict (mk .str T.homes ks) ep]) = some (h ++ [.dict (mk .str T.homes (put ks nm nm)) ep']) := hset
      refine ⟨_, _, ?_, HomInv.mk (some (.str nm)) (put ks nm nm) ep' ?_ ?_ ?_⟩
      . simp only [b__law_homes_1, ss_cons, ss_nil, s_set, x_int, x_loc, x_call, x_sub, x_tup, xs_nil, xs_cons, List.set, loc0, locS, okO_some, bok, sok, turn_next, heapO_some, tup2, t0, t1, t2, run_law_home (n := n) hp G (times := T.f) (count := T.c) (by omega) (by lia), run_law_home (n := n) hp G (times := T.s) (count := T.c) (by omega) (by lia), hset]
      . have := put_length (t := ks) (a := nm) (b := nm)
        split at this <;> lia
      . intro q hq'
        unfold put at hq'
        split at hq'
        . refine xEA (List.mem_map.mp hq') fun r hr qq1 => ?_; subst qq1
          split
          . rename_i hb; exact eq_of_beq hb
          . exact hq r hr
        . rcases List.mem_append.mp hq' with h1 | h1
          . exact hq q h1
          . rcases List.mem_singleton.mp h1 with rfl; rfl
      . intro x hx
        rw [put_lookup]
        split
        . rfl
        . rename_i hne
          rw [List.take_add_one, hnm, Option.toList_some, List.mem_append, List.mem_singleton] at hx
          exact hk x (hx.resolve_right hne)) (f := F)
    (l := [some (.loc a), some (.tup [.int T.c, .int T.f, .int T.s]), some (.loc h.length), none]) (h := h ++ [.dict [] 0]) (by rw [List.length_map]; lia) (HomInv.mk (k := 0) none [] 0 (Nat.le_refl _) (fun q hq => nomatch hq) (fun nm hnm => nomatch hnm))
  cases I2 with
  | mk v ks ep hkl hq hk =>
  rw [List.length_map, List.take_length] at hk
  refine ⟨mk .str T.homes ks, ep, ?_, fun nm => mk_sort fun _ _ => rfl, fun nm hnm => ?_⟩
  . rw [e]
    simp only [d__law_homes, ss_cons, ss_nil, s_ret, s_asg, s_for, x_loc, x_dict0, List.map_cons, List.map_nil, List.cons_append, List.nil_append, List.replicate, List.set, loc0, locS, okO_some, sok, turn_next, turn_ret, Bool.false_eq_true, if_false, retR_ret, e2]
  . refine xE (Option.isSome_iff_exists.mp (hk nm hnm)) fun m hm => ?_
    have hq : nm = m := hq _ (lookup_mem hm)
    rw [mk_lookup ks_inj, hm, <- hq]; rfl
end
end
section
open PySem Cu
noncomputable def b__law_names_1 : Ss :=
  (.cons (.asg 3 (.bin .add (.loc 3) (.sub (.loc 2) (.bin .mod (.bin .div (.call "_law_mixed" (.cons (.loc 0) (.cons (.loc 4) .nil))) (.int 31)) (.int 36)))))
  .nil)
noncomputable def b__law_names_2 : Ss :=
  (.cons (.asg 7 (.call "_law_mixed" (.cons (.loc 0) (.cons (.bin .add (.int 50) (.loc 4)) .nil))))
  (.cons (.asg 8 (.sub (.loc 2) (.bin .mod (.bin .add (.bin .div (.loc 0) (.int 110)) (.loc 4)) (.int 36))))
  (.cons (.iff (.cmp .gt (.bin .mod (.bin .div (.loc 0) (.int 3960)) (.int 3)) (.int 0))
    (.cons (.asg 8 (.bin .add (.bin .add (.sub (.loc 2) (.bin .mod (.bin .div (.loc 7) (.int 7)) (.int 36))) (.sub (.loc 2) (.bin .mod (.bin .div (.loc 7) (.int 301)) (.int 36)))) (.loc 8)))
    .nil)
    .nil)
  (.cons (.expr (.bm .append (.loc 6) (.cons (.bin .add (.bin .add (.slice (.loc 3) .none (.loc 5)) (.loc 8)) (.slice (.loc 3) (.loc 5) .none)) .nil)))
  .nil))))
noncomputable def d__law_names : FDef := ⟨2, 9,
  (.cons (.asg 2 (.str signs))
  (.cons (.asg 3 (.str []))
  (.cons (.forr 4 (.range (.cons (.bin .mod (.loc 0) (.int 10)) .nil)) b__law_names_1)
  (.cons (.asg 5 (.bin .mod (.bin .div (.loc 0) (.int 10)) (.int 11)))
  (.cons (.asg 6 (.list .nil))
  (.cons (.forr 4 (.range (.cons (.loc 1) .nil)) b__law_names_2)
  (.cons (.ret (.loc 6))
  .nil)))))))⟩
section
variable {p : Prog} {n : Nat} {h : AHeap} {t d e : Nat} {T : Tb}
theorem pos_mod (x : Int) {m : Int} (hm : 0 < m) : ∃ k : Nat, x.fmod m = k /\ (k : Int) < m := by
  have := fmod_bound x hm
  exact ⟨(x.fmod m).toNat, by omega, by omega⟩
theorem sign_at (x : Int) : ∃ c, c ∈ signs /\ ∀ h : AHeap, subAV (.str signs) (.int (x.fmod 36)) h = .ok (.str [c]) h := by
  refine xEA (pos_mod x (m := 36) (by decide)) fun k hk hl => ?_
  have hlt : k < signs.length := by rw [signs_len]; omega
  exact ⟨signs[k], List.getElem_mem hlt, fun h => by rw [hk]; exact idx_str signs_fit (List.getElem?_eq_getElem hlt)⟩
theorem slice_to {x : List Nat} {k : Nat} (hl : x.length <= 1000) : sliceAV (.str x) .none (.int k) h = .ok (.str (x.take k)) h := by
  have hc : cutO x .none (.int k) = some (x.take k) := by
    delta cutO
    rw [if_pos (show x.length <= sizeLim from lim_le (by lia))]
    show some (cutList x 0 k) = _
    unfold cutList
    rw [clipAt_nat, show clipAt x.length 0 = 0 from clipAt_nat x.length 0 |>.trans (Nat.zero_min _), List.drop_zero, List.take_eq_take_min (l := x) (i := k)]
  show okO ((cutO x .none (.int k)).map .str) h = _
  rw [hc]; rfl
theorem slice_from {x : List Nat} {k : Nat} (hl : x.length <= 1000) : sliceAV (.str x) (.int k) .none h = .ok (.str (x.drop k)) h := by
  have hc : cutO x (.int k) .none = some (x.drop k) := by
    delta cutO
    rw [if_pos (show x.length <= sizeLim from lim_le (by lia))]
    show some (cutList x k x.length) = _
    unfold cutList
    rw [clipAt_nat, clipAt_nat, Nat.min_self, List.take_length]
    by_cases hk : k <= x.length
    . rw [Nat.min_eq_left hk]
    . rw [Nat.min_eq_right (by lia), List.drop_length, List.drop_eq_nil_of_le (by lia)]
  show okO ((cutO x (.int k) .none).map .str) h = _
  rw [hc]; rfl
noncomputable def AllIn (t : Nm) : Prop := ∀ x ∈ t, x ∈ signs
theorem AllIn.app {a b : Nm} (x : AllIn a) (y : AllIn b) : AllIn (a ++ b) := fun c hc => (List.mem_append.mp hc).elim (x c) (y c)
theorem AllIn.one {c : Nat} (h : c ∈ signs) : AllIn [c] := fun x hx => by rcases List.mem_singleton.mp hx with rfl; exact h
theorem len2 {x y : List Nat} (h1 : x.length <= 100) (h2 : y.length <= 100) : x.length + y.length <= sizeLim := by unfold sizeLim; lia
theorem names_one (hp : Prog.has p "_law_mixed" d__law_mixed) {c : Int} {m : Nat} {F : Nat} {base : Nm} (hb : base.length <= 9) (ab : AllIn base) {at' : Nat} {j : Nat} {many k : Nat} {v7 v8 : Option AV} {ns : List Nm} (hj : h[j]? = some (.list (ns.map .str))) (hl : ns.length <= 900) :
    ∃ nm, Good nm /\ ∃ v7' v8', execSs (cF p (n + 1) F) b__law_names_2 [some (.int c), some (.int many), some (.str signs), some (.str base), some (.int k), some (.int at'), some (.loc j), v7, v8] h =
      .ok .next [some (.int c), some (.int many), some (.str signs), some (.str base), some (.int k), some (.int at'), some (.loc j), v7', v8'] (h.set j (.list ((ns ++ [nm]).map .str))) := by
  have em := run_mixed (n := n) (h := h) hp c (50 + k)
  generalize mixed c (50 + k) = mx at em
  refine xEA (sign_at (c.fdiv 110 + k)) fun c1 hc1 e1 => ?_
  refine xEA (sign_at (mx.fdiv 7)) fun c2 hc2 e2 => ?_
  refine xEA (sign_at (mx.fdiv 301)) fun c3 hc3 e3 => ?_
  have tl : (base.take at').length <= 9 := by rw [List.length_take]; lia
  have fin : ∀ sg : Nm, AllIn sg -> 1 <= sg.length -> sg.length <= 3 -> ∃ nm, Good nm /\ ∀ v7 : Option AV, execS (cF p (n + 1) F) (.expr (.bm .append (.loc 6) (.cons (.bin .add (.bin .add (.slice (.loc 3) .none (.loc 5)) (.loc 8)) (.slice (.loc 3) (.loc 5) .none)) .nil))) [some (.int c), some (.int many), some (.str signs), some (.str base), some (.int k), some (.int at'), some (.loc j), v7, some (.str sg)] h =
      .ok .next [some (.int c), some (.int many), some (.str signs), some (.str base), some (.int k), some (.int at'), some (.loc j), v7, some (.str sg)] (h.set j (.list ((ns ++ [nm]).map .str))) := by
    intro sg ag h1 h3
    have l1 : (base.take at' ++ sg).length <= 12 := by rw [List.length_append]; lia
    have l2 : (base.take at' ++ sg ++ base.drop at').length = base.length + sg.length := by
      rw [List.length_append, List.length_append, List.length_take, List.length_drop]; omega
    refine ⟨base.take at' ++ sg ++ base.drop at', ⟨by lia, by lia, AllIn.app (AllIn.app (fun x hx => ab x (List.mem_of_mem_take hx)) ag) fun x hx => ab x (List.mem_of_mem_drop hx)⟩, fun v7 => ?_⟩
    have hap : bmAV .append (.loc j) [.str (base.take at' ++ sg ++ base.drop at')] h = .ok .none (h.set j (.list ((ns ++ [base.take at' ++ sg ++ base.drop at']).map .str))) := by
      rw [show bmAV .append (.loc j) [.str (base.take at' ++ sg ++ base.drop at')] h = _ from append_ok hj (lim_lt (by rw [List.length_map]; lia)), List.map_append]; rfl
    simp only [s_expr, x_none, x_loc, x_bin, x_bm, x_slice, xs_nil, xs_cons, loc0, locS, okO_some, bok, sok, if_true, bmOk_append hj, slice_to (show base.length <= 1000 by lia), slice_from (show base.length <= 1000 by lia), b_adds (x := base.take at') (y := sg) (len2 (by lia) (by lia)), b_adds (x := base.take at' ++ sg) (y := base.drop at') (len2 (by lia) (by rw [List.length_drop]; lia)), hap]
  by_cases hq : 0 < (c.fdiv 3960).fmod 3
  . refine xEA (fin [c2, c3, c1] (AllIn.app (a := [c2, c3]) (AllIn.app (a := [c2]) (.one hc2) (.one hc3)) (.one hc1)) (by show 1 <= 3; decide) (by show 3 <= 3; decide)) fun nm G ef => ?_
    refine ⟨nm, G, some (.int mx), some (.str [c2, c3, c1]), ?_⟩
    rw [b__law_names_2]
    refine (ss_step (l' := [some (.int c), some (.int many), some (.str signs), some (.str base), some (.int k), some (.int at'), some (.loc j), some (.int mx), v8]) (h' := h) ?_).trans
      ((ss_step (l' := [some (.int c), some (.int many), some (.str signs), some (.str base), some (.int k), some (.int at'), some (.loc j), some (.int mx), some (.str [c1])]) (h' := h) ?_).trans
      ((ss_step (l' := [some (.int c), some (.int many), some (.str signs), some (.str base), some (.int k), some (.int at'), some (.loc j), some (.int mx), some (.str [c2, c3, c1])]) (h' := h) ?_).trans (ss_one (ef _))))
    . simp only [s_asg, x_int, x_loc, x_bin, x_call, xs_nil, xs_cons, List.set, loc0, locS, okO_some, bok, sok, b_add, em]
    . simp only [s_asg, x_int, x_loc, x_bin, x_sub, List.set, loc0, locS, okO_some, bok, sok, b_add, b_div (y := 110) (by decide), b_mod (y := 36) (by decide), e1]
    . rw [s_iff]
      simp only [ss_cons, ss_nil, s_asg, x_int, x_loc, x_bin, x_cmp, x_sub, List.cons_append, List.nil_append, List.set, loc0, locS, okO_some, bok, sok, turn_next, boolO_some, cond_t, b_div (y := 3960) (by decide), b_div (y := 7) (by decide), b_div (y := 301) (by decide), b_mod (y := 3) (by decide), b_mod (y := 36) (by decide), c_gt, decide_eq_true hq, e2, e3, b_adds (x := [c2]) (y := [c3]) (by show 2 <= sizeLim; decide), b_adds (x := [c2, c3]) (y := [c1]) (by show 3 <= sizeLim; decide)]
  . refine xEA (fin [c1] (.one hc1) (by show 1 <= 1; decide) (by show 1 <= 3; decide)) fun nm G ef => ?_
    refine ⟨nm, G, some (.int mx), some (.str [c1]), ?_⟩
    rw [b__law_names_2]
    refine (ss_step (l' := [some (.int c), some (.int many), some (.str signs), some (.str base), some (.int k), some (.int at'), some (.loc j), some (.int mx), v8]) (h' := h) ?_).trans
      ((ss_step (l' := [some (.int c), some (.int many), some (.str signs), some (.str base), some (.int k), some (.int at'), some (.loc j), some (.int mx), some (.str [c1])]) (h' := h) ?_).trans
      ((ss_step (l' := [some (.int c), some (.int many), some (.str signs), some (.str base), some (.int k), some (.int at'), some (.loc j), some (.int mx), some (.str [c1])]) (h' := h) ?_).trans (ss_one (ef _))))
    . simp only [s_asg, x_int, x_loc, x_bin, x_call, xs_nil, xs_cons, List.set, loc0, locS, okO_some, bok, sok, b_add, em]
    . simp only [s_asg, x_int, x_loc, x_bin, x_sub, List.set, loc0, locS, okO_some, bok, sok, b_add, b_div (y := 110) (by decide), b_mod (y := 36) (by decide), e1]
    . rw [s_iff]
      simp only [ss_cons, ss_nil, s_asg, x_int, x_loc, x_bin, x_cmp, x_sub, List.set, loc0, locS, okO_some, bok, sok, boolO_some, cond_f, b_div (y := 3960) (by decide), b_mod (y := 3) (by decide), c_gt, decide_eq_false hq]
inductive BaseInv (h : AHeap) (c : Int) (many : Nat) (k : Nat) : Locs -> AHeap -> Prop
  | mk (base : Nm) (v4 : Option AV) (hl : base.length = k) (ha : AllIn base) : BaseInv h c many k [some (.int c), some (.int many), some (.str signs), some (.str base), v4, none, none, none, none] h
inductive NamInv (h : AHeap) (c : Int) (many : Nat) (base : Nm) (at' : Nat) (k : Nat) : Locs -> AHeap -> Prop
  | mk (ns : List Nm) (v4 v7 v8 : Option AV) (hl : ns.length = k) (hg : ∀ nm ∈ ns, Good nm) : NamInv h c many base at' k [some (.int c), some (.int many), some (.str signs), some (.str base), v4, some (.int at'), some (.loc h.length), v7, v8] (h ++ [.list (ns.map .str)])
theorem run_law_names (hp : Prog.has p "_law_mixed" d__law_mixed) (hp2 : Prog.has p "_law_names" d__law_names) (c : Int) {many : Nat} (hm : many <= 100) :
    ∃ ns : List Nm, ns.length = many /\ (∀ nm ∈ ns, Good nm) /\ semF p (n + 2) false "_law_names" [.int c, .int many] h = .ok (.loc h.length) (h ++ [.list (ns.map .str)]) := by
  refine xEA (run_in (n := n + 1) (h := h) hp2 (as := [.int c, .int many]) [some (.int c), some (.int many), none, none, none, none, none, none, none] rfl rfl) fun F hF e => ?_
  refine xEA (pos_mod c (m := 10) (by decide)) fun k0 hk0 hk0' => ?_
  refine xEA (pos_mod (c.fdiv 10) (m := 11) (by decide)) fun at' hat _ => ?_
  obtain ⟨l1, h1, e1, I1⟩ := forLoop_all (i := 4) (src := .rng 0 k0 1) (items := rngItems 0 k0 1) (body := fun l h => execSs (cF p (n + 1) F) b__law_names_1 l h)
    (BaseInv h c many) (fun k l h' _ => next_rng (lim_le (by omega))) (fun k v l h' hv hI => by
      cases hI with
      | mk base v4 hbl hba =>
      refine xA (up_item hv) fun hk qq1 => ?_; subst qq1
      refine xEA (sign_at ((mixed c k).fdiv 31)) fun c1 hc1 e1 => ?_
      refine ⟨_, _, ?_, BaseInv.mk (base ++ [c1]) (some (.int k)) (by rw [List.length_append, hbl]; rfl) (hba.app (.one hc1))⟩
      simp only [b__law_names_1, ss_cons, ss_nil, s_asg, x_int, x_loc, x_bin, x_call, x_sub, xs_nil, xs_cons, List.set, loc0, locS, okO_some, bok, sok, turn_next, run_mixed (n := n) hp c k, b_div (y := 31) (by decide), b_mod (y := 36) (by decide), e1, b_adds (x := base) (y := [c1]) (len2 (by lia) (by show 1 <= 100; decide))]) (f := F)
    (l := [some (.int c), some (.int many), some (.str signs), some (.str []), none, none, none, none, none]) (h := h) (by rw [up_length]; omega) (BaseInv.mk [] none rfl (fun x hx => nomatch hx))
  cases I1 with
  | mk base v4 hbl hba =>
  rw [up_length] at hbl
  have hb9 : base.length <= 9 := by lia
  obtain ⟨l2, h2, e2, I2⟩ := forLoop_all (i := 4) (src := .rng 0 many 1) (items := rngItems 0 many 1) (body := fun l h => execSs (cF p (n + 1) F) b__law_names_2 l h)
    (NamInv h c many base at') (fun k l h' _ => next_rng (lim_le (by lia))) (fun k v l h' hv hI => by
      cases hI with
      | mk ns v4 v7 v8 hnl hng =>
      refine xA (up_item hv) fun hk qq1 => ?_; subst qq1
      refine xEAEE (names_one (n := n) (F := F) (c := c) (m := 0) (base := base) (at' := at') (j := h.length) (many := many) (k := k) (v7 := v7) (v8 := v8) (ns := ns) hp hb9 hba get_new (by lia)) fun nm G v7' v8' e3 => ?_
      rw [set_new] at e3
      exact ⟨_, _, e3, NamInv.mk (ns ++ [nm]) (some (.int k)) v7' v8' (by rw [List.length_append, hnl]; rfl) fun x hx => (List.mem_append.mp hx).elim (hng x) fun q => by rcases List.mem_singleton.mp q with rfl; exact G⟩) (f := F)
    (l := [some (.int c), some (.int many), some (.str signs), some (.str base), v4, some (.int at'), some (.loc h.length), none, none]) (h := h ++ [.list []]) (by rw [up_length]; lia) (NamInv.mk (k := 0) [] v4 none none rfl (fun nm hnm => nomatch hnm))
  cases I2 with
  | mk ns v4' v7 v8 hnl hng =>
  rw [up_length] at hnl
  refine ⟨ns, hnl, hng, ?_⟩
  rw [e, d__law_names]
  simp only [ss_cons, ss_nil, s_ret, s_asg, s_for, x_int, x_str, x_loc, x_bin, x_list, x_range, xs_nil, xs_cons, List.set, loc0, locS, okO_some, bok, sok, turn_next, turn_ret, Bool.false_eq_true, if_false, retR_ret, b_mod (y := 10) (by decide), b_div (y := 10) (by decide), b_mod (y := 11) (by decide), hk0, hat, range_up (show k0 <= 1000 by lia), range_up (show many <= 1000 by lia), e1, newList_ok (vs := []) (by show 0 <= _; exact Nat.zero_le _), e2]
end
end
section
open PySem Cu
section
variable {β : Type} {hm : β -> Int -> Seat} {t T : List (Seat × β)} {w : List Seat}
structure Mid (t : List (Seat × β)) (w : List Seat) (j : Nat) (T : List (Seat × β)) : Prop where
  a : ∀ i s s', j <= i -> w[i]? = some s -> w[i + 1]? = some s' -> T.lookup s' = t.lookup s
  b : ∀ s, (∀ i, j < i -> w[i]? ≠ some s) -> T.lookup s = t.lookup s
  nd : (T.map (·.1)).Nodup
theorem nd_at {w : List Seat} (nd : w.Nodup) {i j : Nat} {s : Seat} (hi : w[i]? = some s) (hj : w[j]? = some s) : i = j := by
  refine xE (List.getElem?_eq_some_iff.mp hi) fun h1 e1 => ?_
  refine xE (List.getElem?_eq_some_iff.mp hj) fun h2 e2 => ?_
  have q := List.pairwise_iff_getElem.mp nd
  rcases Nat.lt_trichotomy i j with h | h | h
  . exact absurd (e1.trans e2.symm) (q i j h1 h2 h)
  . exact h
  . exact absurd (e2.trans e1.symm) (q j i h2 h1 h)
theorem Mid.start (nd : (t.map (·.1)).Nodup) : Mid t w (w.length - 1) t :=
  ⟨fun i s s' hi _ h => absurd (List.getElem?_eq_some_iff.mp h).1 (by omega), fun _ _ => rfl, nd⟩
theorem Mid.step {s0 : Seat} {j : Nat} (W : Way hm t s0 w) (M : Mid t w (j + 1) T) {a b : Seat} {n : β} (ha : w[j]? = some a) (hb : w[j + 1]? = some b) (hn : t.lookup a = some n) : Mid t w j (put T b n) := by
  refine ⟨?_, ?_, put_nodup M.nd⟩
  . intro i s s' hi h1 h2
    rw [put_lookup]
    by_cases e : s' = b
    . subst e
      have : i + 1 = j + 1 := nd_at W.nd h2 hb
      have : i = j := by lia
      subst this
      rw [ha] at h1; injection h1 with h1; subst h1
      rw [if_pos rfl, hn]
    . rw [if_neg e]
      refine M.a i s s' ?_ h1 h2
      apply Nat.lt_of_le_of_ne hi
      rintro rfl
      rw [hb] at h2; injection h2 with h2; exact e h2.symm
  . intro s hs
    rw [put_lookup, if_neg (by rintro rfl; exact hs (j + 1) (by lia) hb)]
    exact M.b s fun i hi => hs i (by lia)
end
section
variable {α β : Type} [DecidableEq α] [BEq α] [LawfulBEq α]
noncomputable def drop (t : List (α × β)) (a : α) : List (α × β) := t.filter fun p => !(p.1 == a)
theorem drop_lookup {a x : α} : ∀ {t : List (α × β)}, (drop t a).lookup x = if x = a then none else t.lookup x
  | [] => by split <;> rfl
  | (k, v) :: t => by
    have ih := drop_lookup (a := a) (x := x) (t := t)
    unfold drop at ih |-
    by_cases h : k = a
    . subst h
      rw [List.filter_cons_of_neg (by simp), ih]
      by_cases hx : x = k
      . rw [if_pos hx, if_pos hx]
      . rw [if_neg hx, if_neg hx, List.lookup_cons, beq_eq_false_iff_ne.mpr hx]
    . rw [List.filter_cons_of_pos (by simpa using h), List.lookup_cons, List.lookup_cons, ih]
      by_cases hx : x = k
      . subst hx; rw [if_neg h]; simp [h]
      . rw [beq_eq_false_iff_ne.mpr hx]
theorem drop_nodup {t : List (α × β)} {a : α} (h : (t.map (·.1)).Nodup) : ((drop t a).map (·.1)).Nodup := (List.filter_sublist.map _).nodup h
theorem some_key {t : List (α × β)} {a : α} : a ∈ t.map (·.1) ↔ (t.lookup a).isSome = true := by
  rcases h : t.lookup a with _ | v
  case none => exact ⟨fun q => absurd q (lookup_none.mp h), fun q => nomatch q⟩
  case some => exact ⟨fun _ => rfl, fun _ => Classical.byContradiction fun q => by rw [lookup_none.mpr q] at h; cases h⟩
end
structure Ord (T : Tb) (st : St') (th : Th) : Prop where
  nd : (st.map (·.1)).Nodup
  home : ∀ s nm, st.lookup s = some nm -> Good nm /\ (s.1 = 0 \/ s.1 = 1) /\ s = T.hm nm s.1
  once : ∀ s s' nm, st.lookup s = some nm -> st.lookup s' = some nm -> s = s'
  ndt : (th.map (·.1)).Nodup
  there : ∀ nm, (∃ s, st.lookup s = some nm) ↔ (th.lookup nm).isSome = true
section
variable {T : Tb} {st : St'} {th : Th}
theorem Ord.nil : Ord T [] [] := ⟨List.nodup_nil, (fun _ _ h => nomatch h), (fun _ _ _ h => nomatch h), List.nodup_nil, fun nm => ⟨(fun ⟨_, h⟩ => nomatch h), (fun h => nomatch h)⟩⟩
theorem Ord.so (O : Ord T st th) : StOk st := fun s nm h => ⟨(O.home s nm h).1, (O.home s nm h).2.1⟩
theorem Ord.same (O : Ord T st th) {nm : Nm} {v : Int} (h : (th.lookup nm).isSome = true) : Ord T st (put th nm v) :=
  ⟨O.nd, O.home, O.once, put_nodup O.ndt, fun x => by
    rw [O.there x, put_lookup]
    by_cases e : x = nm
    . subst e; rw [if_pos rfl, h]; exact ⟨fun _ => rfl, fun _ => rfl⟩
    . rw [if_neg e]⟩
theorem Ord.drop (O : Ord T st th) {s : Seat} {nm : Nm} (h : st.lookup s = some nm) : Ord T (drop st s) (drop th nm) := by
  have old : ∀ s' n, (Mine.Internal.drop st s).lookup s' = some n -> s' ≠ s /\ st.lookup s' = some n := fun s' n h' => by
    rw [drop_lookup] at h'
    by_cases e : s' = s
    . rw [if_pos e] at h'; cases h'
    . rw [if_neg e] at h'; exact ⟨e, h'⟩
  refine ⟨drop_nodup O.nd, fun s' n h' => O.home s' n (old s' n h').2, fun s1 s2 n h1 h2 => O.once s1 s2 n (old s1 n h1).2 (old s2 n h2).2, drop_nodup O.ndt, fun x => ?_⟩
  rw [drop_lookup]
  by_cases e : x = nm
  . subst e
    rw [if_pos rfl]
    refine ⟨fun ⟨s', h'⟩ => ?_, fun q => nomatch q⟩
    refine xA (old s' x h') fun h1 h2 => ?_
    exact absurd (O.once _ _ _ h2 h) h1
  . rw [if_neg e, <- O.there x]
    refine ⟨fun ⟨s', h'⟩ => ⟨s', (old s' x h').2⟩, fun ⟨s', h'⟩ => ⟨s', ?_⟩⟩
    rw [drop_lookup, if_neg ?_]
    . exact h'
    . rintro rfl; rw [h] at h'; injection h' with h'; exact e h'.symm
theorem Ord.done (O : Ord T st th) {nm : Nm} (G : Good nm) (hnew : th.lookup nm = none) {v : Int} {r : Int} (hr : r = 0 \/ r = 1) {w : List Seat} (W : Way T.hm st (T.hm nm r) w) (hop : ∀ s, w[w.length - 1]? = some s -> st.lookup s = none) {T' : St'} (M : Mid st w 0 T') :
    Ord T (put T' (T.hm nm r) nm) (put th nm v) := by
  have hno : ∀ s, st.lookup s ≠ some nm := fun s h => by
    have := (O.there nm).mp ⟨s, h⟩
    rw [hnew] at this; cases this
  have src : ∀ s n, s ≠ T.hm nm r -> T'.lookup s = some n -> ∃ p, st.lookup p = some n /\ ((∃ i, w[i]? = some p /\ w[i + 1]? = some s) \/ (p = s /\ s ∉ w)) := by
    intro s n hne h
    by_cases hs : s ∈ w
    . refine xE (List.getElem_of_mem hs) fun i qq1 => ?_; obtain ⟨hi, e⟩ := qq1
      rcases i with _ | i
      case zero =>
        have := W.head
        rw [List.getElem?_eq_getElem hi, e] at this; injection this with this; exact absurd this hne
      case succ =>
        have h1 : w[i]? = some w[i] := List.getElem?_eq_getElem (by lia)
        have h2 : w[i + 1]? = some s := by rw [<- e]; exact List.getElem?_eq_getElem _
        exact ⟨_, (M.a i _ _ (by lia) h1 h2).symm.trans h, .inl ⟨i, h1, h2⟩⟩
    . exact ⟨s, (M.b s fun i _ e => hs (List.mem_of_getElem? e)).symm.trans h, .inr ⟨rfl, hs⟩⟩
  refine ⟨put_nodup M.nd, ?_, ?_, put_nodup O.ndt, ?_⟩
  . intro s n h
    rw [put_lookup] at h
    by_cases e : s = T.hm nm r
    . rw [if_pos e] at h; injection h with h; subst h
      subst e
      exact ⟨G, hr, rfl⟩
    . rw [if_neg e] at h
      refine xEA (src s n e h) fun p hp qq1 => ?_; obtain ⟨i, h1, h2⟩ | ⟨rfl, _⟩ := qq1
      . refine xEA (W.step i p s h1 h2) fun n' hn' e2 => ?_
        rw [hp] at hn'; injection hn' with hn'; subst hn'
        refine xAA (O.home p n hp) fun Gn row _ => ?_
        refine ⟨Gn, ?_, ?_⟩
        . rw [e2]; show 1 - p.1 = 0 \/ 1 - p.1 = 1; lia
        . rw [e2]; rfl
      . exact O.home p n hp
  . intro s s' n h h'
    rw [put_lookup] at h h'
    by_cases e : s = T.hm nm r
    . rw [if_pos e] at h; injection h with h; subst h
      by_cases e' : s' = T.hm nm r
      . rw [e, e']
      . rw [if_neg e'] at h'
        refine xEA (src s' nm e' h') fun p hp _ => ?_
        exact absurd hp (hno p)
    . rw [if_neg e] at h
      refine xEA (src s n e h) fun p hp q => ?_
      by_cases e' : s' = T.hm nm r
      . rw [if_pos e'] at h'; injection h' with h'; subst h'
        exact absurd hp (hno p)
      . rw [if_neg e'] at h'
        refine xEA (src s' n e' h') fun p' hp' q' => ?_
        have := O.once _ _ _ hp hp'
        subst this
        rcases q with ⟨i, h1, h2⟩ | ⟨rfl, h2⟩ <;> rcases q' with ⟨i', h1', h2'⟩ | ⟨rfl, h2'⟩
        . have := nd_at W.nd h1 h1'; subst this
          rw [h2] at h2'; injection h2'
        . exact absurd (List.mem_of_getElem? h1) h2'
        . exact absurd (List.mem_of_getElem? h1') h2
        . rfl
  . intro x
    rw [put_lookup (t := th)]
    by_cases e : x = nm
    . subst e
      rw [if_pos rfl]
      exact ⟨fun _ => rfl, fun _ => ⟨T.hm x r, by rw [put_lookup, if_pos rfl]⟩⟩
    . rw [if_neg e, <- O.there x]
      constructor
      . rintro ⟨s, h⟩
        rw [put_lookup] at h
        by_cases es : s = T.hm nm r
        . rw [if_pos es] at h; injection h with h; exact absurd h.symm e
        . rw [if_neg es] at h
          refine xEA (src s x es h) fun p hp _ => ?_
          exact ⟨p, hp⟩
      . rintro ⟨p, hp⟩
        by_cases hpw : p ∈ w
        . refine xE (List.getElem_of_mem hpw) fun i qq1 => ?_; obtain ⟨hi, ei⟩ := qq1
          have h1 : w[i]? = some p := by rw [<- ei]; exact List.getElem?_eq_getElem _
          by_cases hl : i + 1 < w.length
          . have h2 : w[i + 1]? = some w[i + 1] := List.getElem?_eq_getElem hl
            refine ⟨w[i + 1], ?_⟩
            rw [put_lookup, if_neg ?_]
            . exact (M.a i _ _ (Nat.zero_le _) h1 h2).trans hp
            . intro q
              rw [q] at h2
              have := nd_at W.nd h2 W.head
              lia
          . have : i = w.length - 1 := by omega
            rw [this] at h1
            rw [hop p h1] at hp; cases hp
        . refine ⟨p, ?_⟩
          rw [put_lookup, if_neg ?_]
          . exact (M.b p fun i _ q => hpw (List.mem_of_getElem? q)).trans hp
          . rintro rfl
            exact hpw (List.mem_of_getElem? W.head)
theorem Ord.names (O : Ord T st th) : (st.map (·.2)).Perm (th.map (·.1)) := by
  have nd2 : (st.map (·.2)).Nodup := by
    have nd := O.nd
    have inj : ∀ s s' n, (s, n) ∈ st -> (s', n) ∈ st -> s = s' := fun s s' n h h' => O.once s s' n (lookup_of_mem O.nd h) (lookup_of_mem O.nd h')
    clear O
    induction st with
    | nil => exact List.nodup_nil
    | cons p t ih =>
      rw [List.map_cons, List.nodup_cons] at nd |-
      refine ⟨?_, ih nd.2 fun s s' n h h' => inj s s' n (List.mem_cons_of_mem _ h) (List.mem_cons_of_mem _ h')⟩
      intro h
      refine xEA (List.mem_map.mp h) fun qq1 hs e => ?_; obtain ⟨s, n⟩ := qq1
      have e : n = p.2 := e
      subst e
      have := inj s p.1 p.2 (List.mem_cons_of_mem _ hs) List.mem_cons_self
      subst this
      exact nd.1 (List.mem_map.mpr ⟨_, hs, rfl⟩)
  refine (List.perm_ext_iff_of_nodup nd2 O.ndt).mpr fun nm => ?_
  rw [some_key, <- O.there nm]
  constructor
  . intro h
    refine xEA (List.mem_map.mp h) fun qq1 hs qq2 => ?_; obtain ⟨s, n⟩ := qq1; subst qq2
    exact ⟨s, lookup_of_mem O.nd hs⟩
  . rintro ⟨s, hs⟩
    exact List.mem_map.mpr ⟨_, lookup_mem hs, rfl⟩
theorem Ord.len (O : Ord T st th) : st.length = th.length := by have := O.names.length_eq; rwa [List.length_map, List.length_map] at this
noncomputable def openW (st : St') (w : List Seat) : Bool := match w[w.length - 1]? with
  | some s => (st.lookup s).isNone
  | none => false
noncomputable def shorter (b : Option (List Seat)) (w : List Seat) : Bool := match b with
  | none => true
  | some b => decide (w.length < b.length)
noncomputable def pickW (st : St') (b : Option (List Seat)) (w : List Seat) : Option (List Seat) := if openW st w && shorter b w then some w else b
noncomputable def bestOf (T : Tb) (st : St') (nm : Nm) : Option (List Seat) := pickW st (pickW st none (wayOf T.hm st (T.hm nm 0))) (wayOf T.hm st (T.hm nm 1))
theorem open_last {w : List Seat} (h : openW st w = true) {s : Seat} (hs : w[w.length - 1]? = some s) : st.lookup s = none := by
  unfold openW at h
  rw [hs] at h
  exact Option.isNone_iff_eq_none.mp h
theorem pick_or {b : Option (List Seat)} {w u : List Seat} (h : pickW st b w = some u) : (u = w /\ openW st w = true) \/ b = some u := by
  unfold pickW at h
  by_cases hc : (openW st w && shorter b w) = true
  . rw [if_pos hc] at h
    rw [Bool.and_eq_true] at hc
    exact .inl ⟨(Option.some.inj h).symm, hc.1⟩
  . rw [if_neg hc] at h
    exact .inr h
theorem best_is {nm : Nm} {w : List Seat} (h : bestOf T st nm = some w) : ∃ r, (r = 0 \/ r = 1) /\ Way T.hm st (T.hm nm r) w /\ ∀ s, w[w.length - 1]? = some s -> st.lookup s = none := by
  rcases pick_or h with ⟨rfl, ho⟩ | h
  . exact ⟨1, .inr rfl, wayOf_way st _, fun s => open_last ho⟩
  . rcases pick_or h with ⟨rfl, ho⟩ | h
    . exact ⟨0, .inl rfl, wayOf_way st _, fun s => open_last ho⟩
    . cases h
abbrev Mv := Nm × Seat × Seat
noncomputable def mvAV (m : Mv) : AV := .tup [.str m.1, sv m.2.1, sv m.2.2]
noncomputable def seatAt (w : List Seat) (i : Nat) : Seat := w.getD i (0, 0)
noncomputable def moveAt (st : St') (w : List Seat) (i : Nat) : Mv := ((st.lookup (seatAt w (i - 1))).getD [], seatAt w (i - 1), seatAt w i)
noncomputable def movesOf (st : St') (w : List Seat) : List Mv := (List.range (w.length - 1)).map fun j => moveAt st w (w.length - 1 - j)
theorem seat_at {w : List Seat} {i : Nat} (h : i < w.length) : w[i]? = some (seatAt w i) := by
  unfold seatAt
  rw [List.getD_eq_getElem?_getD, List.getElem?_eq_getElem h]; rfl
end
theorem dn_at {L k : Nat} (h : k < L - 1) : ∃ q, L - 1 - k = q + 1 /\ L - 1 - (k + 1) = q /\ q + 1 < L := by
  refine xE (Nat.exists_eq_add_of_lt h) fun d e => ?_
  refine ⟨d, by rw [e, Nat.add_assoc, Nat.add_sub_cancel_left], by rw [e, Nat.add_right_comm, Nat.add_sub_cancel_left], Nat.lt_of_le_of_lt (Nat.le_trans (Nat.le_add_left (d + 1) k) (Nat.le_of_eq e.symm)) (Nat.sub_one_lt fun q => by rw [q] at h; exact Nat.not_lt_zero _ h)⟩
end
section
open PySem Cu
structure Like (a b : St') : Prop where
  eq : ∀ s, a.lookup s = b.lookup s
  nd : (a.map (·.1)).Nodup
  nd' : (b.map (·.1)).Nodup
section
variable {a b : St'} {T : Tb}
theorem Like.perm (L : Like a b) : (keysOf a).Perm (keysOf b) :=
  (List.perm_ext_iff_of_nodup L.nd L.nd').mpr fun s => by rw [some_key, some_key, L.eq]
theorem Like.len (L : Like a b) : a.length = b.length := by
  have := L.perm.length_eq
  rwa [keys_len, keys_len] at this
theorem Like.go {hm : Nm -> Int -> Seat} (L : Like a b) : ∀ f w, wayGo hm a f w = wayGo hm b f w
  | 0, _ => rfl
  | f + 1, w => by
    unfold wayGo
    rcases w[w.length - 1]? with _ | s
    case none => rfl
    case some =>
      dsimp only
      rw [L.eq s]
      rcases b.lookup s with _ | n
      case none => rfl
      case some =>
        dsimp only
        rw [L.go f]
theorem Like.way (L : Like a b) {s : Seat} : wayOf T.hm a s = wayOf T.hm b s := by
  unfold wayOf
  rw [L.len, L.go]
theorem Like.opn (L : Like a b) {w : List Seat} : openW a w = openW b w := by
  unfold openW
  rcases w[w.length - 1]? with _ | s
  case none => rfl
  case some => dsimp only; rw [L.eq s]
theorem Like.pick (L : Like a b) {o : Option (List Seat)} {w : List Seat} : pickW a o w = pickW b o w := by
  unfold pickW
  rw [L.opn]
theorem Like.best (L : Like a b) {nm : Nm} : bestOf T a nm = bestOf T b nm := by
  unfold bestOf
  rw [L.way, L.way, L.pick, L.pick]
theorem Like.nil : Like [] [] := ⟨fun _ => rfl, List.nodup_nil, List.nodup_nil⟩
structure Aft (st : St') (w : List Seat) (nm : Nm) (st' : St') : Prop where
  on : ∀ i s s', w[i]? = some s -> w[i + 1]? = some s' -> st'.lookup s' = st.lookup s
  z : ∀ s, w[0]? = some s -> st'.lookup s = some nm
  b : ∀ s, s ∉ w -> st'.lookup s = st.lookup s
  nd : (st'.map (·.1)).Nodup
theorem Aft.like {w : List Seat} {nm : Nm} {a' b' : St'} (x : Aft a w nm a') (y : Aft b w nm b') (L : Like a b) : Like a' b' := by
  refine ⟨fun s => ?_, x.nd, y.nd⟩
  by_cases hs : s ∈ w
  . refine xE (List.getElem_of_mem hs) fun i qq1 => ?_; obtain ⟨hi, e⟩ := qq1
    have h2 : w[i]? = some s := by rw [<- e]; exact List.getElem?_eq_getElem _
    rcases i with _ | i
    case zero => rw [x.z s h2, y.z s h2]
    case succ =>
      have h1 : w[i]? = some w[i] := List.getElem?_eq_getElem (by lia)
      rw [x.on i _ s h1 h2, y.on i _ s h1 h2, L.eq]
  . rw [x.b s hs, y.b s hs, L.eq]
theorem Mid.aft {st M : St'} {w : List Seat} {nm : Nm} {s0 : Seat} (W : Way T.hm st s0 w) (m : Mid st w 0 M) : Aft st w nm (put M s0 nm) := by
  refine ⟨fun i s s' h1 h2 => ?_, fun s h => ?_, fun s h => ?_, put_nodup m.nd⟩
  . rw [put_lookup, if_neg ?_]
    . exact m.a i s s' (Nat.zero_le _) h1 h2
    . rintro rfl
      exact absurd (nd_at W.nd h2 W.head) (by lia)
  . rw [W.head] at h
    cases h
    rw [put_lookup, if_pos rfl]
  . rw [put_lookup, if_neg ?_]
    . exact m.b s fun i _ q => h (List.mem_of_getElem? q)
    . rintro rfl
      exact h (List.mem_of_getElem? W.head)
structure HeldT (T : Tb) (ns : List Nm) (st : St') : Prop where
  nd : (st.map (·.1)).Nodup
  all : ∀ s m, st.lookup s = some m -> m ∈ ns /\ (s.1 = 0 \/ s.1 = 1) /\ s = T.hm m s.1
theorem HeldT.nil {ns : List Nm} : HeldT T ns [] := ⟨List.nodup_nil, (fun _ _ h => nomatch h)⟩
theorem Aft.held {ns : List Nm} {w : List Seat} {nm : Nm} {r : Int} (x : Aft a w nm b) (H : HeldT T ns a) (hr : r = 0 \/ r = 1) (W : Way T.hm a (T.hm nm r) w) (hn : nm ∈ ns) : HeldT T ns b := by
  refine ⟨x.nd, fun s m h => ?_⟩
  by_cases hs : s ∈ w
  . refine xE (List.getElem_of_mem hs) fun i qq1 => ?_; obtain ⟨hi, e⟩ := qq1
    have h2 : w[i]? = some s := by rw [<- e]; exact List.getElem?_eq_getElem _
    rcases i with _ | i
    case zero =>
      rw [x.z s h2] at h
      cases h
      rw [W.head] at h2
      cases h2
      exact ⟨hn, hr, rfl⟩
    case succ =>
      have h1 : w[i]? = some w[i] := List.getElem?_eq_getElem (by lia)
      rw [x.on i _ s h1 h2] at h
      refine xEA (W.step i _ s h1 h2) fun n' hn' e2 => ?_
      rw [h] at hn'
      cases hn'
      refine xAA (H.all _ m h) fun hm row _ => ?_
      exact ⟨hm, by rw [e2]; exact other_row row, by rw [e2]; rfl⟩
  . rw [x.b s hs] at h
    exact H.all s m h
theorem take_snoc {κ : Type} {ns : List κ} {k : Nat} {nm : κ} (h : ns[k]? = some nm) : ns.take (k + 1) = ns.take k ++ [nm] := by
  rw [List.take_add_one, h]; rfl
theorem best_free {st : St'} {nm : Nm} {r : Int} (hr : r = 0 \/ r = 1) (h : st.lookup (T.hm nm r) = none) : ∃ w, bestOf T st nm = some w := by
  have hw : wayOf T.hm st (T.hm nm r) = [T.hm nm r] := go_free rfl h
  have ho : openW st (wayOf T.hm st (T.hm nm r)) = true := by
    rw [hw]
    show (st.lookup (T.hm nm r)).isNone = true
    rw [h]; rfl
  have ne : ∀ (o : Option (List Seat)) w u, o = some u -> ∃ v, pickW st o w = some v := fun o w u e => by
    unfold pickW
    split
    . exact ⟨_, rfl⟩
    . exact ⟨_, e⟩
  unfold bestOf
  rcases hr with rfl | rfl
  . exact ne _ _ (wayOf T.hm st (T.hm nm 0)) (by unfold pickW; rw [ho]; rfl)
  . rcases hb : pickW st none (wayOf T.hm st (T.hm nm 0)) with _ | u
    case some => exact ne _ _ u rfl
    case none => exact ⟨wayOf T.hm st (T.hm nm 1), by unfold pickW; rw [ho]; rfl⟩
theorem put_new {th : Th} {nm : Nm} {v : Int} (h : th.lookup nm = none) : put th nm v = th ++ [(nm, v)] := by
  unfold put
  rw [if_neg fun q => lookup_none.mp h (any_iff.mp q)]
end
end
section
open PySem Cu
noncomputable def b_best_way_1 : Ss :=
  (.cons (.asg 4 (.im "way" (.loc 0) (.cons (.loc 3) .nil)))
  (.cons (.iff (.and (.cmp .notin (.sub (.loc 4) (.neg (.int 1))) (.attr "standing" (.loc 0))) (.or (.isn true (.loc 2)) (.cmp .lt (.bi .len (.cons (.loc 4) .nil)) (.bi .len (.cons (.loc 2) .nil)))))
    (.cons (.asg 2 (.loc 4))
    .nil)
    .nil)
  .nil))
noncomputable def d_best_way : FDef := ⟨2, 5,
  (.cons (.asg 2 .none)
  (.cons (.forr 3 (.im "homes" (.loc 0) (.cons (.loc 1) .nil)) b_best_way_1)
  (.cons (.ret (.loc 2))
  .nil)))⟩
noncomputable def b_moves_1 : Ss :=
  (.cons (.expr (.bm .append (.loc 3) (.cons (.tup (.cons (.sub (.attr "standing" (.loc 0)) (.sub (.loc 2) (.bin .sub (.loc 4) (.int 1)))) (.cons (.sub (.loc 2) (.bin .sub (.loc 4) (.int 1))) (.cons (.sub (.loc 2) (.loc 4)) .nil)))) .nil)))
  .nil)
noncomputable def d_moves : FDef := ⟨2, 5,
  (.cons (.expr (.call "need_name" (.cons (.loc 1) .nil)))
  (.cons (.iff (.cmp .isin (.loc 1) (.attr "things" (.loc 0)))
    (.cons (.ret (.list .nil))
    .nil)
    .nil)
  (.cons (.asg 2 (.im "best_way" (.loc 0) (.cons (.loc 1) .nil)))
  (.cons (.iff (.isn true (.loc 2))
    (.cons (.raise "NoRoom")
    .nil)
    .nil)
  (.cons (.asg 3 (.list .nil))
  (.cons (.forr 4 (.range (.cons (.bin .sub (.bi .len (.cons (.loc 2) .nil)) (.int 1)) (.cons (.int 0) (.cons (.neg (.int 1)) .nil)))) b_moves_1)
  (.cons (.ret (.loc 3))
  .nil)))))))⟩
section
variable {p : Prog} {n : Nat} {h : AHeap} {t d e : Nat} {T : Tb} {st : St'} {th : Th}
theorem th_in {j ep : Nat} {nm : Nm} (hj : h[j]? = some (.dict (thK th) ep)) : cmpAV h .isin (.str nm) (.loc j) = some (th.lookup nm).isSome := by
  rw [in_dict' hj (str_key nm) thK_sort, thK_at, Option.isSome_map]
theorem th_notin {j ep : Nat} {nm : Nm} (hj : h[j]? = some (.dict (thK th) ep)) : cmpAV h .notin (.str nm) (.loc j) = some (!(th.lookup nm).isSome) := by
  rw [notin_dict' hj (str_key nm) thK_sort, thK_at, Option.isSome_map]
theorem for_two {put : Locs -> AV -> Option Locs} {body : Locs -> AHeap -> SR} {a b : AV} {f : Nat} {l la l1 lb l2 : Locs} {h1 h2 : AHeap} (p1 : put l a = some la) (e1 : body la h = .ok .next l1 h1) (p2 : put l1 b = some lb) (e2 : body lb h1 = .ok .next l2 h2) (hf : 3 <= f) :
    forLoop put body (.tup [a, b]) f 0 l h = .ok .next l2 h2 := by
  obtain ⟨g, rfl⟩ : ∃ g, f = g + 3 := ⟨f - 3, by omega⟩
  show (match put l a with | some l' => (body l' h).lap (forLoop put body (.tup [a, b]) (g + 2) 1) | none => SR.bad) = _
  rw [p1]
  show (body la h).lap _ = _
  rw [e1]
  show (match put l1 b with | some l' => (body l' h1).lap (forLoop put body (.tup [a, b]) (g + 1) 2) | none => SR.bad) = _
  rw [p2]
  show (body lb h1).lap _ = _
  rw [e2]
  rfl
noncomputable def BestIs (h : AHeap) (bv : AV) (b : Option (List Seat)) : Prop := (b = none /\ bv = .none) \/ ∃ u i, b = some u /\ bv = .loc i /\ h[i]? = some (.list (u.map sv))
theorem BestIs.more {bv : AV} {b : Option (List Seat)} {g : AHeap} (x : BestIs h bv b) : BestIs (h ++ g) bv b := by
  rcases x with x | ⟨u, i, h1, h2, h3⟩
  . exact .inl x
  . exact .inr ⟨u, i, h1, h2, get_old h3⟩
theorem len_seats {i : Nat} {w : List Seat} (hi : h[i]? = some (.list (w.map sv))) : biAV .len [.loc i] h = .ok (.int w.length) h := by rw [len_list hi, List.length_map]
theorem best_step (H : HasT p) (hw : Prog.has p "way" d_way) (ok : T.Ok) (so : StOk st) (x : TabAt h t T d e) {ep : Nat} (hd : h[d]? = some (.dict (stK st) ep)) (hl : st.length <= 1000) {s : Seat} (hs : T.In s) {nm : Nm} {bv : AV} {b : Option (List Seat)} (hb : BestIs h bv b) {v4 : Option AV} {F : Nat} :
    ∃ bv', execSs (cF p (n + 4) F) b_best_way_1 [some (.loc t), some (.str nm), some bv, some (sv s), v4] h = .ok .next [some (.loc t), some (.str nm), some bv', some (sv s), some (.loc h.length)] (h ++ [.list ((wayOf T.hm st s).map sv)]) /\ BestIs (h ++ [.list ((wayOf T.hm st s).map sv)]) bv' (pickW st b (wayOf T.hm st s)) := by
  have W := wayOf_way (hm := T.hm) st s
  have hws := W.short
  refine xE W.last fun sl hsl => ?_
  have hb' := hb.more (g := [.list ((wayOf T.hm st s).map sv)])
  have x' := x.more (g := [.list ((wayOf T.hm st s).map sv)])
  have hd' := get_old (g := [.list ((wayOf T.hm st s).map sv)]) hd
  have ew := run_way (n := n) H hw ok so x hd hl hs
  have g1 : (h ++ [.list ((wayOf T.hm st s).map sv)])[h.length]? = some (.list ((wayOf T.hm st s).map sv)) := get_new
  have hL := last_sub (by lia) g1 hsl
  have ho : openW st (wayOf T.hm st s) = (st.lookup sl).isNone := by unfold openW; rw [hsl]
  rw [b_best_way_1]
  have e1 : execS (cF p (n + 4) F) (.asg 4 (.im "way" (.loc 0) (.cons (.loc 3) .nil))) [some (.loc t), some (.str nm), some bv, some (sv s), v4] h = .ok .next [some (.loc t), some (.str nm), some bv, some (sv s), some (.loc h.length)] (h ++ [.list ((wayOf T.hm st s).map sv)]) := by
    simp only [s_asg, x_loc, x_im, xs_nil, xs_cons, List.set, loc0, locS, okO_some, bok, sok, if_true, x.meth (m := "way") rfl, ew]
  rw [ss_step e1]
  generalize h ++ [.list ((wayOf T.hm st s).map sv)] = h1 at hb' x' hd' g1 hL
  rcases hn : st.lookup sl with _ | m
  case some =>
    refine ⟨bv, ?_, ?_⟩
    . simp only [ss_cons, ss_nil, s_asg, s_iff, x_int, x_loc, x_neg, x_and, x_or, x_cmp, x_isn, x_bi, x_attr, x_sub, xs_nil, xs_cons, List.set, loc0, locS, okO_some, bok, sok, turn_next, Bool.and_false, Bool.false_eq_true, if_false, boolO_some, negAV_int, cond_f, condV_f, Bool.not_true, hL, x'.std, st_notin hd', hn, Option.isSome_some]
    . rw [pickW, ho, hn]; exact hb'
  case none =>
    rcases hb' with ⟨rfl, rfl⟩ | ⟨u, i, rfl, rfl, hi⟩
    . refine ⟨.loc h.length, ?_, ?_⟩
      . have e0 : (isNoneAV .none == true) = true := rfl
        simp only [ss_cons, ss_nil, s_asg, s_iff, x_int, x_loc, x_neg, x_and, x_or, x_cmp, x_isn, x_bi, x_attr, x_sub, xs_nil, xs_cons, List.set, loc0, locS, okO_some, bok, sok, turn_next, Bool.and_false, Bool.false_eq_true, if_false, boolO_some, negAV_int, cond_t, condV_t, Bool.not_false, hL, x'.std, st_notin hd', hn, Option.isSome_none, e0]
      . rw [pickW, ho, hn]; exact .inr ⟨_, _, rfl, rfl, g1⟩
    . have e0 : (isNoneAV (.loc i) == true) = false := rfl
      by_cases hlt : (wayOf T.hm st s).length < u.length
      . refine ⟨.loc h.length, ?_, ?_⟩
        . simp only [ss_cons, ss_nil, s_asg, s_iff, x_int, x_loc, x_neg, x_and, x_or, x_cmp, x_isn, x_bi, x_attr, x_sub, xs_nil, xs_cons, List.set, loc0, locS, okO_some, bok, sok, turn_next, Bool.and_false, Bool.false_eq_true, if_false, boolO_some, negAV_int, cond_t, condV_t, condV_f, Bool.not_false, hL, x'.std, st_notin hd', hn, Option.isSome_none, e0, len_seats g1, len_seats hi, c_lt, decide_eq_true (show ((wayOf T.hm st s).length : Int) < u.length by lia)]
        . rw [pickW, ho, hn, shorter, decide_eq_true hlt]; exact .inr ⟨_, _, rfl, rfl, g1⟩
      . refine ⟨.loc i, ?_, ?_⟩
        . simp only [ss_cons, ss_nil, s_asg, s_iff, x_int, x_loc, x_neg, x_and, x_or, x_cmp, x_isn, x_bi, x_attr, x_sub, xs_nil, xs_cons, List.set, loc0, locS, okO_some, bok, sok, turn_next, Bool.and_false, Bool.false_eq_true, if_false, boolO_some, negAV_int, cond_f, condV_t, condV_f, Bool.not_false, hL, x'.std, st_notin hd', hn, Option.isSome_none, e0, len_seats g1, len_seats hi, c_lt, decide_eq_false (show ¬((wayOf T.hm st s).length : Int) < u.length by lia)]
        . rw [pickW, ho, hn, shorter, decide_eq_false hlt]; exact .inr ⟨_, _, rfl, rfl, hi⟩
theorem run_best_way (H : HasT p) (hw : Prog.has p "way" d_way) (hp : Prog.has p "best_way" d_best_way) (ok : T.Ok) (so : StOk st) (x : TabAt h t T d e) {ep : Nat} (hd : h[d]? = some (.dict (stK st) ep)) (hl : st.length <= 1000) {nm : Nm} (G : Good nm) :
    ∃ bv g, semF p (n + 5) false "best_way" [.loc t, .str nm] h = .ok bv (h ++ g) /\ g.length = 2 /\ BestIs (h ++ g) bv (bestOf T st nm) := by
  refine xEA (run_in (n := n + 4) (h := h) hp (as := [.loc t, .str nm]) [some (.loc t), some (.str nm), none, none, none] rfl rfl) fun F hF e1 => ?_
  refine xEA (best_step (n := n) (F := F) H hw ok so x hd hl (Tb.hm_in ok G (r := 0) (.inl rfl)) (nm := nm) (bv := .none) (b := none) (.inl ⟨rfl, rfl⟩) (v4 := none)) fun b1 s1 B1 => ?_
  refine xEA (best_step (n := n) (F := F) H hw ok so (x.more (g := [.list ((wayOf T.hm st (T.hm nm 0)).map sv)])) (get_old hd) hl (Tb.hm_in ok G (r := 1) (.inr rfl)) (nm := nm) B1 (v4 := some (.loc h.length))) fun b2 s2 B2 => ?_
  have f2 := for_two (put := put1 3) (body := fun l h => execSs (cF p (n + 4) F) b_best_way_1 l h) (a := sv (T.hm nm 0)) (b := sv (T.hm nm 1)) (f := F) (l := [some (.loc t), some (.str nm), some .none, none, none]) rfl s1 rfl s2 (by lia)
  refine ⟨b2, [.list ((wayOf T.hm st (T.hm nm 0)).map sv)] ++ [.list ((wayOf T.hm st (T.hm nm 1)).map sv)], ?_, rfl, ?_⟩
  . rw [e1, d_best_way, <- List.append_assoc]
    simp only [ss_cons, ss_nil, s_ret, s_asg, s_for, x_none, x_loc, x_im, xs_nil, xs_cons, List.set, loc0, locS, okO_some, bok, sok, turn_next, turn_ret, Bool.false_eq_true, if_false, retR_ret, if_true, x.meth (m := "homes") rfl, run_homes (n := n + 1) H.a H.d H.b H.g ok x G, Tb.homes, f2]
  . rw [<- List.append_assoc]; exact B2
theorem next_dn {a : Nat} {k : Nat} (ha : a <= 2000) : nextAt (.rng a 0 (-1)) k h = some (rngItems a 0 (-1))[k]? := next_of (if_pos ⟨.inr rfl, Nat.le_trans ha (by decide), by decide⟩)
theorem dn_length (a : Nat) : (rngItems a 0 (-1)).length = a := by
  unfold rngItems
  rw [List.length_map, List.length_range]
  show (if (-1 : Int) = 1 then _ else if (-1 : Int) = -1 then ((a : Int) - 0).toNat else 0) = a
  rw [if_neg (by decide), if_pos rfl]; lia
theorem dn_item {a k : Nat} {v : AV} (h : (rngItems a 0 (-1))[k]? = some v) : k < a /\ v = .int ((a - k : Nat) : Int) := by
  have hk := (List.getElem?_eq_some_iff.mp h).1
  rw [dn_length] at hk
  refine ⟨hk, ?_⟩
  unfold rngItems at h
  rw [List.getElem?_map, List.getElem?_range (by have := dn_length a; unfold rngItems at this; rw [List.length_map, List.length_range] at this; lia)] at h
  cases h
  exact congrArg AV.int (show (a : Int) + (-1) * (k : Int) = ((a - k : Nat) : Int) by lia)
theorem range_dn {a : Nat} (ha : a <= 2000) : rangeOf [.int a, .int 0, .int (-1)] = some (.rng a 0 (-1)) := by
  have : (-1 : Int) = -1 /\ (a : Int).natAbs <= sizeLim /\ (0 : Int).natAbs <= sizeLim := ⟨rfl, Nat.le_trans ha (by decide), by decide⟩
  exact if_pos this
theorem seat_sub {i : Nat} {w : List Seat} (hi : h[i]? = some (.list (w.map sv))) (hl : w.length <= 2000) {k : Nat} (hk : k < w.length) : subAV (.loc i) (.int k) h = .ok (sv (seatAt w k)) h :=
  sub_list (lim_le (by rw [List.length_map]; lia)) hi (by lia) (by rw [Int.toNat_natCast, List.getElem?_map, seat_at hk]; rfl)
inductive MovInv (h1 : AHeap) (t i : Nat) (nm : Nm) (ms : List Mv) (k : Nat) : Locs -> AHeap -> Prop
  | mk (v4 : Option AV) : MovInv h1 t i nm ms k [some (.loc t), some (.str nm), some (.loc i), some (.loc h1.length), v4] (h1 ++ [.list ((ms.take k).map mvAV)])
theorem run_moves (H : HasT p) (hw : Prog.has p "way" d_way) (hp : Prog.has p "best_way" d_best_way) (hp2 : Prog.has p "moves" d_moves) (ok : T.Ok) (so : StOk st) (x : TabAt h t T d e) {ep ep2 : Nat} (hd : h[d]? = some (.dict (stK st) ep)) (he : h[e]? = some (.dict (thK th) ep2)) (hl : st.length <= 1000) {nm : Nm} (G : Good nm) (hn : th.lookup nm = none) :
    (bestOf T st nm = none /\ ∃ g, semF p (n + 6) false "moves" [.loc t, .str nm] h = .exc "NoRoom" (h ++ g)) \/
    ∃ w g, bestOf T st nm = some w /\ semF p (n + 6) false "moves" [.loc t, .str nm] h = .ok (.loc (h.length + 2)) (h ++ g) /\ (h ++ g)[h.length + 2]? = some (.list ((movesOf st w).map mvAV)) := by
  refine xEA (run_in (n := n + 5) (h := h) hp2 (as := [.loc t, .str nm]) [some (.loc t), some (.str nm), none, none, none] rfl rfl) fun F hF e1 => ?_
  refine xEEAA (run_best_way (n := n) H hw hp ok so x hd hl G) fun bv g eb hg B => ?_
  rcases B with ⟨b0, rfl⟩ | ⟨w, i, b0, rfl, hi⟩
  . refine .inl ⟨b0, g, ?_⟩
    have e0 : (isNoneAV .none == true) = true := rfl
    rw [e1, d_moves]
    simp only [ss_cons, ss_nil, s_expr, s_ret, s_asg, s_iff, s_for, x_int, x_loc, x_bin, x_neg, x_cmp, x_isn, x_call, x_bi, x_im, x_attr, x_list, x_range, s_raise, xs_nil, xs_cons, List.set, loc0, locS, okO_some, bok, sok, turn_next, turn_exc, retR_exc, Bool.and_false, Bool.false_eq_true, if_false, boolO_some, negAV_int, cond_t, cond_f, if_true, run_need_name (n := n + 3) H.a H.d G, x.thg, th_in he, hn, Option.isSome_none, x.meth (m := "best_way") rfl, eb, e0]
  . refine xEAA (best_is b0) fun r hr W hop => ?_
    have hws := W.short
    have hpos := W.pos
    have hw1 : w.length - 1 <= 2000 := by lia
    have hw2 : w.length <= 2000 := by lia
    have e0 : (isNoneAV (.loc i) == true) = false := rfl
    have hgl : (h ++ g).length = h.length + 2 := by rw [List.length_append, hg]
    have x1 := x.more (g := g)
    have hd1 := get_old (g := g) hd
    generalize hh1 : h ++ g = h1 at hi x1 hd1 eb hgl
    obtain ⟨l', h', e2, I2⟩ := forLoop_all (i := 4) (src := .rng ((w.length - 1 : Nat) : Int) 0 (-1)) (items := rngItems ((w.length - 1 : Nat) : Int) 0 (-1)) (body := fun l h => execSs (cF p (n + 5) F) b_moves_1 l h)
      (MovInv h1 t i nm (movesOf st w)) (fun k l h' _ => next_dn hw1) (fun k v l h' hv hI => by
        cases hI
        refine xA (dn_item hv) fun hk qq1 => ?_; subst qq1
        obtain ⟨q, hq, hqk, hql⟩ := dn_at hk
        refine xEA (W.step q _ _ (seat_at (Nat.lt_of_succ_lt hql)) (seat_at hql)) fun m hm _ => ?_
        have hi' := get_old (g := [.list (((movesOf st w).take k).map mvAV)]) hi
        have hc : ((q + 1 : Nat) : Int) - 1 = (q : Int) := by lia
        have ha : bmAV .append (.loc h1.length) [.tup [.str m, sv (seatAt w q), sv (seatAt w (q + 1))]] (h1 ++ [.list (((movesOf st w).take k).map mvAV)]) = .ok .none (h1 ++ [.list (((movesOf st w).take (k + 1)).map mvAV)]) := by
          refine (append_ok get_new (lim_lt (by rw [List.length_map, List.length_take]; omega))).trans ?_
          rw [set_new]
          have hmv : (movesOf st w)[k]? = some (moveAt st w (q + 1)) := by
            unfold movesOf
            rw [List.getElem?_map, List.getElem?_range hk, <- hq]; rfl
          rw [List.take_add_one, hmv, Option.toList_some, List.map_append, List.map_cons, List.map_nil, mvAV, moveAt, Nat.add_sub_cancel, hm]; rfl
        rw [hq]
        refine ⟨_, _, ?_, MovInv.mk (some (.int ((q + 1 : Nat) : Int)))⟩
        simp only [b_moves_1, ss_cons, ss_nil, s_expr, x_int, x_loc, x_bin, x_bm, x_attr, x_sub, x_tup, xs_nil, xs_cons, List.set, loc0, locS, okO_some, bok, sok, turn_next, b_sub, if_true, tup3, bmOk_append get_new, x1.more.std, seat_sub hi' hw2 hql, hc, seat_sub hi' hw2 (Nat.lt_of_succ_lt hql), st_get (get_old hd1) hm, ha]) (f := F)
      (l := [some (.loc t), some (.str nm), some (.loc i), some (.loc h1.length), none]) (h := h1 ++ [.list []]) (by rw [dn_length]; lia) (MovInv.mk (h1 := h1) (ms := movesOf st w) (k := 0) none)
    cases I2 with
    | mk v4 =>
    have hfull : (movesOf st w).take (rngItems ((w.length - 1 : Nat) : Int) 0 (-1)).length = movesOf st w := by
      rw [dn_length]
      exact List.take_of_length_le (by unfold movesOf; rw [List.length_map, List.length_range]; exact Nat.le_refl _)
    rw [hfull, hgl] at e2
    refine .inr ⟨w, g ++ [.list ((movesOf st w).map mvAV)], b0, ?_, ?_⟩
    . have hc : ((w.length : Nat) : Int) - 1 = ((w.length - 1 : Nat) : Int) := by lia
      rw [e1, d_moves, <- List.append_assoc, hh1]
      simp only [ss_cons, ss_nil, s_expr, s_ret, s_asg, s_iff, s_for, x_int, x_loc, x_bin, x_neg, x_cmp, x_isn, x_call, x_bi, x_im, x_attr, x_list, x_range, s_raise, xs_nil, xs_cons, List.set, loc0, locS, okO_some, bok, sok, turn_next, turn_ret, turn_exc, Bool.and_false, Bool.false_eq_true, if_false, boolO_some, negAV_int, retR_ret, cond_f, b_sub, if_true, run_need_name (n := n + 3) H.a H.d G, x.thg, th_in he, hn, Option.isSome_none, x.meth (m := "best_way") rfl, eb, e0, newList_ok (vs := []) (by show 0 <= _; exact Nat.zero_le _), len_seats (get_old hi), hc, range_dn hw1, e2, hgl]
    . rw [<- List.append_assoc, hh1, <- hgl]; exact get_new
end
end
section
open PySem Cu
noncomputable def b_put_1 : Ss :=
  (.cons (.setitem (.attr "standing" (.loc 0)) (.loc 7) (.loc 5))
  .nil)
noncomputable def d_put : FDef := ⟨3, 8,
  (.cons (.expr (.call "need_name" (.cons (.loc 1) .nil)))
  (.cons (.expr (.call "need_value" (.cons (.loc 2) .nil)))
  (.cons (.iff (.cmp .isin (.loc 1) (.attr "things" (.loc 0)))
    (.cons (.setitem (.attr "things" (.loc 0)) (.loc 1) (.loc 2))
    (.cons (.ret (.list .nil))
    .nil))
    .nil)
  (.cons (.asg 3 (.im "moves" (.loc 0) (.cons (.loc 1) .nil)))
  (.cons (.asg 4 (.im "best_way" (.loc 0) (.cons (.loc 1) .nil)))
  (.cons (.fort [5, 6, 7] (.loc 3) b_put_1)
  (.cons (.setitem (.attr "standing" (.loc 0)) (.sub (.loc 4) (.int 0)) (.loc 1))
  (.cons (.setitem (.attr "things" (.loc 0)) (.loc 1) (.loc 2))
  (.cons (.ret (.loc 3))
  .nil)))))))))⟩
noncomputable def d_put_at : FDef := ⟨4, 4,
  (.cons (.expr (.call "need_name" (.cons (.loc 1) .nil)))
  (.cons (.expr (.call "need_value" (.cons (.loc 2) .nil)))
  (.cons (.iff (.cmp .isin (.loc 1) (.attr "things" (.loc 0)))
    (.cons (.raise "Twice")
    .nil)
    .nil)
  (.cons (.expr (.im "need_nest" (.loc 0) (.cons (.loc 3) .nil)))
  (.cons (.iff (.cmp .notin (.loc 3) (.im "homes" (.loc 0) (.cons (.loc 1) .nil)))
    (.cons (.raise "NoHome")
    .nil)
    .nil)
  (.cons (.iff (.cmp .isin (.loc 3) (.attr "standing" (.loc 0)))
    (.cons (.raise "Taken")
    .nil)
    .nil)
  (.cons (.setitem (.attr "standing" (.loc 0)) (.loc 3) (.loc 1))
  (.cons (.setitem (.attr "things" (.loc 0)) (.loc 1) (.loc 2))
  .nil))))))))⟩
noncomputable def d_need_there : FDef := ⟨2, 2,
  (.cons (.iff (.or (.not (.isi (.loc 1) .str)) (.cmp .notin (.loc 1) (.attr "things" (.loc 0))))
    (.cons (.raise "Unknown")
    .nil)
    .nil)
  .nil)⟩
noncomputable def d_take_out : FDef := ⟨2, 3,
  (.cons (.asg 2 (.im "where" (.loc 0) (.cons (.loc 1) .nil)))
  (.cons (.expr (.bm .pop (.attr "standing" (.loc 0)) (.cons (.loc 2) .nil)))
  (.cons (.ret (.bm .pop (.attr "things" (.loc 0)) (.cons (.loc 1) .nil)))
  .nil)))⟩
noncomputable def d_where : FDef := ⟨2, 4,
  (.cons (.expr (.im "need_there" (.loc 0) (.cons (.loc 1) .nil)))
  (.cons (.asgt [2, 3] (.im "homes" (.loc 0) (.cons (.loc 1) .nil)))
  (.cons (.iff (.cmp .eq (.bm .get (.attr "standing" (.loc 0)) (.cons (.loc 2) .nil)) (.loc 1))
    (.cons (.ret (.loc 2))
    .nil)
    .nil)
  (.cons (.ret (.loc 3))
  .nil))))⟩
structure Kp (X : List Nat) (h h' : AHeap) : Prop where
  len : h.length <= h'.length
  old : ∀ i o, i ∉ X -> h[i]? = some o -> h'[i]? = some o
section
variable {X : List Nat} {h h' h'' : AHeap}
theorem Kp.refl : Kp X h h := ⟨Nat.le_refl _, fun _ _ _ e => e⟩
theorem Kp.app {g : AHeap} : Kp X h (h ++ g) := ⟨by rw [List.length_append]; lia, fun _ _ _ e => get_old e⟩
theorem Kp.set {j : Nat} {o : AObj} (hj : j ∈ X) : Kp X h (h.set j o) := ⟨by rw [List.length_set]; exact Nat.le_refl _, fun i x hi e => get_other e fun q => hi (q ▸ hj)⟩
theorem Kp.trans (a : Kp X h h') (b : Kp X h' h'') : Kp X h h'' := ⟨Nat.le_trans a.len b.len, fun i o hi e => b.old i o hi (a.old i o hi e)⟩
theorem Kp.wide {Y : List Nat} (a : Kp X h h') (s : ∀ x ∈ X, x ∈ Y) : Kp Y h h' := ⟨a.len, fun i o hi e => a.old i o (fun q => hi (s i q)) e⟩
end
noncomputable def isNs : AObj -> Bool
  | .inst _ => true
  | .ns _ => true
  | _ => false
section
variable {p : Prog} {n : Nat} {h h' : AHeap} {t d e : Nat} {T : Tb} {st : St'} {th : Th} {X : List Nat}
theorem TabAt.kp (x : TabAt h t T d e) (k : Kp X h h') (hX : ∀ j ∈ X, ∃ o, h[j]? = some o /\ isNs o = false) : TabAt h' t T d e := by
  refine xEA x.inst fun m h1 h2 => ?_
  refine ⟨m, k.old _ _ (fun q => ?_) h1, k.old _ _ (fun q => ?_) h2⟩
  . refine xEA (hX _ q) fun o ho hn => ?_; rw [h1] at ho; cases ho; cases hn
  . refine xEA (hX _ q) fun o ho hn => ?_; rw [h2] at ho; cases ho; cases hn
theorem st_put {j ep : Nat} {s : Seat} {nm : Nm} (hj : h[j]? = some (.dict (stK st) ep)) (hl : st.length < sizeLim) : ∃ ep', setItemAV (.loc j) (sv s) (.str nm) h = some (h.set j (.dict (stK (put st s nm)) ep')) := by
  refine xE (set_dict (v := .str nm) hj (sv_key s) stK_sort (by rw [stK, mk_length]; exact hl)) fun ep' e => ?_
  rw [stK_put] at e
  exact ⟨ep', e⟩
theorem th_put {j ep : Nat} {nm : Nm} {v : Int} (hj : h[j]? = some (.dict (thK th) ep)) (hl : th.length < sizeLim) : ∃ ep', setItemAV (.loc j) (.str nm) (.int v) h = some (h.set j (.dict (thK (put th nm v)) ep')) := by
  refine xE (set_dict (v := .int v) hj (str_key nm) thK_sort (by rw [thK, mk_length]; exact hl)) fun ep' e => ?_
  rw [thK_put] at e
  exact ⟨ep', e⟩
theorem set_same {j : Nat} {o : AObj} (hj : h[j]? = some o) : h.set j o = h := by
  refine xE (List.getElem?_eq_some_iff.mp hj) fun h1 h2 => ?_
  subst h2
  exact List.set_getElem_self h1
theorem in_homes {nm : Nm} {r : Int} (hr : r = 0 \/ r = 1) : cmpAV h .notin (sv (T.hm nm r)) (T.homes nm) = some false := by
  rw [show T.homes nm = .tup ([T.hm nm 0, T.hm nm 1].map sv) from rfl, notin_tup]
  rcases hr with rfl | rfl <;> simp
theorem move_next {m : Mv} {a b c f g v5 v6 v7 : Option AV} : puts [5, 6, 7] [a, b, c, f, g, v5, v6, v7] (mvAV m) = some [a, b, c, f, g, some (.str m.1), some (sv m.2.1), some (sv m.2.2)] := rfl
structure HasP (p : Prog) : Prop extends HasT p where
  way : Prog.has p "way" d_way
  best : Prog.has p "best_way" d_best_way
  moves : Prog.has p "moves" d_moves
  put : Prog.has p "put" d_put
  putAt : Prog.has p "put_at" d_put_at
  need : Prog.has p "need_there" d_need_there
  take : Prog.has p "take_out" d_take_out
  wher : Prog.has p "where" d_where
inductive PutInv (h : AHeap) (t d i : Nat) (st : St') (w : List Seat) (a2 a3 a5 : AV) (k : Nat) : Locs -> AHeap -> Prop
  | mk (T' : St') (ep' : Nat) (v5 v6 v7 : Option AV) (M : Mid st w (w.length - 1 - k) T') (hl : T'.length <= st.length + k) : PutInv h t d i st w a2 a3 a5 k [some (.loc t), some a2, some a3, some (.loc i), some a5, v5, v6, v7] (h.set d (.dict (stK T') ep'))
theorem put_loop {s0 : Seat} {w : List Seat} (W : Way T.hm st s0 w) (nd : (st.map (·.1)).Nodup) (x : TabAt h t T d e) {ep : Nat} (hd : h[d]? = some (.dict (stK st) ep)) (hl : st.length <= 1000) {i : Nat} (hi : h[i]? = some (.list ((movesOf st w).map mvAV))) {a2 a3 a5 : AV} {F : Nat} (hF : 50000 <= F) :
    ∃ l' h', forLoop (puts [5, 6, 7]) (fun l h => execSs (cF p (n + 6) F) b_put_1 l h) (.loc i) F 0 [some (.loc t), some a2, some a3, some (.loc i), some a5, none, none, none] h = .ok .next l' h' /\ PutInv h t d i st w a2 a3 a5 (w.length - 1) l' h' := by
  have hws := W.short
  have hpos := W.pos
  have hdi : d ≠ i := by rintro rfl; rw [hd] at hi; cases hi
  have hml : ((movesOf st w).map mvAV).length = w.length - 1 := by rw [List.length_map, movesOf, List.length_map, List.length_range]
  have := forLoop_put (put := puts [5, 6, 7]) (src := .loc i) (items := (movesOf st w).map mvAV) (body := fun l h => execSs (cF p (n + 6) F) b_put_1 l h)
    (PutInv h t d i st w a2 a3 a5) (fun k l h' hI => by cases hI; exact next_list (get_other hi hdi)) (fun k v l h' hv hI => by
      cases hI with
      | mk T' ep' v5 v6 v7 M hTl =>
      have hk := (List.getElem?_eq_some_iff.mp hv).1
      rw [hml] at hk
      have hmv : (movesOf st w)[k]? = some (moveAt st w (w.length - 1 - k)) := by
        unfold movesOf
        rw [List.getElem?_map, List.getElem?_range hk]; rfl
      rw [List.getElem?_map, hmv] at hv
      cases hv
      refine ⟨_, move_next, ?_⟩
      obtain ⟨q, hq, hqk, hql⟩ := dn_at hk
      have h1 : w[q]? = some (seatAt w q) := seat_at (Nat.lt_of_succ_lt hql)
      have h2 : w[q + 1]? = some (seatAt w (q + 1)) := seat_at hql
      refine xEA (W.step q _ _ h1 h2) fun m hm _ => ?_
      have hmo : (moveAt st w (q + 1)) = (m, seatAt w q, seatAt w (q + 1)) := by rw [moveAt, Nat.add_sub_cancel, hm]; rfl
      rw [hq, hmo]
      have x' := TabAt.kp (X := [d]) (h' := h.set d (.dict (stK T') ep')) x (Kp.set List.mem_cons_self) (fun j hj => by rcases List.mem_singleton.mp hj with rfl; exact ⟨_, hd, rfl⟩)
      have hTs : T'.length < sizeLim := lim_lt (by lia)
      refine xE (st_put (s := seatAt w (q + 1)) (nm := m) (get_set (o' := .dict (stK T') ep') hd) hTs) fun ep2 hs => ?_
      rw [List.set_set] at hs
      rw [hq] at M
      refine ⟨_, _, ?_, PutInv.mk (put T' (seatAt w (q + 1)) m) ep2 (some (.str m)) (some (sv (seatAt w q))) (some (sv (seatAt w (q + 1)))) ?_ ?_⟩
      . simp only [b_put_1, ss_cons, ss_nil, s_expr, s_ret, s_asg, s_set, s_iff, s_whil, s_for, s_seta, x_none, x_bool, x_int, x_str, x_loc, x_bin, x_neg, x_not, x_and, x_or, x_cmp, x_cmp2, x_isn, x_call, x_bi, x_isi, x_new, x_im, x_bm, x_attr, x_slice, x_sub, x_tup, x_list, x_dict0, x_range, x_comp, s_fort, s_asgt, s_raise, xs_nil, xs_cons, List.map_cons, List.map_nil, List.cons_append, List.nil_append, List.replicate, List.set, loc0, locS, okO_some, bok, sok, turn_next, turn_ret, turn_exc, turn_cont, lap_next, lap_cont, lap_ret, lap_exc, bexc, sexc, retR_exc, nx_ok, nx_s, Bool.and_false, Bool.false_eq_true, if_false, boolO_some, heapO_some, notAV_bool, negAV_int, retR_ret, retR_next, cond_t, cond_f, condV_t, condV_f, cmpAnd_t, cmpAnd_f, b_add, b_sub, Bool.not_true, Bool.not_false, if_true, tup2, tup3, decide_true, decide_false, x'.std, hs]
      . rw [hqk]
        exact M.step W h1 h2 hm
      . have := put_length (t := T') (a := seatAt w (q + 1)) (b := m)
        split at this <;> lia) (f := F)
    (l := [some (.loc t), some a2, some a3, some (.loc i), some a5, none, none, none]) (h := h) (by lia) (by
      have := PutInv.mk (h := h) (t := t) (d := d) (i := i) (st := st) (w := w) (a2 := a2) (a3 := a3) (a5 := a5) (k := 0) st ep none none none (Mid.start nd) (Nat.le_refl _)
      rwa [set_same hd] at this)
  rw [hml] at this
  exact this
structure Sit (h : AHeap) (t d e : Nat) (T : Tb) (st : St') (th : Th) : Prop where
  ok : T.Ok
  tab : TabAt h t T d e
  fd : ∃ ep, h[d]? = some (.dict (stK st) ep)
  fe : ∃ ep, h[e]? = some (.dict (thK th) ep)
  ne : d ≠ e
  ord : Ord T st th
  len : st.length < 64
theorem Sit.kp (S : Sit h t d e T st th) {X : List Nat} (k : Kp X h h') (hX : ∀ j ∈ X, ∃ o, h[j]? = some o /\ isNs o = false) (hd : d ∉ X) (he : e ∉ X) : Sit h' t d e T st th :=
  ⟨S.ok, S.tab.kp k hX, S.fd.imp fun _ q => k.old _ _ hd q, S.fe.imp fun _ q => k.old _ _ he q, S.ne, S.ord, S.len⟩
theorem Sit.more {g : AHeap} (S : Sit h t d e T st th) : Sit (h ++ g) t d e T st th := S.kp (X := []) Kp.app (fun j hj => nomatch hj) (fun q => nomatch q) (fun q => nomatch q)
inductive PutRes (h : AHeap) (t d e : Nat) (T : Tb) (st : St') (th : Th) (nm : Nm) (v : Int) : Res AV -> Prop
  | no (g : AHeap) (hb : bestOf T st nm = none) : PutRes h t d e T st th nm v (.exc "NoRoom" (h ++ g))
  | yes (h' : AHeap) (st' : St') (w : List Seat) (i : Nat) (hb : bestOf T st nm = some w) (A : Aft st w nm st') (S : Sit h' t d e T st' (put th nm v)) (k : Kp [d, e] h h') (hi : h'[i]? = some (.list ((movesOf st w).map mvAV))) (hh : h.length <= i) : PutRes h t d e T st th nm v (.ok (.loc i) h')
theorem run_put (H : HasP p) (S : Sit h t d e T st th) {nm : Nm} (G : Good nm) {v : Int} (v1 : -1000000000 <= v) (v2 : v <= 1000000000) (hn : th.lookup nm = none) (hl : st.length < 63) :
    PutRes h t d e T st th nm v (semF p (n + 7) false "put" [.loc t, .str nm, .int v] h) := by
  obtain ⟨ok, x, ⟨ep1, hd⟩, ⟨ep2, he⟩, hde, O, _⟩ := S
  refine xEA (run_in (n := n + 6) (h := h) H.put (as := [.loc t, .str nm, .int v]) [some (.loc t), some (.str nm), some (.int v), none, none, none, none, none] rfl rfl) fun F hF e1 => ?_
  have hlt := O.len
  have hl' : st.length <= 1000 := by lia
  rcases run_moves (n := n) H.toHasT H.way H.best H.moves ok O.so x hd he hl' G hn with ⟨b0, g, em⟩ | ⟨w, g, b0, em, hi⟩
  . have : semF p (n + 7) false "put" [.loc t, .str nm, .int v] h = .exc "NoRoom" (h ++ g) := by
      rw [e1, d_put]
      exact fin_exc ((ss_step (st_expr (ev_call rfl (run_need_name (n := n + 4) H.a H.d G)))).trans ((ss_step (st_expr (ev_call rfl (run_need_value (n := n + 4) H.c H.f v1 v2)))).trans ((ss_step (st_f (ev_cmp rfl (ev_attr rfl x.thg) ((th_in he).trans (by rw [hn]; rfl))) rfl)).trans (ss_exc (st_asg_x (ev_im rfl (x.meth rfl) rfl em))))))
    rw [this]
    exact .no g b0
  . refine xEAA (best_is b0) fun r hr W hop => ?_
    have x1 := x.more (g := g)
    have hd1 := get_old (g := g) hd
    have he1 := get_old (g := g) he
    have k1 : Kp [d, e] h (h ++ g) := Kp.app
    generalize h ++ g = h1 at em hi x1 hd1 he1 k1
    refine xEEAA (run_best_way (n := n + 1) H.toHasT H.way H.best ok O.so x1 hd1 hl' G) fun bv g2 eb _ B => ?_
    rw [b0] at B
    rcases B with ⟨b1, _⟩ | ⟨w', b, b1, rfl, hb⟩
    . cases b1
    . cases b1
      have x2 := x1.more (g := g2)
      have hd2 := get_old (g := g2) hd1
      have he2 := get_old (g := g2) he1
      have hi2 := get_old (g := g2) hi
      have k2 : Kp [d, e] h (h1 ++ g2) := k1.trans Kp.app
      generalize h1 ++ g2 = h2 at eb hb x2 hd2 he2 hi2 k2
      have hws := W.short
      refine xEEA (put_loop (p := p) (n := n) (F := F) W O.nd x2 hd2 hl' hi2 (a2 := .str nm) (a3 := .int v) (a5 := .loc b) hF) fun l3 h3 e3 I3 => ?_
      cases I3 with
      | mk T' ep' v5 v6 v7 M hTl =>
      rw [Nat.sub_self] at M
      have x3 := TabAt.kp (X := [d]) (h' := h2.set d (.dict (stK T') ep')) x2 (Kp.set List.mem_cons_self) (fun j hj => by rcases List.mem_singleton.mp hj with rfl; exact ⟨_, hd2, rfl⟩)
      refine xE (st_put (s := T.hm nm r) (nm := nm) (get_set (o' := .dict (stK T') ep') hd2) (lim_lt (by lia))) fun ep3 hs => ?_
      rw [List.set_set] at hs
      have hdb : d ≠ b := by rintro rfl; rw [hd2] at hb; cases hb
      have hb0 : subAV (.loc b) (.int 0) (h2.set d (.dict (stK T') ep')) = .ok (sv (T.hm nm r)) (h2.set d (.dict (stK T') ep')) := by
        have := seat_sub (get_other (o' := .dict (stK T') ep') hb hdb) (show w.length <= 2000 by lia) (k := 0) W.pos
        have e0 : seatAt w 0 = T.hm nm r := by have q := W.head; rw [seat_at W.pos] at q; exact Option.some.inj q
        rw [e0] at this
        exact this
      have x4 := TabAt.kp (X := [d]) (h' := h2.set d (.dict (stK (put T' (T.hm nm r) nm)) ep3)) x2 (Kp.set List.mem_cons_self) (fun j hj => by rcases List.mem_singleton.mp hj with rfl; exact ⟨_, hd2, rfl⟩)
      have he3 := get_other (o' := .dict (stK (put T' (T.hm nm r) nm)) ep3) he2 hde
      refine xE (th_put (nm := nm) (v := v) he3 (lim_lt (by lia))) fun ep4 hs2 => ?_
      have x5 := TabAt.kp (X := [e]) (h' := (h2.set d (.dict (stK (put T' (T.hm nm r) nm)) ep3)).set e (.dict (thK (put th nm v)) ep4)) x4 (Kp.set List.mem_cons_self) (fun j hj => by rcases List.mem_singleton.mp hj with rfl; exact ⟨_, he3, rfl⟩)
      have : semF p (n + 7) false "put" [.loc t, .str nm, .int v] h = .ok (.loc (h.length + 2)) ((h2.set d (.dict (stK (put T' (T.hm nm r) nm)) ep3)).set e (.dict (thK (put th nm v)) ep4)) := by
        rw [e1, d_put]
        exact fin_ret ((ss_step (st_expr (ev_call rfl (run_need_name (n := n + 4) H.a H.d G)))).trans ((ss_step (st_expr (ev_call rfl (run_need_value (n := n + 4) H.c H.f v1 v2)))).trans ((ss_step (st_f (ev_cmp rfl (ev_attr rfl x.thg) ((th_in he).trans (by rw [hn]; rfl))) rfl)).trans ((ss_step (st_asg (ev_im rfl (x.meth rfl) rfl em))).trans ((ss_step (st_asg (ev_im rfl (x1.meth rfl) rfl eb))).trans ((ss_step (st_fort rfl rfl e3)).trans ((ss_step (st_set rfl (ev_attr rfl x3.std) (ev_sub rfl rfl hb0) hs)).trans ((ss_step (st_set rfl (ev_attr rfl x4.thg) rfl hs2)).trans (ss_last (st_ret rfl))))))))))
      rw [this]
      have O' := O.done (v := v) G hn hr W hop M
      have hpl := put_length (t := th) (a := nm) (b := v)
      rw [if_neg (lookup_none.mp hn)] at hpl
      exact .yes _ _ w _ b0 (M.aft W) ⟨ok, x5, ⟨ep3, get_other (get_set hd2) hde.symm⟩, ⟨ep4, get_set he3⟩, hde, O', by rw [O'.len, hpl]; lia⟩ ((k2.trans (Kp.set (by simp))).trans (Kp.set (by simp))) (get_other (get_other hi2 fun q => by rw [<- q, hd2] at hi2; cases hi2) fun q => by rw [<- q, he2] at hi2; cases hi2) (Nat.le_add_right ..)
inductive PatRes (h : AHeap) (t d e : Nat) (T : Tb) (st : St') (th : Th) (nm : Nm) (v : Int) (s : Seat) : Res AV -> Prop
  | twice (hn : (th.lookup nm).isSome = true) : PatRes h t d e T st th nm v s (.exc "Twice" h)
  | taken (hn : th.lookup nm = none) (hs : (st.lookup s).isSome = true) : PatRes h t d e T st th nm v s (.exc "Taken" h)
  | done (hn : th.lookup nm = none) (hs : st.lookup s = none) (h' : AHeap) (S : Sit h' t d e T (put st s nm) (put th nm v)) (k : Kp [d, e] h h') : PatRes h t d e T st th nm v s (.ok .none h')
theorem run_put_at (H : HasP p) (S : Sit h t d e T st th) {nm : Nm} (G : Good nm) {v : Int} (v1 : -1000000000 <= v) (v2 : v <= 1000000000) {r : Int} (hr : r = 0 \/ r = 1) (hl : st.length < 63) :
    PatRes h t d e T st th nm v (T.hm nm r) (semF p (n + 4) false "put_at" [.loc t, .str nm, .int v, sv (T.hm nm r)] h) := by
  obtain ⟨ok, x, ⟨ep1, hd⟩, ⟨ep2, he⟩, hde, O, _⟩ := S
  have hlt := O.len
  have hin := Tb.hm_in ok G hr
  have hno := in_homes (h := h) (T := T) (nm := nm) hr
  generalize hq : T.hm nm r = s at hin hno
  refine xEA (run_in (n := n + 3) (h := h) H.putAt (as := [.loc t, .str nm, .int v, sv s]) [some (.loc t), some (.str nm), some (.int v), some (sv s)] rfl rfl) fun F hF e1 => ?_
  have i1 : evalX (cF p (n + 3) F) (.cmp .isin (.loc 1) (.attr "things" (.loc 0))) [some (.loc t), some (.str nm), some (.int v), some (sv s)] h = .ok (.bool (th.lookup nm).isSome) h := ev_cmp rfl (ev_attr rfl x.thg) (th_in he)
  have i2 : evalX (cF p (n + 3) F) (.cmp .isin (.loc 3) (.attr "standing" (.loc 0))) [some (.loc t), some (.str nm), some (.int v), some (sv s)] h = .ok (.bool (st.lookup s).isSome) h := ev_cmp rfl (ev_attr rfl x.std) (st_in hd)
  rw [e1, d_put_at, ss_step (st_expr (ev_call rfl (run_need_name (n := n + 1) H.a H.d G))), ss_step (st_expr (ev_call rfl (run_need_value (n := n + 1) H.c H.f v1 v2)))]
  rcases hn : th.lookup nm with _ | u
  case some =>
    rw [hn] at i1
    rw [ss_exc (st_t i1 rfl)]
    exact .twice (by rw [hn]; rfl)
  case none =>
    rw [hn] at i1
    rw [ss_step (st_f i1 rfl), ss_step (st_expr (ev_im rfl (x.meth rfl) rfl (run_need_nest (n := n + 1) H.c H.i x hin))), ss_step (st_f (ev_cmp rfl (ev_im rfl (x.meth rfl) rfl (run_homes (n := n) H.a H.d H.b H.g ok x G)) hno) rfl)]
    rcases hs : st.lookup s with _ | m
    case some =>
      rw [hs] at i2
      rw [ss_exc (st_t i2 rfl)]
      exact .taken hn (by rw [hs]; rfl)
    case none =>
      rw [hs] at i2
      refine xE (st_put (s := s) (nm := nm) hd (lim_lt (by lia))) fun k1 s1 => ?_
      have x1 := TabAt.kp (X := [d]) (h' := h.set d (.dict (stK (put st s nm)) k1)) x (Kp.set List.mem_cons_self) (fun j hj => by rcases List.mem_singleton.mp hj with rfl; exact ⟨_, hd, rfl⟩)
      have he1 := get_other (o' := .dict (stK (put st s nm)) k1) he hde
      refine xE (th_put (nm := nm) (v := v) he1 (lim_lt (by lia))) fun k2 s2 => ?_
      have O' := O.done (v := v) G hn hr (T' := st) (w := [s]) (by rw [hq]; exact Way.one st s) (fun u q => by cases q; exact hs) (Mid.start O.nd)
      have hpl := put_length (t := th) (a := nm) (b := v)
      rw [if_neg (lookup_none.mp hn)] at hpl
      rw [hq] at O'
      rw [ss_step (st_f i2 rfl), ss_step (st_set rfl (ev_attr rfl x.std) rfl s1), ss_last (st_set rfl (ev_attr rfl x1.thg) rfl s2)]
      exact .done hn hs _ ⟨ok, x1.kp (X := [e]) (Kp.set List.mem_cons_self) (fun j hj => by rcases List.mem_singleton.mp hj with rfl; exact ⟨_, he1, rfl⟩), ⟨k1, get_other (get_set hd) hde.symm⟩, ⟨k2, get_set he1⟩, hde, O', by rw [O'.len, hpl]; lia⟩ ((Kp.set (by simp)).trans (Kp.set (by simp)))
end
end
section
open PySem Cu
section
variable {p : Prog} {n : Nat} {h h' : AHeap} {t d e : Nat} {T : Tb} {st : St'} {th : Th}
theorem mk_drop {α β : Type} [DecidableEq α] [BEq α] [LawfulBEq α] {kf : α -> Key} {vf : β -> AV} (inj : ∀ a b, kf a = kf b -> a = b) {t : List (α × β)} {a : α} : dropKey (mk kf vf t) (kf a) = mk kf vf (drop t a) := by
  have hb : ∀ x : α, (kf x == kf a) = (x == a) := fun x => by
    by_cases h : x = a
    . subst h; simp
    . rw [beq_eq_false_iff_ne.mpr h, beq_eq_false_iff_ne.mpr fun e => h (inj _ _ e)]
  unfold dropKey drop mk
  rw [List.filter_map]
  congr 2
  funext p
  simp only [Function.comp, hb]
theorem bmOk_pop {i ep : Nat} {kvs : List (Key × AV)} (hd : h[i]? = some (.dict kvs ep)) : bmOk .pop (.loc i) h = true := by
  show (dictAt h i).isSome = true
  rw [dictAt_of hd]; rfl
theorem pop_dict {i ep : Nat} {kvs : List (Key × AV)} {kv v : AV} {k : Key} (hd : h[i]? = some (.dict kvs ep)) (hk : kv.key? = some k) (hs : sortOk kvs k = true) (hv : kvs.lookup k = some v) : bmAV .pop (.loc i) [kv] h = .ok v (h.set i (.dict (dropKey kvs k) (ep + 1))) := by
  show popAV (.loc i) [kv] h = _
  delta popAV; dsimp only
  rw [dictAt_of hd]
  show popD h i kvs ep kv.key? = _
  rw [hk]
  delta popD; dsimp only
  rw [if_pos hs, hv]
theorem st_pop {i ep : Nat} {s : Seat} {m : Nm} (hd : h[i]? = some (.dict (stK st) ep)) (hs : st.lookup s = some m) : bmAV .pop (.loc i) [sv s] h = .ok (.str m) (h.set i (.dict (stK (drop st s)) (ep + 1))) := by
  have := pop_dict hd (sv_key s) stK_sort (v := .str m) (by rw [stK_at, hs]; rfl)
  rwa [stK, mk_drop kp_inj] at this
theorem th_pop {i ep : Nat} {nm : Nm} {v : Int} (hd : h[i]? = some (.dict (thK th) ep)) (hs : th.lookup nm = some v) : bmAV .pop (.loc i) [.str nm] h = .ok (.int v) (h.set i (.dict (thK (drop th nm)) (ep + 1))) := by
  have := pop_dict hd (str_key nm) thK_sort (v := .int v) (by rw [thK_at, hs]; rfl)
  rwa [thK, mk_drop ks_inj] at this
theorem eq_optS {o : Option Nm} {nm : Nm} : cmpAV h .eq (optS o) (.str nm) = some (decide (o = some nm)) := by
  rcases o with _ | x
  case none => rfl
  case some =>
    show some (decide (x = nm)) = _
    by_cases q : x = nm
    . subst q; rw [decide_eq_true rfl, decide_eq_true rfl]
    . rw [decide_eq_false q, decide_eq_false fun r => q (Option.some.inj r)]
theorem run_need_there (hp : Prog.has p "need_there" d_need_there) (x : TabAt h t T d e) {ep2 : Nat} (he : h[e]? = some (.dict (thK th) ep2)) {nm : Nm} : semF p (n + 1) false "need_there" [.loc t, .str nm] h = if (th.lookup nm).isSome then .ok .none h else .exc "Unknown" h := by
  refine xEA (run_at (n := n) (h := h) hp (as := [.loc t, .str nm]) rfl) fun F hF e1 => ?_
  have t1 : ∀ h, isTy h (.str nm) .str = some true := fun _ => rfl
  rw [e1, d_need_there]
  rcases hn : th.lookup nm with _ | v
  case none => simp only [ss_cons, ss_nil, s_iff, x_loc, x_not, x_or, x_cmp, x_isi, x_attr, s_raise, List.map_cons, List.map_nil, List.cons_append, List.nil_append, loc0, locS, okO_some, bok, sok, turn_exc, retR_exc, Bool.false_eq_true, if_false, boolO_some, notAV_bool, cond_t, condV_f, Bool.not_true, Bool.not_false, t1, x.thg, th_notin he, hn, Option.isSome_none]
  case some => simp only [ss_cons, ss_nil, s_iff, x_loc, x_not, x_or, x_cmp, x_isi, x_attr, s_raise, List.map_cons, List.map_nil, List.cons_append, List.nil_append, loc0, locS, okO_some, bok, sok, turn_next, turn_exc, Bool.false_eq_true, if_false, boolO_some, notAV_bool, retR_next, cond_f, condV_f, Bool.not_true, if_true, t1, x.thg, th_notin he, hn, Option.isSome_some]
noncomputable def whereOf (T : Tb) (st : St') (nm : Nm) : Seat := if st.lookup (T.hm nm 0) = some nm then T.hm nm 0 else T.hm nm 1
theorem Ord.stands (O : Ord T st th) {nm : Nm} (h : (th.lookup nm).isSome = true) : st.lookup (whereOf T st nm) = some nm := by
  refine xE ((O.there nm).mpr h) fun s hs => ?_
  unfold whereOf
  split
  . assumption
  . rename_i q
    refine xAA (O.home s nm hs) fun _ row e => ?_
    rcases row with r | r
    . rw [r] at e; rw [e] at hs; exact absurd hs q
    . rw [r] at e; rw [<- e]; exact hs
theorem run_where (H : HasP p) (ok : T.Ok) (O : Ord T st th) (x : TabAt h t T d e) {ep1 ep2 : Nat} (hd : h[d]? = some (.dict (stK st) ep1)) (he : h[e]? = some (.dict (thK th) ep2)) {nm : Nm} (G : Good nm) :
    semF p (n + 4) false "where" [.loc t, .str nm] h = if (th.lookup nm).isSome then .ok (sv (whereOf T st nm)) h else .exc "Unknown" h := by
  refine xEA (run_in (n := n + 3) (h := h) H.wher (as := [.loc t, .str nm]) [some (.loc t), some (.str nm), none, none] rfl rfl) fun F hF e1 => ?_
  have en := run_need_there (n := n + 2) H.need x he (nm := nm)
  rw [e1, d_where]
  rcases hn : th.lookup nm with _ | v
  case none =>
    rw [hn] at en
    simp only [Option.isSome_none, Bool.false_eq_true, if_false] at en
    simp only [ss_cons, ss_nil, s_expr, s_ret, s_iff, x_loc, x_cmp, x_im, x_bm, x_attr, s_asgt, xs_nil, xs_cons, loc0, locS, okO_some, bok, turn_exc, sexc, retR_exc, Bool.false_eq_true, if_false, if_true, x.meth (m := "need_there") rfl, en, Option.isSome_none]
  case some =>
    rw [hn] at en
    simp only [Option.isSome_some, if_true] at en
    have pu : puts [2, 3] [some (.loc t), some (.str nm), none, none] (T.homes nm) = some [some (.loc t), some (.str nm), some (sv (T.hm nm 0)), some (sv (T.hm nm 1))] := rfl
    have lo : ∀ l : Locs, locsO (some l) h = .ok .next l h := fun _ => rfl
    unfold whereOf
    by_cases q : st.lookup (T.hm nm 0) = some nm
    . simp only [ss_cons, ss_nil, s_expr, s_ret, s_iff, x_loc, x_cmp, x_im, x_bm, x_attr, s_asgt, xs_nil, xs_cons, loc0, locS, okO_some, bok, sok, turn_next, turn_ret, Bool.false_eq_true, if_false, boolO_some, retR_ret, cond_t, if_true, decide_true, x.meth (m := "need_there") rfl, en, x.meth (m := "homes") rfl, run_homes (n := n) H.a H.d H.b H.g ok x G, pu, lo, x.std, bmOk_get hd, get_st hd, eq_optS, q, Option.isSome_some]
    . simp only [ss_cons, ss_nil, s_expr, s_ret, s_iff, x_loc, x_cmp, x_im, x_bm, x_attr, s_asgt, xs_nil, xs_cons, loc0, locS, okO_some, bok, sok, turn_next, turn_ret, Bool.false_eq_true, if_false, boolO_some, retR_ret, cond_f, if_true, decide_false, x.meth (m := "need_there") rfl, en, x.meth (m := "homes") rfl, run_homes (n := n) H.a H.d H.b H.g ok x G, pu, lo, x.std, bmOk_get hd, get_st hd, eq_optS, q, Option.isSome_some]
theorem run_take_no (H : HasP p) (S : Sit h t d e T st th) {nm : Nm} (G : Good nm) (hn : th.lookup nm = none) :
    semF p (n + 5) false "take_out" [.loc t, .str nm] h = .exc "Unknown" h := by
  obtain ⟨ok, x, ⟨ep1, hd⟩, ⟨ep2, he⟩, hde, O, _⟩ := S
  refine xEA (run_in (n := n + 4) (h := h) H.take (as := [.loc t, .str nm]) [some (.loc t), some (.str nm), none] rfl rfl) fun F hF e1 => ?_
  have ew := run_where (n := n) H ok O x hd he G
  rw [hn] at ew
  rw [e1, d_take_out, ss_exc (st_asg_x (ev_im rfl (x.meth rfl) rfl ew))]; rfl
theorem Sit.takes (S : Sit h t d e T st th) {nm : Nm} (hn : (th.lookup nm).isSome = true) {k1 k2 : Nat} : Sit ((h.set d (.dict (stK (drop st (whereOf T st nm))) k1)).set e (.dict (thK (drop th nm)) k2)) t d e T (drop st (whereOf T st nm)) (drop th nm) := by
  obtain ⟨ok, x, ⟨ep1, hd⟩, ⟨ep2, he⟩, hde, O, hl⟩ := S
  have x' := TabAt.kp (X := [d]) (h' := h.set d (.dict (stK (drop st (whereOf T st nm))) k1)) x (Kp.set List.mem_cons_self) (fun j hj => by rcases List.mem_singleton.mp hj with rfl; exact ⟨_, hd, rfl⟩)
  have he' := get_other (o' := .dict (stK (drop st (whereOf T st nm))) k1) he hde
  exact ⟨ok, x'.kp (X := [e]) (Kp.set List.mem_cons_self) (fun j hj => by rcases List.mem_singleton.mp hj with rfl; exact ⟨_, he', rfl⟩), ⟨_, get_other (get_set hd) hde.symm⟩, ⟨_, get_set he'⟩, hde, O.drop (O.stands hn), Nat.lt_of_le_of_lt (List.length_filter_le ..) hl⟩
theorem run_take_out (H : HasP p) (S : Sit h t d e T st th) {nm : Nm} (G : Good nm) {v : Int} (hn : th.lookup nm = some v) :
    ∃ h', semF p (n + 5) false "take_out" [.loc t, .str nm] h = .ok (.int v) h' /\ Kp [d, e] h h' /\ Sit h' t d e T (drop st (whereOf T st nm)) (drop th nm) := by
  have S' := fun k1 k2 => S.takes (nm := nm) (by rw [hn]; rfl) (k1 := k1) (k2 := k2)
  obtain ⟨ok, x, ⟨ep1, hd⟩, ⟨ep2, he⟩, hde, O, _⟩ := S
  refine xEA (run_in (n := n + 4) (h := h) H.take (as := [.loc t, .str nm]) [some (.loc t), some (.str nm), none] rfl rfl) fun F hF e1 => ?_
  have ew := run_where (n := n) H ok O x hd he G
  have hst := O.stands (nm := nm) (by rw [hn]; rfl)
  rw [hn] at ew
  simp only [Option.isSome_some, if_true] at ew
  have x' := TabAt.kp (X := [d]) (h' := h.set d (.dict (stK (drop st (whereOf T st nm))) (ep1 + 1))) x (Kp.set List.mem_cons_self) (fun j hj => by rcases List.mem_singleton.mp hj with rfl; exact ⟨_, hd, rfl⟩)
  have he' := get_other (o' := .dict (stK (drop st (whereOf T st nm))) (ep1 + 1)) he hde
  refine ⟨(h.set d (.dict (stK (drop st (whereOf T st nm))) (ep1 + 1))).set e (.dict (thK (drop th nm)) (ep2 + 1)), ?_, (Kp.set (by simp)).trans (Kp.set (by simp)), S' _ _⟩
  rw [e1, d_take_out]
  simp only [ss_cons, ss_nil, s_expr, s_ret, s_asg, x_loc, x_im, x_bm, x_attr, xs_nil, xs_cons, List.set, loc0, locS, okO_some, bok, sok, turn_next, turn_ret, retR_ret, if_true, x.meth (m := "where") rfl, ew, x.std, bmOk_pop hd, st_pop hd hst, x'.thg, bmOk_pop he', th_pop he' hn]
end
end
section
open PySem Cu
noncomputable def d__law_other : FDef := ⟨3, 3,
  (.cons (.iff (.cmp .notin (.loc 2) (.loc 0))
    (.cons (.ret .none)
    .nil)
    .nil)
  (.cons (.ret (.sub (.sub (.loc 1) (.sub (.loc 0) (.loc 2))) (.bin .sub (.int 1) (.sub (.loc 2) (.int 0)))))
  .nil))⟩
noncomputable def b__law_way_1 : Ss :=
  (.cons (.expr (.bm .append (.loc 3) (.cons (.loc 4) .nil)))
  (.cons (.asg 4 (.call "_law_other" (.cons (.loc 0) (.cons (.loc 1) (.cons (.loc 4) .nil)))))
  .nil))
noncomputable def t__law_way_1 : X := (.and (.isn false (.loc 4)) (.cmp .notin (.loc 4) (.loc 3)))
noncomputable def d__law_way : FDef := ⟨3, 5,
  (.cons (.asg 3 (.list (.cons (.loc 2) .nil)))
  (.cons (.asg 4 (.call "_law_other" (.cons (.loc 0) (.cons (.loc 1) (.cons (.loc 2) .nil)))))
  (.cons (.whil t__law_way_1 b__law_way_1)
  (.cons (.ret (.loc 3))
  .nil))))⟩
structure Hold (h : AHeap) (a b : Nat) (T : Tb) (ns : List Nm) (hl : St') : Prop where
  ok : T.Ok
  good : ∀ nm ∈ ns, Good nm
  dict : ∃ ep, h[a]? = some (.dict (stK hl) ep)
  homes : HomesAt h b T ns
  held : HeldT T ns hl
  len : hl.length <= 100
noncomputable def otherO (T : Tb) (hl : St') (s : Seat) : Option Seat := (hl.lookup s).map fun m => T.hm m (1 - s.1)
noncomputable def optV (o : Option Seat) : AV := match o with
  | some s => sv s
  | none => .none
section
variable {p : Prog} {n : Nat} {h : AHeap} {a b : Nat} {T : Tb} {ns : List Nm} {hl : St'}
theorem Hold.more {g : AHeap} (K : Hold h a b T ns hl) : Hold (h ++ g) a b T ns hl := ⟨K.ok, K.good, K.dict.imp fun _ => get_old, K.homes.more, K.held, K.len⟩
theorem run_other (hp : Prog.has p "_law_other" d__law_other) (K : Hold h a b T ns hl) {s : Seat} : semF p (n + 1) false "_law_other" [.loc a, .loc b, sv s] h = .ok (optV (otherO T hl s)) h := by
  refine xEA (run_at (n := n) (h := h) hp (as := [.loc a, .loc b, sv s]) rfl) fun F hF e => ?_
  refine xE K.dict fun ep hd => ?_
  rw [e, d__law_other, otherO]
  rcases hs : hl.lookup s with _ | m
  case none => simp only [ss_cons, ss_nil, s_ret, s_iff, x_none, x_int, x_loc, x_bin, x_cmp, x_sub, List.map_cons, List.map_nil, List.cons_append, List.nil_append, loc0, locS, okO_some, bok, sok, turn_ret, boolO_some, retR_ret, cond_t, Bool.not_false, st_notin hd, hs, Option.isSome_none]; rfl
  case some =>
    refine xAA (K.held.all s m hs) fun hm row _ => ?_
    simp only [ss_cons, ss_nil, s_ret, s_iff, x_none, x_int, x_loc, x_bin, x_cmp, x_sub, List.map_cons, List.map_nil, List.cons_append, List.nil_append, loc0, locS, okO_some, bok, sok, turn_next, turn_ret, boolO_some, retR_ret, cond_f, b_sub, Bool.not_true, st_notin hd, hs, Option.isSome_some, st_get hd hs, K.homes.get hm, sv0, homes_at (other_row row)]; rfl
theorem notin_seats {i : Nat} {s : Seat} {w : List Seat} (hn : h[i]? = some (.list (w.map sv))) : cmpAV h .notin (sv s) (.loc i) = some (!decide (s ∈ w)) := congrArg (Option.map not) (in_seats hn)
theorem lway_loop (hp : Prog.has p "_law_other" d__law_other) (K : Hold h a b T ns hl) {s0 : Seat} {F : Nat} :
    ∀ k f w s, Way T.hm hl s0 w -> k <= f -> hl.length + 1 < k + w.length -> w[w.length - 1]? = some s ->
      ∃ v, whileLoop (fun l h => (evalX (cF p (n + 1) F) t__law_way_1 l h).noExc) (fun l h => (execSs (cF p (n + 1) F) b__law_way_1 l h).noExc) f
          [some (.loc a), some (.loc b), some (sv s0), some (.loc h.length), some (optV (otherO T hl s))] (h ++ [.list (w.map sv)]) = .ok .next [some (.loc a), some (.loc b), some (sv s0), some (.loc h.length), v] (h ++ [.list ((wayGo T.hm hl k w).map sv)]) := by
  intro k
  induction k with
  | zero => intro f w s W _ hf; have := W.short; lia
  | succ k ih =>
    intro f w s W hkf hf hs
    obtain ⟨f, rfl⟩ : ∃ g, f = g + 1 := ⟨f - 1, by lia⟩
    have hws := W.short
    have hlen := K.len
    have hwl : w.length <= 2000 := by lia
    rcases hn : hl.lookup s with _ | m
    case none =>
      rw [go_free hs hn]
      have e0 : otherO T hl s = none := by rw [otherO, hn]; rfl
      rw [e0]
      exact ⟨_, rfl⟩
    case some =>
      have e0 : otherO T hl s = some (T.hm m (1 - s.1)) := by rw [otherO, hn]; rfl
      rw [e0, show optV (some (T.hm m (1 - s.1))) = sv (T.hm m (1 - s.1)) from rfl]
      have g1 := get_new (h := h) (o := .list (w.map sv))
      have e1 : ∀ v, evalX (cF p (n + 1) F) t__law_way_1 [some (.loc a), some (.loc b), v, some (.loc h.length), some (sv (T.hm m (1 - s.1)))] (h ++ [.list (w.map sv)]) = .ok (.bool (!decide (T.hm m (1 - s.1) ∈ w))) (h ++ [.list (w.map sv)]) := fun v => by
        have e2 : (isNoneAV (sv (T.hm m (1 - s.1))) == false) = true := rfl
        simp only [t__law_way_1, x_loc, x_and, x_cmp, x_isn, loc0, locS, okO_some, bok, boolO_some, condV_t, e2, notin_seats g1]
      show ∃ v, (Res.st (Res.noExc (evalX _ t__law_way_1 [some (.loc a), some (.loc b), some (sv s0), some (.loc h.length), some (sv (T.hm m (1 - s.1)))] _)) _ _) = _
      rw [e1, nx_ok, sok]
      by_cases hin : T.hm m (1 - s.1) ∈ w
      . rw [go_shut hs hn hin, decide_eq_true hin]
        exact ⟨_, rfl⟩
      . rw [go_on hs hn hin, decide_eq_false hin]
        refine xE (ih f (w ++ [T.hm m (1 - s.1)]) (T.hm m (1 - s.1)) (W.snoc hs hn hin) (by lia) (by rw [List.length_append, List.length_singleton]; lia) (by rw [List.length_append, List.length_singleton, Nat.add_sub_cancel]; exact List.getElem?_concat_length)) fun v e => ?_
        refine ⟨v, ?_⟩
        rw [<- e]
        simp only [b__law_way_1, ss_cons, ss_nil, s_expr, s_asg, x_loc, x_call, x_bm, xs_nil, xs_cons, List.set, loc0, locS, okO_some, bok, sok, turn_next, lap_next, nx_s, cond_t, Bool.not_false, if_true, bmOk_append g1, add_seat hwl, run_other (n := n) hp K.more]
theorem run_law_way (hp : Prog.has p "_law_other" d__law_other) (hp2 : Prog.has p "_law_way" d__law_way) (K : Hold h a b T ns hl) {s : Seat} :
    semF p (n + 2) false "_law_way" [.loc a, .loc b, sv s] h = .ok (.loc h.length) (h ++ [.list ((wayOf T.hm hl s).map sv)]) := by
  refine xEA (run_at (n := n + 1) (h := h) hp2 (as := [.loc a, .loc b, sv s]) rfl) fun F hF e => ?_
  have hlen := K.len
  refine xE (lway_loop (n := n) (s0 := s) hp K (F := F) (hl.length + 1) F [s] s (Way.one hl s) (by lia) (by rw [List.length_singleton]; lia) rfl) fun v e2 => ?_
  rw [List.map_cons, List.map_nil] at e2
  rw [e]
  simp only [d__law_way, ss_cons, ss_nil, s_ret, s_asg, s_whil, x_loc, x_call, x_list, xs_nil, xs_cons, List.map_cons, List.map_nil, List.cons_append, List.nil_append, List.replicate, List.set, loc0, locS, okO_some, bok, sok, turn_next, turn_ret, retR_ret, list1, run_other (n := n) hp K.more, e2]
  rfl
end
structure Mid2 (t : St') (w : List Seat) (j : Nat) (T : St') : Prop where
  a : ∀ i s s', j <= i -> w[i]? = some s -> w[i + 1]? = some s' -> T.lookup s' = t.lookup s
  b : ∀ s, (∀ i, j <= i -> w[i]? ≠ some s) -> T.lookup s = t.lookup s
  nd : (T.map (·.1)).Nodup
section
variable {t M : St'} {w : List Seat} {T : Tb} {j : Nat}
theorem Mid2.start (nd : (t.map (·.1)).Nodup) : Mid2 t w (w.length - 1) t :=
  ⟨fun i s s' hi _ h => absurd (List.getElem?_eq_some_iff.mp h).1 (by omega), fun _ _ => rfl, nd⟩
theorem Mid2.old (m : Mid2 t w (j + 1) M) (nd : w.Nodup) {s : Seat} (h : w[j]? = some s) : M.lookup s = t.lookup s := m.b s fun i hi q => by have := nd_at nd q h; lia
theorem Mid2.step (m : Mid2 t w (j + 1) M) (nd : w.Nodup) {a b : Seat} {n : Nm} (ha : w[j]? = some a) (hb : w[j + 1]? = some b) (hn : t.lookup a = some n) : Mid2 t w j (put (drop M a) b n) := by
  refine ⟨fun i s s' hi h1 h2 => ?_, fun s hs => ?_, put_nodup (drop_nodup m.nd)⟩
  . rw [put_lookup]
    by_cases e : s' = b
    . subst e
      have : i + 1 = j + 1 := nd_at nd h2 hb
      have : i = j := by lia
      subst this
      rw [ha] at h1; cases h1
      rw [if_pos rfl, hn]
    . rw [if_neg e, drop_lookup, if_neg ?_]
      . refine m.a i s s' ?_ h1 h2
        apply Nat.lt_of_le_of_ne hi
        rintro rfl
        rw [hb] at h2; cases h2; exact e rfl
      . rintro rfl
        have := nd_at nd h2 ha
        lia
  . rw [put_lookup, if_neg (by rintro rfl; exact hs (j + 1) (by lia) hb), drop_lookup, if_neg (by rintro rfl; exact hs j (Nat.le_refl _) ha)]
    exact m.b s fun i hi => hs i (by lia)
theorem Mid2.aft {s0 : Seat} {nm : Nm} (W : Way T.hm t s0 w) (m : Mid2 t w 0 M) : Aft t w nm (put M s0 nm) := by
  refine ⟨fun i s s' h1 h2 => ?_, fun s h => ?_, fun s h => ?_, put_nodup m.nd⟩
  . rw [put_lookup, if_neg ?_]
    . exact m.a i s s' (Nat.zero_le _) h1 h2
    . rintro rfl
      exact absurd (nd_at W.nd h2 W.head) (by lia)
  . rw [W.head] at h
    cases h
    rw [put_lookup, if_pos rfl]
  . rw [put_lookup, if_neg ?_]
    . exact m.b s fun i _ q => h (List.mem_of_getElem? q)
    . rintro rfl
      exact h (List.mem_of_getElem? W.head)
theorem drop_len {s : Seat} {m : Nm} (h : t.lookup s = some m) : (drop t s).length < t.length := by
  unfold drop
  rw [List.length_filter_lt_length_iff_exists]
  exact ⟨_, lookup_mem h, by simp⟩
theorem put_len_le {s : Seat} {m : Nm} : (put t s m).length <= t.length + 1 := by
  rw [put_length]; split <;> lia
end
end
section
open PySem Cu
noncomputable def b__law_told_1 : Ss :=
  (.cons (.asg 2 (.im "moves" (.loc 0) (.cons (.loc 1) .nil)))
  (.cons (.ret (.tup (.cons (.loc 2) (.cons (.im "put" (.loc 0) (.cons (.loc 1) (.cons (.int 1) .nil))) .nil))))
  .nil))
noncomputable def b__law_told_2 : Ss :=
  (.cons (.ret .none)
  .nil)
noncomputable def d__law_told : FDef := ⟨2, 3,
  (.cons (.tryx b__law_told_1 (.cons ["NoRoom"] b__law_told_2 .nil))
  .nil)⟩
structure HasE (p : Prog) : Prop extends HasP p where
  oth : Prog.has p "_law_other" d__law_other
  lway : Prog.has p "_law_way" d__law_way
  told : Prog.has p "_law_told" d__law_told
inductive Tell8 (h : AHeap) (t d e : Nat) (T : Tb) (st : St') (th : Th) (nm : Nm) : Res AV -> Prop
  | no (g : AHeap) (hb : bestOf T st nm = none) : Tell8 h t d e T st th nm (.ok .none (h ++ g))
  | yes (h' : AHeap) (st' : St') (w : List Seat) (i j : Nat) (hb : bestOf T st nm = some w) (A : Aft st w nm st') (S : Sit h' t d e T st' (put th nm 1)) (k : Kp [d, e] h h') (hi : h'[i]? = some (.list ((movesOf st w).map mvAV))) (hj : h'[j]? = some (.list ((movesOf st w).map mvAV))) : Tell8 h t d e T st th nm (.ok (.tup [.loc i, .loc j]) h')
section
variable {p : Prog} {n : Nat} {h h' : AHeap} {t d e : Nat} {T : Tb} {st hl : St'} {th : Th} {nm : Nm}
theorem run_told (H : HasE p) (S : Sit h t d e T st th) (G : Good nm) (hn : th.lookup nm = none) (hlen : st.length < 63) : Tell8 h t d e T st th nm (semF p (n + 8) false "_law_told" [.loc t, .str nm] h) := by
  refine xEA (run_in (n := n + 7) (h := h) H.told (as := [.loc t, .str nm]) [some (.loc t), some (.str nm), none] rfl rfl) fun F hF e1 => ?_
  rw [e1, d__law_told]
  refine xE S.fd fun ep1 hd => ?_
  refine xE S.fe fun ep2 he => ?_
  rcases run_moves (n := n + 1) H.toHasT H.way H.best H.moves S.ok S.ord.so S.tab hd he (by lia) G hn with ⟨hb, g, em⟩ | ⟨w, g, hb, em, hi⟩
  . have e2 : execSs (cF p (n + 7) F) b__law_told_1 [some (.loc t), some (.str nm), none] h = .exc "NoRoom" [some (.loc t), some (.str nm), none] (h ++ g) := ss_exc (st_asg_x (ev_im rfl (S.tab.meth rfl) rfl em))
    rw [ss_last (try_exc rfl e2 rfl)]
    exact .no g hb
  . have S1 := S.more (g := g)
    have q := run_put (n := n) H.toHasP S1 G (v := 1) (by decide) (by decide) hn hlen
    generalize hr : semF p (n + 7) false "put" [.loc t, .str nm, .int 1] (h ++ g) = r at q
    rcases q with ⟨g', hb'⟩ | ⟨h2, st2, w', i, hb', A, S2, k, hi2, hh⟩
    . rw [hb] at hb'; exact nomatch hb'
    . rw [hb] at hb'
      rcases Option.some.inj hb' with rfl
      have hne : h.length + 2 ∉ [d, e] := fun q => by
        rcases List.mem_cons.mp q with q | q
        . rw [q, S1.fd.choose_spec] at hi; exact nomatch hi
        . rw [List.mem_singleton.mp q, S1.fe.choose_spec] at hi; exact nomatch hi
      have e2 : execSs (cF p (n + 7) F) b__law_told_1 [some (.loc t), some (.str nm), none] h = .ok (.ret (.tup [.loc (h.length + 2), .loc i])) [some (.loc t), some (.str nm), some (.loc (h.length + 2))] h2 :=
        (ss_step (st_asg (ev_im rfl (S.tab.meth rfl) rfl em))).trans (ss_last (st_ret (ev_tup (ev_cons rfl (ev_one (ev_im rfl (S1.tab.meth rfl) rfl hr))) (by show 2 <= 1000; decide))))
      rw [ss_last (try_ok rfl e2)]
      exact .yes h2 st2 w _ i hb A S2 (Kp.app.trans k) (k.old _ _ hne hi) hi2
theorem comp_two {body : AV -> AHeap -> Res (Option AV)} {a b x y : AV} {f : Nat} {h1 h2 : AHeap} (e1 : body a h = .ok (some x) h1) (e2 : body b h1 = .ok (some y) h2) (hf : 3 <= f) : compLoop body (.tup [a, b]) f 0 [] h = .ok [x, y] h2 := by
  obtain ⟨g, rfl⟩ : ∃ g, f = g + 3 := ⟨f - 3, by lia⟩
  show (body a h).bind (fun r h => match r with | some x => if ([] : List AV).length < sizeLim then compLoop body (.tup [a, b]) (g + 2) 1 ([] ++ [x]) h else .bad | none => compLoop body (.tup [a, b]) (g + 2) 1 [] h) = _
  rw [e1]
  show (if ([] : List AV).length < sizeLim then compLoop body (.tup [a, b]) (g + 2) 1 ([] ++ [x]) h1 else Res.bad) = _
  rw [if_pos (show ([] : List AV).length < sizeLim by decide)]
  show (body b h1).bind (fun r h => match r with | some y => if [x].length < sizeLim then compLoop body (.tup [a, b]) (g + 1) 2 ([x] ++ [y]) h else .bad | none => compLoop body (.tup [a, b]) (g + 1) 2 [x] h) = _
  rw [e2]
  show (if [x].length < sizeLim then Res.ok ([x] ++ [y]) h2 else Res.bad) = _
  rw [if_pos (show [x].length < sizeLim from (by decide : 1 < sizeLim))]
  rfl
theorem ev_comp0 {c : Ctx} {l : Locs} {x it : X} {k j : Nat} {v : AV} {vs : List AV} {h1 h2 : AHeap} (hq : c.q = false) (ei : evalX c it l h = .ok v h1) (el : compLoop (fun v h => (evalX c x (inner l k j v) h).bind fun x h => .ok (some x) h) v c.fuel 0 [] h1 = .ok vs h2) (hl : vs.length <= 1000) :
    evalX c (.comp x k j it .nil) l h = .ok (.loc h2.length) (h2 ++ [.list vs]) := by
  have e : evalX c (.comp x k j it .nil) l h = (evalX c it l h).noExc.bind fun src h => if c.q then .bad else (compLoop (fun v h => (evalX c x (inner l k j v) h).bind fun x h => .ok (some x) h) src c.fuel 0 [] h).noExc.bind fun vs h => newList vs h := rfl
  rw [e, ei, nx_ok, bok, hq, el]
  exact newList_ok (lim_le (by lia))
variable {a b : Nat} {ns : List Nm} {F : Nat}
noncomputable abbrev wayAt (T : Tb) (hl : St') (nm : Nm) (r : Int) : List Seat := wayOf T.hm hl (T.hm nm r)
noncomputable abbrev wayO (T : Tb) (hl : St') (nm : Nm) (r : Int) : AObj := .list ((wayAt T hl nm r).map sv)
theorem ev_way (H : HasE p) (K : Hold h a b T ns hl) {l : Locs} {i0 i1 j : Nat} {s : Seat} (q0 : locAt l i0 = some (.loc a)) (q1 : locAt l i1 = some (.loc b)) (q2 : locAt l j = some (sv s)) :
    evalX (cF p (n + 2) F) (.call "_law_way" (.cons (.loc i0) (.cons (.loc i1) (.cons (.loc j) .nil)))) l h = .ok (.loc h.length) (h ++ [.list ((wayOf T.hm hl s).map sv)]) :=
  ev_call (ev_cons (by rw [x_loc, q0]; rfl) (ev_cons (by rw [x_loc, q1]; rfl) (ev_one (by rw [x_loc, q2]; rfl)))) (run_law_way (n := n) H.oth H.lway K)
theorem ev_ways (H : HasE p) (K : Hold h a b T ns hl) {l : Locs} {i0 i1 j : Nat} {it : X} (q0 : ∀ v, locAt (inner l 1 j v) i0 = some (.loc a)) (q1 : ∀ v, locAt (inner l 1 j v) i1 = some (.loc b)) (q2 : ∀ v, locAt (inner l 1 j v) j = some v) (ei : evalX (cF p (n + 2) F) it l h = .ok (T.homes nm) h) (hF : 50000 <= F) :
    evalX (cF p (n + 2) F) (.comp (.call "_law_way" (.cons (.loc i0) (.cons (.loc i1) (.cons (.loc j) .nil)))) 1 j it .nil) l h = .ok (.loc (h.length + 2)) (h ++ [wayO T hl nm 0, wayO T hl nm 1, .list [.loc h.length, .loc (h.length + 1)]]) := by
  have e1 : ∀ h (K : Hold h a b T ns hl) s, (evalX (cF p (n + 2) F) (.call "_law_way" (.cons (.loc i0) (.cons (.loc i1) (.cons (.loc j) .nil)))) (inner l 1 j (sv s)) h).bind (fun x h => Res.ok (some x) h) = .ok (some (.loc h.length)) (h ++ [.list ((wayOf T.hm hl s).map sv)]) := fun h K s => by
    rw [ev_way H K (q0 _) (q1 _) (q2 _)]; rfl
  rw [ev_comp0 rfl ei (comp_two (e1 h K _) (e1 _ K.more _) (show 3 <= F by lia)) (by show 2 <= 1000; decide), List.append_assoc, List.append_assoc, List.length_append, List.length_append, List.length_append]
  rfl
theorem ev_ends (H : HasE p) (K : Hold h a b T ns hl) {l : Locs} {i0 i1 j : Nat} {it : X} (q0 : ∀ v, locAt (inner l 1 j v) i0 = some (.loc a)) (q1 : ∀ v, locAt (inner l 1 j v) i1 = some (.loc b)) (q2 : ∀ v, locAt (inner l 1 j v) j = some v) (ei : evalX (cF p (n + 2) F) it l h = .ok (T.homes nm) h) (hF : 50000 <= F) {s0 s1 : Seat}
    (h0 : (wayAt T hl nm 0)[(wayAt T hl nm 0).length - 1]? = some s0) (h1 : (wayAt T hl nm 1)[(wayAt T hl nm 1).length - 1]? = some s1) :
    evalX (cF p (n + 2) F) (.comp (.sub (.call "_law_way" (.cons (.loc i0) (.cons (.loc i1) (.cons (.loc j) .nil)))) (.neg (.int 1))) 1 j it .nil) l h = .ok (.loc (h.length + 2)) (h ++ [wayO T hl nm 0, wayO T hl nm 1, .list ([s0, s1].map sv)]) := by
  have hlen := K.len
  have e1 : ∀ h (K : Hold h a b T ns hl) s s', (wayOf T.hm hl s)[(wayOf T.hm hl s).length - 1]? = some s' -> (evalX (cF p (n + 2) F) (.sub (.call "_law_way" (.cons (.loc i0) (.cons (.loc i1) (.cons (.loc j) .nil)))) (.neg (.int 1))) (inner l 1 j (sv s)) h).bind (fun x h => Res.ok (some x) h) = .ok (some (sv s')) (h ++ [.list ((wayOf T.hm hl s).map sv)]) := fun h K s s' hs => by
    have := (wayOf_way (hm := T.hm) hl s).short
    rw [ev_sub (ev_way H K (q0 _) (q1 _) (q2 _)) rfl (last_sub (by lia) get_new hs)]; rfl
  rw [ev_comp0 rfl ei (comp_two (e1 h K _ _ h0) (e1 _ K.more _ _ h1) (show 3 <= F by lia)) (by show 2 <= 1000; decide), List.append_assoc, List.append_assoc, List.length_append, List.length_append]
  rfl
theorem best_none (hb : bestOf T st nm = none) : openW st (wayAt T st nm 0) = false /\ openW st (wayAt T st nm 1) = false := by
  unfold bestOf at hb
  have : ∀ (b : Option (List Seat)) w, pickW st b w = none -> openW st w = false /\ b = none := fun b w q => by
    unfold pickW at q
    rcases ho : openW st w with _ | _ <;> rw [ho] at q
    . exact ⟨rfl, q⟩
    . rcases b with _ | b
      . exact nomatch q
      . rw [Bool.true_and] at q
        rcases hs : shorter (some b) w with _ | _ <;> rw [hs] at q <;> exact nomatch q
  have h1 := this _ _ hb
  exact ⟨(this _ _ h1.2).1, h1.1⟩
theorem closed_end {w : List Seat} {s : Seat} (h : openW st w = false) (hs : w[w.length - 1]? = some s) : (st.lookup s).isSome = true := by
  unfold openW at h
  rw [hs] at h
  replace h : (st.lookup s).isNone = false := h
  rw [<- Option.not_isNone, h]; rfl
theorem open_end {w : List Seat} {s : Seat} (h : openW st w = true) (hs : w[w.length - 1]? = some s) : (st.lookup s).isSome = false := by
  rw [open_last h hs]; rfl
theorem best_row {w : List Seat} (hb : bestOf T st nm = some w) : ∃ r : Int, (r = 0 \/ r = 1) /\ w = wayAt T st nm r /\ openW st w = true /\ (openW st (wayAt T st nm (1 - r)) = true -> w.length < (wayAt T st nm (1 - r)).length \/ (w.length = (wayAt T st nm (1 - r)).length /\ r = 0)) := by
  unfold bestOf pickW at hb
  rcases h0 : openW st (wayAt T st nm 0) with _ | _ <;> rcases h1 : openW st (wayAt T st nm 1) with _ | _ <;> rw [h0, h1] at hb
  . exact nomatch hb
  . rcases Option.some.inj hb with rfl
    exact ⟨1, .inr rfl, rfl, h1, fun q => by rw [show (1 : Int) - 1 = 0 from rfl, h0] at q; exact nomatch q⟩
  . rcases Option.some.inj hb with rfl
    exact ⟨0, .inl rfl, rfl, h0, fun q => by rw [show (1 : Int) - 0 = 1 from rfl, h1] at q; exact nomatch q⟩
  . replace hb : (if decide ((wayAt T st nm 1).length < (wayAt T st nm 0).length) = true then some (wayAt T st nm 1) else some (wayAt T st nm 0)) = some w := hb
    by_cases hlt : (wayAt T st nm 1).length < (wayAt T st nm 0).length
    . rw [if_pos (decide_eq_true hlt)] at hb
      rcases Option.some.inj hb with rfl
      exact ⟨1, .inr rfl, rfl, h1, fun _ => .inl hlt⟩
    . rw [if_neg (by rw [decide_eq_false hlt]; exact Bool.false_ne_true)] at hb
      rcases Option.some.inj hb with rfl
      refine ⟨0, .inl rfl, rfl, h0, fun _ => ?_⟩
      rcases Nat.lt_or_eq_of_le (Nat.not_lt.mp hlt) with q | q
      . exact .inl q
      . exact .inr ⟨q, rfl⟩
end
end
section
open PySem Cu
noncomputable def wk1 : S := (.iff (.or (.not (.isi (.loc 6) .tuple)) (.or (.cmp .ne (.bi .len (.cons (.loc 6) .nil)) (.int 3)) (.cmp .ne (.bm .get (.loc 3) (.cons (.sub (.loc 6) (.int 1)) .nil)) (.sub (.loc 6) (.int 0)))))
    (.cons (.ret .none)
    .nil)
    .nil)
noncomputable def wk2 : S := (.iff (.or (.cmp .ne (.sub (.loc 6) (.int 2)) (.sub (.sub (.loc 1) (.sub (.loc 6) (.int 0))) (.bin .sub (.int 1) (.sub (.sub (.loc 6) (.int 1)) (.int 0))))) (.cmp .isin (.sub (.loc 6) (.int 2)) (.loc 3)))
    (.cons (.ret .none)
    .nil)
    .nil)
noncomputable def wk3 : S := (.setitem (.loc 3) (.sub (.loc 6) (.int 2)) (.bm .pop (.loc 3) (.cons (.sub (.loc 6) (.int 1)) .nil)))
noncomputable def wk4 : S := (.expr (.bm .append (.loc 4) (.cons (.sub (.loc 6) (.int 0)) .nil)))
noncomputable def wk5 : S := (.expr (.bm .append (.loc 5) (.cons (.sub (.loc 6) (.int 2)) .nil)))
noncomputable def b__law_walked_1 : Ss := (.cons wk1 (.cons wk2 (.cons wk3 (.cons wk4 (.cons wk5 .nil)))))
noncomputable def tooFew (i : Nat) : X := (.cmp .lt (.bi .len (.cons (.bi .set (.cons (.loc i) .nil)) .nil)) (.bi .len (.cons (.loc i) .nil)))
noncomputable def d__law_walked : FDef := ⟨3, 7,
  (.cons (.asg 3 (.bi .dict (.cons (.loc 0) .nil)))
  (.cons (.asg 4 (.list .nil))
  (.cons (.asg 5 (.list .nil))
  (.cons (.forr 6 (.loc 2) b__law_walked_1)
  (.cons (.iff (.or (tooFew 4) (tooFew 5))
    (.cons (.ret .none)
    .nil)
    .nil)
  (.cons (.ret (.loc 3))
  .nil))))))⟩
section
variable {h : AHeap} {x y z u : AObj}
theorem tri0 : (h ++ [x, y, z])[h.length]? = some x := by rw [List.getElem?_append_right (Nat.le_refl _), Nat.sub_self]; rfl
theorem tri1 : (h ++ [x, y, z])[h.length + 1]? = some y := by rw [List.getElem?_append_right (Nat.le_add_right ..), Nat.add_sub_cancel_left]; rfl
theorem tri2 : (h ++ [x, y, z])[h.length + 2]? = some z := by rw [List.getElem?_append_right (Nat.le_add_right ..), Nat.add_sub_cancel_left]; rfl
theorem triS0 : (h ++ [x, y, z]).set h.length u = h ++ [u, y, z] := by rw [List.set_append_right _ _ (Nat.le_refl _), Nat.sub_self]; rfl
theorem triS1 : (h ++ [x, y, z]).set (h.length + 1) u = h ++ [x, u, z] := by rw [List.set_append_right _ _ (Nat.le_add_right ..), Nat.add_sub_cancel_left]; rfl
theorem triS2 : (h ++ [x, y, z]).set (h.length + 2) u = h ++ [x, y, u] := by rw [List.set_append_right _ _ (Nat.le_add_right ..), Nat.add_sub_cancel_left]; rfl
end
section
variable {p : Prog} {n : Nat} {h : AHeap} {a b i : Nat} {T : Tb} {ns : List Nm} {hl M : St'} {c : Ctx} {m : Nm} {s s' : Seat}
noncomputable abbrev LW (a b i j : Nat) (x : Option AV) : Locs := [some (.loc a), some (.loc b), some (.loc i), some (.loc j), some (.loc (j + 1)), some (.loc (j + 2)), x]
theorem walk_turn (hq : c.q = false) (hb : HomesAt h b T ns) (hm : m ∈ ns) (row : s.1 = 0 \/ s.1 = 1) (hM : M.lookup s = some m) (e0 : s' = T.hm m (1 - s.1)) (hf : M.lookup s' = none) (hl' : M.length <= 1000) {ep : Nat} {xs ys : List AV} (hx : xs.length <= 1000) (hy : ys.length <= 1000) :
    ∃ ep', execSs c b__law_walked_1 (LW a b i h.length (some (mvAV (m, s, s')))) (h ++ [.dict (stK M) ep, .list xs, .list ys]) = .ok .next (LW a b i h.length (some (mvAV (m, s, s')))) (h ++ [.dict (stK (put (drop M s) s' m)) ep', .list (xs ++ [.str m]), .list (ys ++ [sv s'])]) := by
  have hdl := drop_len hM
  have pp := st_pop (h := h ++ [.dict (stK M) ep, .list xs, .list ys]) tri0 hM
  rw [triS0] at pp
  refine xE (st_put (h := h ++ [.dict (stK (drop M s)) (ep + 1), .list xs, .list ys]) (s := s') (nm := m) tri0 (lim_lt (by lia))) fun ep' sp => ?_
  rw [triS0] at sp
  refine ⟨ep', ?_⟩
  have s1 : execS c wk1 (LW a b i h.length (some (mvAV (m, s, s')))) (h ++ [.dict (stK M) ep, .list xs, .list ys]) = .ok .next (LW a b i h.length (some (mvAV (m, s, s')))) (h ++ [.dict (stK M) ep, .list xs, .list ys]) := by
    refine st_f (ev_or_f rfl (ev_or_f (ev_cmp (ev_bi hq (ev_one rfl) (len_tup (x := [.str m, sv s, sv s']) (lim_le (by show 3 <= 3000; decide)))) rfl rfl) (ev_cmp (ev_bm rfl (bmOk_get tri0) (ev_one (ev_sub rfl rfl rfl)) (get_st tri0)) (ev_sub rfl rfl rfl) ?_))) rfl
    rw [hM]
    exact ne_of_eqv (r := true) (congrArg some (decide_eq_true rfl))
  have s2 : execS c wk2 (LW a b i h.length (some (mvAV (m, s, s')))) (h ++ [.dict (stK M) ep, .list xs, .list ys]) = .ok .next (LW a b i h.length (some (mvAV (m, s, s')))) (h ++ [.dict (stK M) ep, .list xs, .list ys]) := by
    refine st_f (ev_or_f (ev_cmp (ev_sub rfl rfl rfl) (ev_sub (ev_sub rfl (ev_sub rfl rfl rfl) (hb.more.get hm)) (ev_bin rfl (ev_sub (ev_sub rfl rfl rfl) rfl sv0) b_sub) (homes_at (other_row row))) ?_) (ev_cmp (ev_sub rfl rfl rfl) rfl ?_)) rfl
    . exact ne_of_eqv (r := true) ((eqv_pair' (n := 4) _ _).trans (congrArg some (decide_eq_true e0)))
    . rw [st_in tri0, hf]; rfl
  have s4 := append_ok (h := h ++ [.dict (stK (put (drop M s) s' m)) ep', .list xs, .list ys]) (v := .str m) tri1 (lim_lt (by lia))
  rw [triS1] at s4
  have s5 := append_ok (h := h ++ [.dict (stK (put (drop M s) s' m)) ep', .list (xs ++ [.str m]), .list ys]) (v := sv s') tri2 (lim_lt (by lia))
  rw [triS2] at s5
  exact (ss_step s1).trans ((ss_step s2).trans ((ss_step (st_set (ev_bm rfl (bmOk_pop tri0) (ev_one (ev_sub rfl rfl rfl)) pp) rfl (ev_sub rfl rfl rfl) sp)).trans
    ((ss_step (st_expr (ev_bm rfl (bmOk_append tri1) (ev_one (ev_sub rfl rfl rfl)) s4))).trans (ss_last (st_expr (ev_bm rfl (bmOk_append tri2) (ev_one (ev_sub rfl rfl rfl)) s5))))))
noncomputable def Once (hl : St') : Prop := ∀ s s' m, hl.lookup s = some m -> hl.lookup s' = some m -> s = s'
theorem move_is {w : List Seat} {s0 : Seat} (W : Way T.hm hl s0 w) {k : Nat} (hk : k < w.length - 1) : ∃ q x, w.length - 1 - k = q + 1 /\ w.length - 1 - (k + 1) = q /\ w[q]? = some (seatAt w q) /\ w[q + 1]? = some (seatAt w (q + 1)) /\ hl.lookup (seatAt w q) = some x /\ seatAt w (q + 1) = T.hm x (1 - (seatAt w q).1) /\ moveAt hl w (w.length - 1 - k) = (x, seatAt w q, seatAt w (q + 1)) := by
  obtain ⟨q, hq, hqk, hql⟩ := dn_at hk
  have h1 : w[q]? = some (seatAt w q) := seat_at (Nat.lt_of_succ_lt hql)
  have h2 : w[q + 1]? = some (seatAt w (q + 1)) := seat_at hql
  refine xEA (W.step q _ _ h1 h2) fun x hx h3 => ?_
  exact ⟨q, x, hq, hqk, h1, h2, hx, h3, by rw [hq, moveAt, Nat.add_sub_cancel, hx]; rfl⟩
theorem moves_nd {w : List Seat} {s0 : Seat} (W : Way T.hm hl s0 w) (hO : Once hl) : ((movesOf hl w).map (·.1)).Nodup /\ ((movesOf hl w).map (·.2.2)).Nodup := by
  unfold movesOf
  rw [List.map_map, List.map_map]
  constructor <;> refine List.pairwise_map.mpr (List.Pairwise.imp_of_mem ?_ List.nodup_range) <;> intro j k hj hk hne e <;> obtain ⟨q, x, e1, _, w1, w2, hx, _, e2⟩ := move_is W (List.mem_range.mp hj) <;> obtain ⟨q', x', e1', _, w1', w2', hx', _, e2'⟩ := move_is W (List.mem_range.mp hk)
  . have e : (moveAt hl w (w.length - 1 - j)).1 = (moveAt hl w (w.length - 1 - k)).1 := e
    rw [e2, e2'] at e
    have e : x = x' := e
    subst e
    rw [hO _ _ _ hx hx'] at w1
    have := nd_at W.nd w1 w1'
    exact hne (by have := List.mem_range.mp hj; have := List.mem_range.mp hk; lia)
  . have e : (moveAt hl w (w.length - 1 - j)).2.2 = (moveAt hl w (w.length - 1 - k)).2.2 := e
    rw [e2, e2'] at e
    have e : seatAt w (q + 1) = seatAt w (q' + 1) := e
    rw [e] at w2
    have := nd_at W.nd w2 w2'
    exact hne (by have := List.mem_range.mp hj; have := List.mem_range.mp hk; lia)
theorem moves_len {w : List Seat} : (movesOf hl w).length = w.length - 1 := by unfold movesOf; rw [List.length_map, List.length_range]
theorem moves_at {w : List Seat} {k : Nat} (hk : k < w.length - 1) : (movesOf hl w)[k]? = some (moveAt hl w (w.length - 1 - k)) := by
  unfold movesOf
  rw [List.getElem?_map, List.getElem?_range hk]; rfl
inductive WInv (h : AHeap) (a b i : Nat) (hl : St') (w : List Seat) (k : Nat) : Locs -> AHeap -> Prop
  | mk (M : St') (ep : Nat) (x : Option AV) (m : Mid2 hl w (w.length - 1 - k) M) (hole : M.lookup (seatAt w (w.length - 1 - k)) = none) (hM : M.length <= hl.length) :
      WInv h a b i hl w k (LW a b i h.length x) (h ++ [.dict (stK M) ep, .list (((movesOf hl w).take k).map fun m => .str m.1), .list (((movesOf hl w).take k).map fun m => sv m.2.2)])
theorem walk_loop (hq : c.q = false) (K : Hold h a b T ns hl) {s0 : Seat} {w : List Seat} (W : Way T.hm hl s0 w) (hop : openW hl w = true) (hi : h[i]? = some (.list ((movesOf hl w).map mvAV))) {F : Nat} (hF : 50000 <= F) :
    ∃ l' h', forLoop (put1 6) (fun l h => execSs c b__law_walked_1 l h) (.loc i) F 0 (LW a b i h.length none) (h ++ [.dict (stK hl) 0, .list [], .list []]) = .ok .next l' h' /\ WInv h a b i hl w (w.length - 1) l' h' := by
  have hlen := K.len
  have hws := W.short
  have hpos := W.pos
  have := forLoop_all (i := 6) (src := .loc i) (items := (movesOf hl w).map mvAV) (body := fun l h => execSs c b__law_walked_1 l h) (WInv h a b i hl w)
    (fun k l h' I => by cases I; exact next_list (get_old hi)) (fun k v l h' hv I => by
      cases I with
      | mk M ep x m hole hM =>
      rw [List.getElem?_map] at hv
      refine xEA (Option.map_eq_some_iff.mp hv) fun mv hmv qq1 => ?_; subst qq1
      have hk : k < w.length - 1 := by have := (List.getElem?_eq_some_iff.mp hmv).1; rw [moves_len] at this; exact this
      obtain ⟨q, y, e1, e1', w1, w2, hy, h3, e2⟩ := move_is W hk
      have hmv' := hmv
      rw [moves_at hk, e2] at hmv'
      rcases Option.some.inj hmv' with rfl
      rw [e1] at m hole
      refine xAA (K.held.all _ _ hy) fun hin row _ => ?_
      have hMy := (m.old W.nd w1).trans hy
      refine xE (walk_turn (a := a) (b := b) (i := i) (c := c) hq K.homes hin row hMy h3 hole (by lia) (ep := ep) (xs := ((movesOf hl w).take k).map fun m => .str m.1) (ys := ((movesOf hl w).take k).map fun m => sv m.2.2) (by rw [List.length_map, List.length_take]; lia) (by rw [List.length_map, List.length_take]; lia)) fun ep' e => ?_
      refine ⟨_, _, e, ?_⟩
      have t1 := take_snoc hmv
      have hne : seatAt w q ≠ seatAt w (q + 1) := fun q' => by
        rw [q'] at w1
        have := nd_at W.nd w1 w2
        lia
      have := WInv.mk (h := h) (a := a) (b := b) (i := i) (hl := hl) (w := w) (k := k + 1) (put (drop M (seatAt w q)) (seatAt w (q + 1)) y) ep' (some (mvAV (y, seatAt w q, seatAt w (q + 1)))) (by rw [e1']; exact m.step W.nd w1 w2 hy) (by rw [e1', put_lookup, if_neg hne, drop_lookup, if_pos rfl]) (by have := drop_len hMy; have := put_len_le (t := drop M (seatAt w q)) (s := seatAt w (q + 1)) (m := y); lia)
      rw [t1, List.map_append, List.map_append] at this
      exact this) (f := F) (l := LW a b i h.length none) (h := h ++ [.dict (stK hl) 0, .list [], .list []]) (by rw [List.length_map, moves_len]; lia) (.mk hl 0 none (Mid2.start K.held.nd) (open_last hop (seat_at (by lia))) (Nat.le_refl _))
  rwa [List.length_map, moves_len] at this
theorem keysL_map {κ : Type} {g : κ -> AV} {kf : κ -> Key} (hg : ∀ x, (g x).key? = some (kf x)) : ∀ xs : List κ, keysL (xs.map g) = some (xs.map kf)
  | [] => rfl
  | x :: r => by
    show ((g x).key?).bind (fun k => (keysL (r.map g)).bind fun ks => some (k :: ks)) = _
    rw [hg, keysL_map hg r]; rfl
theorem few_no (hq : c.q = false) {l : Locs} {j q : Nat} {vs : List AV} {ks : List Key} (hl' : locAt l j = some (.loc q)) (hv : h[q]? = some (.list vs)) (hk : keysL vs = some ks) (ho : setOk ks = true) (hn : ks.length = vs.length) : evalX c (tooFew j) l h = .ok (.bool false) (h ++ [.set ks.length]) := by
  have el : ∀ h, evalX c (.loc j) l h = .ok (.loc q) h := fun h => by rw [x_loc, hl']; rfl
  have es : biAV .set [.loc q] h = .ok (.loc h.length) (h ++ [.set ks.length]) := by
    show setO ((listAt h q).bind keysL) h = _
    rw [listAt_of hv, Option.bind_some, hk]
    exact if_pos ho
  have e1 : biAV .len [.loc h.length] (h ++ [.set ks.length]) = .ok (.int ks.length) (h ++ [.set ks.length]) := by
    show lenAV (.loc h.length) _ = _
    delta lenAV
    dsimp only
    rw [get_new]
  rw [tooFew, ev_cmp (ev_bi hq (ev_one (ev_bi hq (ev_one (el _)) es)) e1) (ev_bi hq (ev_one (el _)) (len_list (get_old hv))) (c_lt.trans (congrArg some (decide_eq_false (by rw [hn]; exact Int.lt_irrefl _))))]
theorem setOk_of {ks : List Key} (h1 : (ks.all (fun k => !k.sort) || ks.all seatKey) = true) (nd : ks.Nodup) (hl' : ks.length <= 70) : setOk ks = true := by
  unfold setOk
  rw [h1, decide_eq_true nd, decide_eq_true hl']; rfl
theorem In.seat (ok : T.Ok) (hs : T.In s) : seatKey (kp s) = true := by
  have h4 : s.2 < 1000 := Int.lt_of_lt_of_le hs.2.2 ok.c2
  show ((s.1 == 0 || s.1 == 1) && decide (0 <= s.2) && decide (s.2 < 1000)) = true
  rw [decide_eq_true hs.2.1, decide_eq_true h4]
  rcases hs.1 with r | r <;> rw [r] <;> rfl
theorem copy_ok (K : Hold h a b T ns hl) : biAV .dict [.loc a] h = .ok (.loc h.length) (h ++ [.dict (stK hl) 0]) := by
  refine xE K.dict fun ep hd => ?_
  show copyD (dictAt h a) h = _
  rw [dictAt_of hd]
  refine if_pos (List.all_eq_true.mpr fun q hq => ?_)
  refine xEA (List.mem_map.mp hq) fun qq1 hs qq2 => ?_; obtain ⟨s, m⟩ := qq1; subst qq2
  refine xAA (K.held.all s m (lookup_of_mem K.held.nd hs)) fun hm row e => ?_
  have hin := Tb.hm_in K.ok (K.good m hm) row
  rw [<- e] at hin
  exact In.seat K.ok hin
inductive Walk8 (h : AHeap) (hl : St') (w : List Seat) : Res AV -> Prop
  | mk (g : AHeap) (j ep : Nat) (M : St') (m : Mid2 hl w 0 M) (hole : M.lookup (seatAt w 0) = none) (hM : M.length <= hl.length) (hj : (h ++ g)[j]? = some (.dict (stK M) ep)) (hh : h.length <= j) : Walk8 h hl w (.ok (.loc j) (h ++ g))
theorem run_walked (hp : Prog.has p "_law_walked" d__law_walked) (K : Hold h a b T ns hl) (hO : Once hl) {s0 : Seat} {w : List Seat} (W : Way T.hm hl s0 w) (hop : openW hl w = true) (hi : h[i]? = some (.list ((movesOf hl w).map mvAV))) (hlen : hl.length <= 70) :
    Walk8 h hl w (semF p (n + 1) false "_law_walked" [.loc a, .loc b, .loc i] h) := by
  refine xEA (run_in (n := n) (h := h) hp (as := [.loc a, .loc b, .loc i]) [some (.loc a), some (.loc b), some (.loc i), none, none, none, none] rfl rfl) fun F hF e => ?_
  have hws := W.short
  refine xEEA (walk_loop (c := cF p n F) rfl K W hop hi hF) fun l' h' e4 I => ?_
  cases I with
  | mk M ep x m hole hM =>
  rw [List.take_of_length_le (by rw [moves_len]; exact Nat.le_refl _)] at e4
  rw [Nat.sub_self] at m hole
  refine xA (moves_nd W hO) fun n1 n2 => ?_
  have k1 := keysL_map (g := fun (m : Mv) => .str m.1) (kf := fun m => .str m.1) (fun _ => rfl) (movesOf hl w)
  have k2 := keysL_map (g := fun (m : Mv) => sv m.2.2) (kf := fun m => kp m.2.2) (fun m => sv_key m.2.2) (movesOf hl w)
  have o1 : setOk ((movesOf hl w).map fun m => Key.str m.1) = true := setOk_of (Bool.or_eq_true_iff.mpr (.inl (List.all_eq_true.mpr fun k hk => by obtain ⟨m, _, rfl⟩ := List.mem_map.mp hk; rfl))) (by
    rw [show (movesOf hl w).map (fun m => Key.str m.1) = ((movesOf hl w).map (·.1)).map Key.str by rw [List.map_map]; rfl]
    exact List.pairwise_map.mpr (n1.imp fun h e => h (Key.str.inj e))) (by rw [List.length_map, moves_len]; lia)
  have o2 : setOk ((movesOf hl w).map fun m => kp m.2.2) = true := setOk_of (Bool.or_eq_true_iff.mpr (.inr (List.all_eq_true.mpr fun k hk => by
      obtain ⟨mv, hmv, rfl⟩ := List.mem_map.mp hk
      refine xE (List.mem_iff_getElem?.mp hmv) fun k hk => ?_
      have hkl : k < w.length - 1 := by have := (List.getElem?_eq_some_iff.mp hk).1; rw [moves_len] at this; exact this
      obtain ⟨q, y, _, _, _, _, hy, h3, e2⟩ := move_is W hkl
      rw [moves_at hkl, e2] at hk
      rcases Option.some.inj hk with rfl
      refine xAA (K.held.all _ _ hy) fun hin row _ => ?_
      show seatKey (kp (seatAt w (q + 1))) = true
      rw [h3]
      exact In.seat K.ok (Tb.hm_in K.ok (K.good y hin) (other_row row))))) (by
    rw [show (movesOf hl w).map (fun m => kp m.2.2) = ((movesOf hl w).map (·.2.2)).map kp by rw [List.map_map]; rfl]
    exact List.pairwise_map.mpr (n2.imp fun h e => h (kp_inj _ _ e))) (by rw [List.length_map, moves_len]; lia)
  have e5 := ev_or_f (few_no (h := h ++ [.dict (stK M) ep, .list ((movesOf hl w).map fun m => .str m.1), .list ((movesOf hl w).map fun m => sv m.2.2)]) (c := cF p n F) rfl (l := LW a b i h.length x) (j := 4) rfl tri1 k1 o1 (by rw [List.length_map, List.length_map])) (few_no (c := cF p n F) rfl (l := LW a b i h.length x) (j := 5) rfl (get_old tri2) k2 o2 (by rw [List.length_map, List.length_map]))
  have e2 : execS (cF p n F) (.asg 4 (.list .nil)) [some (.loc a), some (.loc b), some (.loc i), some (.loc h.length), none, none, none] (h ++ [.dict (stK hl) 0]) = .ok .next [some (.loc a), some (.loc b), some (.loc i), some (.loc h.length), some (.loc (h.length + 1)), none, none] (h ++ [.dict (stK hl) 0, .list []]) := by
    rw [st_asg (ev_list rfl (by show 0 <= 1000; decide)), List.length_append, List.append_assoc]; rfl
  have e3 : execS (cF p n F) (.asg 5 (.list .nil)) [some (.loc a), some (.loc b), some (.loc i), some (.loc h.length), some (.loc (h.length + 1)), none, none] (h ++ [.dict (stK hl) 0, .list []]) = .ok .next (LW a b i h.length none) (h ++ [.dict (stK hl) 0, .list [], .list []]) := by
    rw [st_asg (ev_list rfl (by show 0 <= 1000; decide)), List.length_append, List.append_assoc]; rfl
  have : semF p (n + 1) false "_law_walked" [.loc a, .loc b, .loc i] h = .ok (.loc h.length) (h ++ ([.dict (stK M) ep, .list ((movesOf hl w).map fun m => .str m.1), .list ((movesOf hl w).map fun m => sv m.2.2)] ++ [.set ((movesOf hl w).map fun m => Key.str m.1).length] ++ [.set ((movesOf hl w).map fun m => kp m.2.2).length])) := by
    rw [e, <- List.append_assoc, <- List.append_assoc]
    exact fin_ret ((ss_step (st_asg (ev_bi rfl (ev_one rfl) (copy_ok K)))).trans ((ss_step e2).trans ((ss_step e3).trans ((ss_step (st_for rfl rfl e4)).trans ((ss_step (st_f e5 rfl)).trans (ss_last (st_ret rfl)))))))
  rw [this]
  refine .mk _ _ ep M m hole hM ?_ (Nat.le_refl _)
  rw [<- List.append_assoc, <- List.append_assoc]
  exact get_old (get_old tri0)
end
end
section
open PySem Cu
noncomputable def sh1 : S := (.asg 5 (.comp (.call "_law_way" (.cons (.loc 0) (.cons (.loc 1) (.cons (.loc 7) .nil)))) 1 7 (.sub (.loc 1) (.loc 2)) .nil))
noncomputable def sh2 : S := (.iff (.or (.cmp .isin (.sub (.sub (.loc 5) (.loc 3)) (.neg (.int 1))) (.loc 0)) (.cmp .ne (.bi .len (.cons (.sub (.loc 5) (.loc 3)) .nil)) (.bin .add (.loc 4) (.int 1))))
    (.cons (.ret (.bool false))
    .nil)
    .nil)
noncomputable def sh3 : S := (.asg 6 (.sub (.loc 5) (.bin .sub (.int 1) (.loc 3))))
noncomputable def sh4 : S := (.iff (.cmp .isin (.sub (.loc 6) (.neg (.int 1))) (.loc 0))
    (.cons (.ret (.bool true))
    .nil)
    .nil)
noncomputable def sh5 : S := (.ret (.or (.cmp .gt (.bi .len (.cons (.loc 6) .nil)) (.bin .add (.loc 4) (.int 1))) (.and (.cmp .eq (.bi .len (.cons (.loc 6) .nil)) (.bin .add (.loc 4) (.int 1))) (.cmp .eq (.loc 3) (.int 0)))))
noncomputable def d__law_shortest : FDef := ⟨5, 7, (.cons sh1 (.cons sh2 (.cons sh3 (.cons sh4 (.cons sh5 .nil)))))⟩
section
variable {p : Prog} {n : Nat} {h : AHeap} {a b : Nat} {T : Tb} {ns : List Nm} {hl : St'} {nm : Nm} {r : Int}
noncomputable abbrev waysH (h : AHeap) (T : Tb) (hl : St') (nm : Nm) : AHeap := h ++ [wayO T hl nm 0, wayO T hl nm 1, .list [.loc h.length, .loc (h.length + 1)]]
theorem way_sub (hr : r = 0 \/ r = 1) : ∃ q, subAV (.loc (h.length + 2)) (.int r) (waysH h T hl nm) = .ok (.loc q) (waysH h T hl nm) /\ (waysH h T hl nm)[q]? = some (wayO T hl nm r) := by
  rcases hr with rfl | rfl
  . exact ⟨_, sub_list (x := [.loc h.length, .loc (h.length + 1)]) (by show 2 <= sizeLim; decide) tri2 (by decide) rfl, tri0⟩
  . exact ⟨_, sub_list (x := [.loc h.length, .loc (h.length + 1)]) (by show 2 <= sizeLim; decide) tri2 (by decide) rfl, tri1⟩
theorem run_shortest (H : HasE p) (hp : Prog.has p "_law_shortest" d__law_shortest) (K : Hold h a b T ns hl) (hn : nm ∈ ns) (hr : r = 0 \/ r = 1) (hop : openW hl (wayAt T hl nm r) = true)
    (hoth : openW hl (wayAt T hl nm (1 - r)) = true -> (wayAt T hl nm r).length < (wayAt T hl nm (1 - r)).length \/ ((wayAt T hl nm r).length = (wayAt T hl nm (1 - r)).length /\ r = 0)) :
    semF p (n + 3) false "_law_shortest" [.loc a, .loc b, .str nm, .int r, .int (((wayAt T hl nm r).length - 1 : Nat) : Int)] h = .ok (.bool true) (waysH h T hl nm) := by
  refine xEA (run_in (n := n + 2) (h := h) hp (as := [.loc a, .loc b, .str nm, .int r, .int (((wayAt T hl nm r).length - 1 : Nat) : Int)]) [some (.loc a), some (.loc b), some (.str nm), some (.int r), some (.int (((wayAt T hl nm r).length - 1 : Nat) : Int)), none, none] rfl rfl) fun F hF e => ?_
  have hlen := K.len
  have W := wayOf_way (hm := T.hm) hl (T.hm nm r)
  have W' := wayOf_way (hm := T.hm) hl (T.hm nm (1 - r))
  have hws := W.short
  have hws' := W'.short
  have hpos := W.pos
  refine xE W.last fun sl hsl => ?_
  refine xE W'.last fun sl' hsl' => ?_
  refine xEA (way_sub (h := h) (T := T) (hl := hl) (nm := nm) hr) fun q eq gq => ?_
  refine xEA (way_sub (h := h) (T := T) (hl := hl) (nm := nm) (other_row hr)) fun q' eq' gq' => ?_
  refine xE K.dict fun ep hd => ?_
  have hd1 : (waysH h T hl nm)[a]? = _ := get_old hd
  have hc : (((wayAt T hl nm r).length - 1 : Nat) : Int) + 1 = (wayAt T hl nm r).length := by lia
  have hL := last_sub (by lia) gq hsl
  have hL' := last_sub (by lia) gq' hsl'
  generalize (((wayAt T hl nm r).length - 1 : Nat) : Int) = m at e hc |-
  rw [e]
  have e1 : execS (cF p (n + 2) F) sh1 [some (.loc a), some (.loc b), some (.str nm), some (.int r), some (.int m), none, none] h = .ok .next [some (.loc a), some (.loc b), some (.str nm), some (.int r), some (.int m), some (.loc (h.length + 2)), none] (waysH h T hl nm) :=
    st_asg (ev_ways H K (fun _ => rfl) (fun _ => rfl) (fun _ => rfl) (ev_sub rfl rfl (K.homes.get hn)) hF)
  have c1 : ∀ {l : Locs}, locAt l 4 = some (.int m) -> evalX (cF p (n + 2) F) (.bin .add (.loc 4) (.int 1)) l (waysH h T hl nm) = .ok (.int (wayAt T hl nm r).length) (waysH h T hl nm) := fun hl' => ev_bin (by rw [x_loc, hl']; rfl) rfl (by rw [b_add, hc])
  generalize hH : waysH h T hl nm = H1 at *
  have e2 : execS (cF p (n + 2) F) sh2 [some (.loc a), some (.loc b), some (.str nm), some (.int r), some (.int m), some (.loc (h.length + 2)), none] H1 = .ok .next [some (.loc a), some (.loc b), some (.str nm), some (.int r), some (.int m), some (.loc (h.length + 2)), none] H1 := by
    refine st_f (ev_or_f (ev_cmp (ev_sub (ev_sub rfl rfl eq) rfl hL) rfl ?_) (ev_cmp (ev_bi rfl (ev_one (ev_sub rfl rfl eq)) (len_seats gq)) (c1 rfl) (c_nei.trans (congrArg some (by rw [decide_eq_true rfl]; rfl))))) rfl
    rw [st_in hd1, open_end hop hsl]
  have e3 : execS (cF p (n + 2) F) sh3 [some (.loc a), some (.loc b), some (.str nm), some (.int r), some (.int m), some (.loc (h.length + 2)), none] H1 = .ok .next [some (.loc a), some (.loc b), some (.str nm), some (.int r), some (.int m), some (.loc (h.length + 2)), some (.loc q')] H1 :=
    st_asg (ev_sub rfl (ev_bin rfl rfl b_sub) eq')
  have c4 : evalX (cF p (n + 2) F) (.cmp .isin (.sub (.loc 6) (.neg (.int 1))) (.loc 0)) [some (.loc a), some (.loc b), some (.str nm), some (.int r), some (.int m), some (.loc (h.length + 2)), some (.loc q')] H1 = .ok (.bool (hl.lookup sl').isSome) H1 := ev_cmp (ev_sub rfl rfl hL') rfl (st_in hd1)
  rcases ho : openW hl (wayAt T hl nm (1 - r)) with _ | _
  . rw [closed_end ho hsl'] at c4
    exact fin_ret ((ss_step e1).trans ((ss_step e2).trans ((ss_step e3).trans (ss_stop (st_t c4 (ss_last (st_ret rfl)))))))
  . rw [open_end ho hsl'] at c4
    refine fin_ret ((ss_step e1).trans ((ss_step e2).trans ((ss_step e3).trans ((ss_step (st_f c4 rfl)).trans (ss_last (st_ret ?_))))))
    have l6 := len_seats gq'
    rcases hoth ho with hlt | ⟨heq, r0⟩
    . exact ev_or_t (ev_cmp (ev_bi rfl (ev_one rfl) l6) (c1 rfl) (c_gt.trans (congrArg some (decide_eq_true (by lia)))))
    . refine ev_or_f (ev_cmp (ev_bi rfl (ev_one rfl) l6) (c1 rfl) (c_gt.trans (congrArg some (decide_eq_false (by lia))))) (ev_and_t (ev_cmp (ev_bi rfl (ev_one rfl) l6) (c1 rfl) (c_eqi.trans (congrArg some (decide_eq_true (by lia))))) (ev_cmp rfl rfl ?_))
      rw [c_eqi, decide_eq_true r0]
end
end
section
open PySem Cu
section
variable {c : Ctx} {h h1 h2 : AHeap} {l : Locs} {v : AV} {vs : List AV} {x it : X} {cs : Xs} {k j : Nat}
theorem ev_comp (hq : c.q = false) (ei : evalX c it l h = .ok v h1) (el : compLoop (fun v h => (evalConds c cs (inner l k j v) h).bind fun b h => ifB b h (evalX c x (inner l k j v) h)) v c.fuel 0 [] h1 = .ok vs h2) (hl : vs.length <= 1000) :
    evalX c (.comp x k j it cs) l h = .ok (.loc h2.length) (h2 ++ [.list vs]) := by
  have e : evalX c (.comp x k j it cs) l h = (evalX c it l h).noExc.bind fun src h => if c.q then .bad else (compLoop (fun v h => (evalConds c cs (inner l k j v) h).bind fun b h => ifB b h (evalX c x (inner l k j v) h)) src c.fuel 0 [] h).noExc.bind fun vs h => newList vs h := rfl
  rw [e, ei, nx_ok, bok, hq, el]
  exact newList_ok (lim_le (by lia))
theorem comp_filter {κ : Type} {g f : κ -> AV} {P : κ -> Bool} {xs : List κ} {body : AV -> AHeap -> Res (Option AV)} {src : AV} (hn : ∀ k, nextAt src k h = some (xs.map g)[k]?) (hb : ∀ x ∈ xs, body (g x) h = .ok (if P x then some (f x) else none) h) (hl : xs.length <= 1000) {F : Nat} (hF : 50000 <= F) :
    compLoop body src F 0 [] h = .ok ((xs.filter P).map f) h := by
  obtain ⟨a, h', e, ⟨rfl, rfl⟩, _⟩ := compLoop_all (body := body) (src := src) (items := xs.map g) (fun k a h' => a = ((xs.take k).filter P).map f /\ h' = h) (fun k a h' ⟨_, q⟩ => by rw [q]; exact hn k) (fun k v a h' hv ⟨q1, q2⟩ => by
      subst q1; subst q2
      rw [List.getElem?_map] at hv
      refine xEA (Option.map_eq_some_iff.mp hv) fun x hx qq1 => ?_; subst qq1
      refine ⟨_, _, hb x (List.mem_of_getElem? hx), ?_, rfl⟩
      rw [take_snoc hx, List.filter_append, List.map_append]
      congr 1
      rcases hp : P x with _ | _
      case true => rw [List.filter_cons_of_pos hp]; rfl
      case false => rw [List.filter_cons_of_neg (by rw [hp]; exact Bool.false_ne_true)]; rfl) (by rw [List.length_map]; exact hl) F 0 [] h (by rw [List.length_map]; lia) (Nat.zero_le _) (Nat.le_refl _) ⟨rfl, rfl⟩
  rw [e, List.length_map, List.take_length]
end
noncomputable def po1 : S := (.asg 4 (.call "_law_told" (.cons (.loc 0) (.cons (.loc 3) .nil))))
noncomputable def po2a : S := (.asg 6 (.comp (.sub (.call "_law_way" (.cons (.loc 1) (.cons (.loc 2) (.cons (.loc 8) .nil)))) (.neg (.int 1))) 1 8 (.sub (.loc 2) (.loc 3)) .nil))
noncomputable def po2b : S := (.iff (.cmp .ne (.comp (.loc 8) 1 8 (.loc 6) (.cons (.cmp .notin (.loc 8) (.loc 1)) .nil)) (.list .nil))
      (.cons (.ret .none)
      .nil)
      .nil)
noncomputable def po2 : S := (.iff (.isn true (.loc 4))
    (.cons po2a
    (.cons po2b
    (.cons (.ret (.loc 1))
    .nil)))
    .nil)
noncomputable def po3 : S := (.iff (.or (.cmp .ne (.sub (.loc 4) (.int 0)) (.sub (.loc 4) (.int 1))) (.not (.isi (.sub (.loc 4) (.int 1)) .list)))
    (.cons (.ret .none)
    .nil)
    .nil)
noncomputable def po4 : S := (.asg 7 (.call "_law_walked" (.cons (.loc 1) (.cons (.loc 2) (.cons (.sub (.loc 4) (.int 1)) .nil)))))
noncomputable def po5 : S := (.asg 5 (.im "where" (.loc 0) (.cons (.loc 3) .nil)))
noncomputable def po6 : S := (.iff (.or (.isn true (.loc 7)) (.or (.cmp .notin (.loc 5) (.sub (.loc 2) (.loc 3))) (.cmp .isin (.loc 5) (.loc 7))))
    (.cons (.ret .none)
    .nil)
    .nil)
noncomputable def po7 : S := (.iff (.not (.call "_law_shortest" (.cons (.loc 1) (.cons (.loc 2) (.cons (.loc 3) (.cons (.sub (.loc 5) (.int 0)) (.cons (.bi .len (.cons (.sub (.loc 4) (.int 1)) .nil)) .nil)))))))
    (.cons (.ret .none)
    .nil)
    .nil)
noncomputable def po8 : S := (.setitem (.loc 7) (.loc 5) (.loc 3))
noncomputable def d__law_put_one : FDef := ⟨4, 8, (.cons po1 (.cons po2 (.cons po3 (.cons po4 (.cons po5 (.cons po6 (.cons po7 (.cons po8 (.cons (.ret (.loc 7)) .nil)))))))))⟩
structure HasQ (p : Prog) : Prop extends HasE p where
  walked : Prog.has p "_law_walked" d__law_walked
  short : Prog.has p "_law_shortest" d__law_shortest
  one : Prog.has p "_law_put_one" d__law_put_one
section
variable {p : Prog} {n : Nat} {h h' : AHeap} {t d e a b : Nat} {T : Tb} {ns : List Nm} {st hl : St'} {th : Th} {nm : Nm} {X : List Nat}
theorem eqv_mv (k : Nat) (a b : Mv) : eqv h (k + 3) (mvAV a) (mvAV b) = some (decide (a = b)) := by
  have e : eqv h (k + 3) (mvAV a) (mvAV b) = and2 (some (decide (a.1 = b.1))) (and2 (eqv h (k + 2) (sv a.2.1) (sv b.2.1)) (and2 (eqv h (k + 2) (sv a.2.2) (sv b.2.2)) (some true))) := rfl
  rw [e, eqv_pair', eqv_pair']
  obtain ⟨a1, a2, a3⟩ := a
  obtain ⟨b1, b2, b3⟩ := b
  show some (decide (a1 = b1) && (decide (a2 = b2) && (decide (a3 = b3) && true))) = _
  rw [Bool.and_true, <- Bool.decide_and, <- Bool.decide_and]
  congr 2
  exact propext ⟨fun ⟨h1, h2, h3⟩ => by rw [h1, h2, h3], fun q => by cases q; exact ⟨rfl, rfl, rfl⟩⟩
theorem Like.moves (L : Like st hl) {w : List Seat} : movesOf st w = movesOf hl w := by
  unfold movesOf moveAt
  simp only [L.eq]
theorem Hold.kp (K : Hold h a b T ns hl) (k : Kp X h h') (ha : a ∉ X) (hb : b ∉ X) : Hold h' a b T ns hl :=
  ⟨K.ok, K.good, K.dict.imp fun _ q => k.old _ _ ha q, xEEA K.homes fun kvs ep h1 h2 => ⟨kvs, ep, k.old _ _ hb h1, h2⟩, K.held, K.len⟩
theorem Kp.setNew {j : Nat} {o : AObj} (k : Kp X h h') (hj : h.length <= j) : Kp X h (h'.set j o) :=
  ⟨by rw [List.length_set]; exact k.len, fun i o hi q => get_other (k.old i o hi q) fun z => absurd (List.getElem?_eq_some_iff.mp q).1 (by lia)⟩
theorem no_list : cmpAV (h ++ [.list [], .list []]) .ne (.loc h.length) (.loc (h.length + 1)) = some false := by
  have e := eq_lists (h := h ++ [.list [], .list []]) (n := h.length) (m := h.length + 1) (g := sv) (xs := []) (ys := []) (by rw [List.getElem?_append_right (Nat.le_refl _), Nat.sub_self]; rfl) (by rw [List.getElem?_append_right (Nat.le_add_right ..), Nat.add_sub_cancel_left]; rfl) (fun a b => eqv_pair' (n := 3) a b)
  rw [decide_eq_true rfl] at e
  exact ne_of_eqv e
inductive One8 (h : AHeap) (t d e a b : Nat) (T : Tb) (ns : List Nm) (th : Th) (nm : Nm) : Res AV -> Prop
  | no (g : AHeap) : One8 h t d e a b T ns th nm (.ok (.loc a) (h ++ g))
  | yes (h' : AHeap) (st' hl' : St') (j : Nat) (S : Sit h' t d e T st' (put th nm 1)) (K : Hold h' j b T ns hl') (L : Like st' hl') (k : Kp [d, e] h h') (hj : h.length <= j) : One8 h t d e a b T ns th nm (.ok (.loc j) h')
theorem one_no (H : HasQ p) (K : Hold h a b T ns hl) (hn : nm ∈ ns) (hb : bestOf T hl nm = none) {F : Nat} (hF : 50000 <= F) :
    ∃ g, execSs (cF p (n + 2) F) (.cons po2a (.cons po2b (.cons (.ret (.loc 1)) .nil))) [some (.loc t), some (.loc a), some (.loc b), some (.str nm), some .none, none, none, none] h = .ok (.ret (.loc a)) [some (.loc t), some (.loc a), some (.loc b), some (.str nm), some .none, none, some (.loc (h.length + 2)), none] (h ++ g) := by
  have W0 := wayOf_way (hm := T.hm) hl (T.hm nm 0)
  have W1 := wayOf_way (hm := T.hm) hl (T.hm nm 1)
  refine xE W0.last fun s0 h0 => ?_
  refine xE W1.last fun s1 h1 => ?_
  refine xA (best_none hb) fun o0 o1 => ?_
  have c0 := closed_end o0 h0
  have c1 := closed_end o1 h1
  refine xE K.dict fun ep hd => ?_
  have e1 : execS (cF p (n + 2) F) po2a [some (.loc t), some (.loc a), some (.loc b), some (.str nm), some .none, none, none, none] h = .ok .next [some (.loc t), some (.loc a), some (.loc b), some (.str nm), some .none, none, some (.loc (h.length + 2)), none] (h ++ [wayO T hl nm 0, wayO T hl nm 1, .list ([s0, s1].map sv)]) :=
    st_asg (ev_ends H.toHasE K (fun _ => rfl) (fun _ => rfl) (fun _ => rfl) (ev_sub rfl rfl (K.homes.get hn)) hF h0 h1)
  have g2 : (h ++ [wayO T hl nm 0, wayO T hl nm 1, .list ([s0, s1].map sv)])[h.length + 2]? = _ := tri2
  have hd1 : (h ++ [wayO T hl nm 0, wayO T hl nm 1, .list ([s0, s1].map sv)])[a]? = _ := get_old hd
  generalize hH : h ++ [wayO T hl nm 0, wayO T hl nm 1, .list ([s0, s1].map sv)] = H1 at *
  have e2 := comp_filter (h := H1) (κ := Seat) (g := sv) (f := sv) (P := fun s => !(hl.lookup s).isSome) (xs := [s0, s1]) (src := .loc (h.length + 2))
    (body := fun u h' => (evalConds (cF p (n + 2) F) (.cons (.cmp .notin (.loc 8) (.loc 1)) .nil) (inner [some (.loc t), some (.loc a), some (.loc b), some (.str nm), some .none, none, some (.loc (h.length + 2)), none] 1 8 u) h').bind fun z' h' => ifB z' h' (evalX (cF p (n + 2) F) (.loc 8) (inner [some (.loc t), some (.loc a), some (.loc b), some (.str nm), some .none, none, some (.loc (h.length + 2)), none] 1 8 u) h'))
    (fun k => next_list g2) (fun s hs => by
      have ec : ∀ l, locAt l 8 = some (sv s) -> locAt l 1 = some (.loc a) -> evalX (cF p (n + 2) F) (.cmp .notin (.loc 8) (.loc 1)) l H1 = .ok (.bool !(hl.lookup s).isSome) H1 := fun l q1 q2 => ev_cmp (by rw [x_loc, q1]; rfl) (by rw [x_loc, q2]; rfl) (st_notin hd1)
      show Res.bind (Res.bind (evalX (cF p (n + 2) F) (.cmp .notin (.loc 8) (.loc 1)) _ H1) _) _ = _
      rw [ec _ rfl rfl, bok]
      rcases !(hl.lookup s).isSome with _ | _ <;> rfl) (by show 2 <= 1000; decide) hF
  rw [List.filter_cons_of_neg (by rw [c0]; exact Bool.false_ne_true), List.filter_cons_of_neg (by rw [c1]; exact Bool.false_ne_true), List.filter_nil, List.map_nil] at e2
  have e3 := ev_comp (c := cF p (n + 2) F) (l := [some (.loc t), some (.loc a), some (.loc b), some (.str nm), some .none, none, some (.loc (h.length + 2)), none]) rfl (it := .loc 6) rfl e2 (Nat.zero_le _)
  have e4 : evalX (cF p (n + 2) F) (.list .nil) [some (.loc t), some (.loc a), some (.loc b), some (.str nm), some .none, none, some (.loc (h.length + 2)), none] (H1 ++ [.list []]) = .ok (.loc (H1.length + 1)) (H1 ++ [.list [], .list []]) := by
    rw [ev_list rfl (by show 0 <= 1000; decide), List.length_append, List.append_assoc]; rfl
  refine ⟨[wayO T hl nm 0, wayO T hl nm 1, .list ([s0, s1].map sv)] ++ [.list [], .list []], ?_⟩
  rw [<- List.append_assoc, hH]
  exact (ss_step e1).trans ((ss_step (st_f (ev_cmp e3 e4 no_list) rfl)).trans (ss_last (st_ret rfl)))
end
end
section
open PySem Cu
section
variable {p : Prog} {n : Nat} {h h' : AHeap} {t d e a b : Nat} {T : Tb} {ns : List Nm} {st hl : St'} {th : Th} {nm : Nm} {X : List Nat}
theorem ev_isi {c : Ctx} {x : Mine.Internal.X} {l : Locs} {v : AV} {h1 : AHeap} {t : Ty} {r : Bool} (ex : evalX c x l h = .ok v h1) (ht : isTy h1 v t = some r) : evalX c (.isi x t) l h = .ok (.bool r) h1 := by rw [x_isi, ex, bok, ht]; rfl
theorem Ord.where_is (O : Ord T st th) {s : Seat} (hs : st.lookup s = some nm) : whereOf T st nm = s := O.once _ _ _ (O.stands ((O.there nm).mp ⟨s, hs⟩)) hs
theorem Like.once (L : Like st hl) (O : Ord T st th) : Once hl := fun s s' m h1 h2 => O.once s s' m ((L.eq s).trans h1) ((L.eq s').trans h2)
theorem run_put_one (H : HasQ p) (S : Sit h t d e T st th) (K : Hold h a b T ns hl) (L : Like st hl) (hn : nm ∈ ns) (hnew : th.lookup nm = none) (hlen : st.length < 63) (ha : a ∉ [d, e]) (hb' : b ∉ [d, e]) :
    One8 h t d e a b T ns th nm (semF p (n + 9) false "_law_put_one" [.loc t, .loc a, .loc b, .str nm] h) := by
  refine xEA (run_in (n := n + 8) (h := h) H.one (as := [.loc t, .loc a, .loc b, .str nm]) [some (.loc t), some (.loc a), some (.loc b), some (.str nm), none, none, none, none] rfl rfl) fun F hF e1 => ?_
  rw [e1]
  have G := K.good nm hn
  have hlh := L.len
  have q := run_told (n := n) H.toHasE S G hnew hlen
  generalize hr0 : semF p (n + 8) false "_law_told" [.loc t, .str nm] h = r0 at q
  rcases q with ⟨g, hb⟩ | ⟨h1, st', w, i, j, hb, A, S1, k, hi, hj⟩
  . rw [L.best] at hb
    refine xE (one_no (n := n + 6) (t := t) H (K.more (g := g)) hn hb hF) fun g' e2 => ?_
    have : retR (execSs (cF p (n + 8) F) d__law_put_one.body [some (.loc t), some (.loc a), some (.loc b), some (.str nm), none, none, none, none] h) = .ok (.loc a) (h ++ (g ++ g')) := by
      rw [<- List.append_assoc]
      exact fin_ret ((ss_step (st_asg (ev_call rfl hr0))).trans (ss_stop (st_t rfl e2)))
    rw [this]
    exact .no _
  . rw [L.best] at hb
    rw [L.moves] at hi hj
    obtain ⟨r, hr, hw, hop, hoth⟩ := best_row hb
    subst hw
    have W := wayOf_way (hm := T.hm) hl (T.hm nm r)
    have hws := W.short
    have hpos := W.pos
    have e0 : seatAt (wayAt T hl nm r) 0 = T.hm nm r := by have q := W.head; rw [seat_at W.pos] at q; exact Option.some.inj q
    have K1 := K.kp k ha hb'
    have hO := L.once S.ord
    have q := run_walked (n := n + 7) H.walked K1 hO W hop hj (by lia)
    generalize hr2 : semF p (n + 8) false "_law_walked" [.loc a, .loc b, .loc j] h1 = r2 at q
    rcases q with ⟨g2, j2, ep, M, m, hole, hM, hj2, hh2⟩
    rw [e0] at hole
    have S2 := S1.more (g := g2)
    have K2 := K1.more (g := g2)
    refine xE S2.fd fun ep1 hd => ?_
    refine xE S2.fe fun ep2 he => ?_
    have hz : st'.lookup (T.hm nm r) = some nm := A.z _ W.head
    have ew := run_where (n := n + 4) H.toHasP S2.ok S2.ord S2.tab hd he G
    rw [S2.ord.where_is hz, if_pos ((S2.ord.there nm).mp ⟨_, hz⟩)] at ew
    have es := run_shortest (n := n + 5) H.toHasE H.short K2 hn hr hop hoth
    have hjj : (h1 ++ g2)[j]? = _ := get_old hj
    have hm1 : ((movesOf hl (wayAt T hl nm r)).map mvAV).length = (wayAt T hl nm r).length - 1 := by rw [List.length_map, moves_len]
    refine xE (st_put (h := waysH (h1 ++ g2) T hl nm) (s := T.hm nm r) (nm := nm) (get_old hj2) (lim_lt (by lia))) fun ep3 sp => ?_
    have hget : (waysH (h1 ++ g2) T hl nm)[j2]? = some (.dict (stK M) ep) := get_old hj2
    have hnd : d ≠ j2 := fun q => absurd (List.getElem?_eq_some_iff.mp S1.fd.choose_spec).1 (by lia)
    have hne : e ≠ j2 := fun q => absurd (List.getElem?_eq_some_iff.mp S1.fe.choose_spec).1 (by lia)
    have kp2 : Kp [d, e] h1 (waysH (h1 ++ g2) T hl nm) := Kp.app.trans Kp.app
    have hlb := (xEEA K1.homes fun kvs ep h1' _ => (List.getElem?_eq_some_iff.mp h1').1 : b < h1.length)
    have e1' : execS (cF p (n + 8) F) po1 [some (.loc t), some (.loc a), some (.loc b), some (.str nm), none, none, none, none] h = .ok .next [some (.loc t), some (.loc a), some (.loc b), some (.str nm), some (.tup [.loc i, .loc j]), none, none, none] h1 := st_asg (ev_call rfl hr0)
    have e8 : execS (cF p (n + 8) F) po8 [some (.loc t), some (.loc a), some (.loc b), some (.str nm), some (.tup [.loc i, .loc j]), some (sv (T.hm nm r)), none, some (.loc j2)] (waysH (h1 ++ g2) T hl nm) = .ok .next [some (.loc t), some (.loc a), some (.loc b), some (.str nm), some (.tup [.loc i, .loc j]), some (sv (T.hm nm r)), none, some (.loc j2)] ((waysH (h1 ++ g2) T hl nm).set j2 (.dict (stK (put M (T.hm nm r) nm)) ep3)) := st_set rfl rfl rfl sp
    have e2 : execS (cF p (n + 8) F) po2 [some (.loc t), some (.loc a), some (.loc b), some (.str nm), some (.tup [.loc i, .loc j]), none, none, none] h1 = .ok .next [some (.loc t), some (.loc a), some (.loc b), some (.str nm), some (.tup [.loc i, .loc j]), none, none, none] h1 := st_f rfl rfl
    have e3 : execS (cF p (n + 8) F) po3 [some (.loc t), some (.loc a), some (.loc b), some (.str nm), some (.tup [.loc i, .loc j]), none, none, none] h1 = .ok .next [some (.loc t), some (.loc a), some (.loc b), some (.str nm), some (.tup [.loc i, .loc j]), none, none, none] h1 := by
      refine st_f (ev_or_f (ev_cmp (ev_sub rfl rfl sub_t0) (ev_sub rfl rfl sub_t1) ?_) (ev_not (ev_isi (r := true) (ev_sub rfl rfl sub_t1) ?_))) rfl
      . have q := eq_lists hi hj (eqv_mv 2)
        rw [decide_eq_true rfl] at q
        exact ne_of_eqv q
      . show (listAt h1 j).map _ = _
        rw [listAt_of hj]; rfl
    have e4 : execS (cF p (n + 8) F) po4 [some (.loc t), some (.loc a), some (.loc b), some (.str nm), some (.tup [.loc i, .loc j]), none, none, none] h1 = .ok .next [some (.loc t), some (.loc a), some (.loc b), some (.str nm), some (.tup [.loc i, .loc j]), none, none, some (.loc j2)] (h1 ++ g2) :=
      st_asg (ev_call (ev_cons rfl (ev_cons rfl (ev_one (ev_sub rfl rfl sub_t1)))) hr2)
    have e5 : execS (cF p (n + 8) F) po5 [some (.loc t), some (.loc a), some (.loc b), some (.str nm), some (.tup [.loc i, .loc j]), none, none, some (.loc j2)] (h1 ++ g2) = .ok .next [some (.loc t), some (.loc a), some (.loc b), some (.str nm), some (.tup [.loc i, .loc j]), some (sv (T.hm nm r)), none, some (.loc j2)] (h1 ++ g2) :=
      st_asg (ev_im rfl (S2.tab.meth rfl) rfl ew)
    have e6 : execS (cF p (n + 8) F) po6 [some (.loc t), some (.loc a), some (.loc b), some (.str nm), some (.tup [.loc i, .loc j]), some (sv (T.hm nm r)), none, some (.loc j2)] (h1 ++ g2) = .ok .next [some (.loc t), some (.loc a), some (.loc b), some (.str nm), some (.tup [.loc i, .loc j]), some (sv (T.hm nm r)), none, some (.loc j2)] (h1 ++ g2) := by
      refine st_f (ev_or_f rfl (ev_or_f (ev_cmp rfl (ev_sub rfl rfl (K2.homes.get hn)) (in_homes hr)) (ev_cmp rfl rfl ?_))) rfl
      rw [st_in hj2, hole]; rfl
    have e7 : execS (cF p (n + 8) F) po7 [some (.loc t), some (.loc a), some (.loc b), some (.str nm), some (.tup [.loc i, .loc j]), some (sv (T.hm nm r)), none, some (.loc j2)] (h1 ++ g2) = .ok .next [some (.loc t), some (.loc a), some (.loc b), some (.str nm), some (.tup [.loc i, .loc j]), some (sv (T.hm nm r)), none, some (.loc j2)] (waysH (h1 ++ g2) T hl nm) := by
      have el := len_list hjj
      rw [hm1] at el
      exact st_f (ev_not (b := true) (ev_call (ev_cons rfl (ev_cons rfl (ev_cons rfl (ev_cons (ev_sub rfl rfl sv0) (ev_one (ev_bi rfl (ev_one (ev_sub rfl rfl sub_t1)) el)))))) es)) rfl
    have : retR (execSs (cF p (n + 8) F) d__law_put_one.body [some (.loc t), some (.loc a), some (.loc b), some (.str nm), none, none, none, none] h) = .ok (.loc j2) ((waysH (h1 ++ g2) T hl nm).set j2 (.dict (stK (put M (T.hm nm r) nm)) ep3)) :=
      fin_ret ((ss_step e1').trans ((ss_step e2).trans ((ss_step e3).trans ((ss_step e4).trans ((ss_step e5).trans ((ss_step e6).trans ((ss_step e7).trans ((ss_step e8).trans (ss_last (st_ret rfl))))))))))
    rw [this]
    have A' : Aft hl (wayAt T hl nm r) nm (put M (T.hm nm r) nm) := m.aft W
    have hlen' := put_len_le (t := M) (s := T.hm nm r) (m := nm)
    refine .yes _ st' (put M (T.hm nm r) nm) j2 ((S2.more (g := [wayO T hl nm 0, wayO T hl nm 1, .list [.loc (h1 ++ g2).length, .loc ((h1 ++ g2).length + 1)]])).kp (X := [j2]) (Kp.set (List.mem_singleton.mpr rfl)) (fun x hx => ?_) (fun q => hnd (List.mem_singleton.mp q)) fun q => hne (List.mem_singleton.mp q)) ⟨K.ok, K.good, ⟨ep3, ?_⟩, ?_, A'.held K.held hr W hn, by lia⟩ (A.like A' L) ((k.trans kp2).setNew (Nat.le_trans k.len hh2)) (Nat.le_trans k.len hh2)
    . rw [List.mem_singleton.mp hx]
      exact ⟨_, hget, rfl⟩
    . exact List.getElem?_set_self (List.getElem?_eq_some_iff.mp hget).1
    . refine xEEA (K2.homes.more (g := [wayO T hl nm 0, wayO T hl nm 1, .list [.loc (h1 ++ g2).length, .loc ((h1 ++ g2).length + 1)]])) fun kvs ep' q1 q2 => ⟨kvs, ep', get_other q1 (by lia), q2⟩
end
end
section
open PySem Cu
noncomputable def nb1 : S := (.iff (.and (.cmp .isin (.loc 3) (.sub (.loc 1) (.loc 4))) (.cmp .notin (.loc 4) (.comp (.sub (.loc 0) (.loc 5)) 1 5 (.bi .list (.cons (.loc 0) .nil)) .nil)))
    (.cons (.iff (.cmp .notin (.sub (.sub (.loc 1) (.loc 4)) (.bin .sub (.int 1) (.sub (.loc 3) (.int 0)))) (.loc 0))
      (.cons (.ret (.loc 4))
      .nil)
      .nil)
    .nil)
    .nil)
noncomputable def b__law_next_name_1 : Ss := (.cons nb1 .nil)
noncomputable def d__law_next_name : FDef := ⟨4, 5,
  (.cons (.forr 4 (.loc 2) b__law_next_name_1)
  (.cons (.ret .none)
  .nil))⟩
noncomputable def lz1 : S := (.expr (.im "put_at" (.loc 0) (.cons (.loc 6) (.cons (.int 1) (.cons (.loc 3) .nil)))))
noncomputable def lz2 : S := (.setitem (.loc 5) (.loc 3) (.loc 6))
noncomputable def lz3 : S := (.asg 3 (.sub (.sub (.loc 1) (.loc 6)) (.bin .sub (.int 1) (.sub (.loc 3) (.int 0)))))
noncomputable def lz4 : S := (.asg 6 (.call "_law_next_name" (.cons (.loc 5) (.cons (.loc 1) (.cons (.loc 2) (.cons (.loc 3) .nil))))))
noncomputable def b__law_laid_1 : Ss := (.cons lz1 (.cons lz2 (.cons lz3 (.cons lz4 .nil))))
noncomputable def t__law_laid_1 : X := (.and (.isn false (.loc 6)) (.cmp .lt (.bi .len (.cons (.loc 5) .nil)) (.loc 4)))
noncomputable def d__law_laid : FDef := ⟨5, 7,
  (.cons (.asg 5 .dict0)
  (.cons (.asg 6 (.call "_law_next_name" (.cons (.loc 5) (.cons (.loc 1) (.cons (.loc 2) (.cons (.loc 3) .nil))))))
  (.cons (.whil t__law_laid_1 b__law_laid_1)
  (.cons (.ret (.loc 5))
  .nil))))⟩
section
variable {p : Prog} {n : Nat} {h h' : AHeap} {t d e a b o v m i mx : Nat} {T : Tb} {ns : List Nm} {st hl : St'} {th : Th} {nm : Nm} {F : Nat} {c : Ctx} {l : Locs} {s : Seat}
structure HasZ (p : Prog) : Prop extends HasQ p where
  next : Prog.has p "_law_next_name" d__law_next_name
  laid : Prog.has p "_law_laid" d__law_laid
structure Next (T : Tb) (ns : List Nm) (hl : St') (s : Seat) (nm : Nm) : Prop where
  mem : nm ∈ ns
  at' : s = T.hm nm s.1
  no : ∀ x, hl.lookup x ≠ some nm
  free : hl.lookup (T.hm nm (1 - s.1)) = none
theorem in_tup {w : List Seat} : cmpAV h .isin (sv s) (.tup (w.map sv)) = some (decide (s ∈ w)) := find_map (fun a b => eqv_pair' (n := 4) a b) s w
theorem notin_strs {w : List Nm} (hi : h[i]? = some (.list (w.map .str))) : cmpAV h .notin (.str nm) (.loc i) = some (!decide (nm ∈ w)) := by
  have e : cmpAV h .notin (.str nm) (.loc i) = (isIn h (.str nm) (.loc i)).map not := rfl
  rw [e]
  have e2 : isIn h (.str nm) (.loc i) = some (decide (nm ∈ w)) := by
    delta isIn; dsimp only; rw [hi]
    exact find_map (g := AV.str) (fun a b => rfl) nm w
  rw [e2]; rfl
theorem tail1 {x y : AObj} : (h ++ [x, y])[h.length + 1]? = some y := by rw [List.getElem?_append_right (Nat.le_add_right ..), Nat.add_sub_cancel_left]; rfl
theorem len_dict {i ep : Nat} {kvs : List (Key × AV)} (hd : h[i]? = some (.dict kvs ep)) : biAV .len [.loc i] h = .ok (.int kvs.length) h := by
  show lenAV (.loc i) h = _
  delta lenAV; dsimp only; rw [hd]
theorem ev_keys (hq : c.q = false) (K : Hold h a b T ns hl) {i : Nat} (h0 : locAt l i = some (.loc a)) : evalX c (.bi .list (.cons (.loc i) .nil)) l h = .ok (.loc h.length) (h ++ [.list ((keysOf hl).map sv)]) := by
  refine xE K.dict fun epa hd => ?_
  have hlen := K.len
  exact ev_bi hq (ev_one (by rw [x_loc, h0]; rfl)) (list_ok (walk_st hd) (by rw [List.length_map, keys_len]; exact lim_le (by lia)))
theorem names_held (hq : c.q = false) (hF : 50000 <= c.fuel) (K : Hold h a b T ns hl) {j : Nat} (h0 : locAt l 0 = some (.loc a)) (h1 : ∀ v, locAt (inner l 1 j v) 0 = some (.loc a)) (h2 : ∀ v, locAt (inner l 1 j v) j = some v) :
    evalX c (.comp (.sub (.loc 0) (.loc j)) 1 j (.bi .list (.cons (.loc 0) .nil)) .nil) l h = .ok (.loc (h.length + 1)) (h ++ [.list ((keysOf hl).map sv), .list ((hl.map (·.2)).map .str)]) := by
  refine xE K.dict fun epa hd => ?_
  have hlen := K.len
  have e4 := comp_filter (h := h ++ [.list ((keysOf hl).map sv)]) (κ := Seat × Nm) (g := fun q => sv q.1) (f := fun q => .str q.2) (P := fun _ => true) (xs := hl) (src := .loc h.length)
    (body := fun u h => (evalConds c .nil (inner l 1 j u) h).bind fun z' h => ifB z' h (evalX c (.sub (.loc 0) (.loc j)) (inner l 1 j u) h))
    (fun k => by rw [next_list get_new, keysOf, List.map_map]; rfl) (fun q hq => by
      have hl1 := lookup_of_mem K.held.nd (a := q.1) (b := q.2) hq
      show Res.bind (evalX c (.sub (.loc 0) (.loc j)) (inner l 1 j (sv q.1)) _) _ = _
      rw [ev_sub (v := .loc a) (u := sv q.1) (by rw [x_loc, h1]; rfl) (by rw [x_loc, h2]; rfl) (st_get (get_old hd) hl1)]; rfl) (by lia) hF
  rw [List.filter_eq_self.mpr (fun _ _ => rfl)] at e4
  rw [ev_comp hq (ev_keys hq K h0) e4 (by rw [List.length_map]; lia), List.append_assoc, List.length_append, List.map_map]
  rfl
theorem Hold.put (K : Hold h a b T ns hl) {r : Int} (hr : r = 0 \/ r = 1) (hn : nm ∈ ns) (h2 : hl.length < 100) {h' : AHeap} {j ep : Nat} (hj : h'[j]? = some (.dict (stK (put hl (T.hm nm r) nm)) ep)) (hb : HomesAt h' b T ns) : Hold h' j b T ns (put hl (T.hm nm r) nm) := by
  have hpl := put_len_le (t := hl) (s := T.hm nm r) (m := nm)
  refine ⟨K.ok, K.good, ⟨ep, hj⟩, hb, ⟨put_nodup K.held.nd, fun s x q => ?_⟩, by lia⟩
  rw [put_lookup] at q
  by_cases e : s = T.hm nm r
  . rw [if_pos e] at q
    rcases Option.some.inj q with rfl
    rw [e]
    exact ⟨hn, hr, rfl⟩
  . rw [if_neg e] at q
    exact K.held.all s x q
inductive NextRes (h : AHeap) (T : Tb) (ns : List Nm) (hl : St') (s : Seat) : Res AV -> Prop
  | no (g : AHeap) : NextRes h T ns hl s (.ok .none (h ++ g))
  | yes (g : AHeap) (nm : Nm) (N : Next T ns hl s nm) : NextRes h T ns hl s (.ok (.str nm) (h ++ g))
inductive NxInv (h : AHeap) (a b o : Nat) (s : Seat) : Nat -> Locs -> AHeap -> Prop
  | mk (k : Nat) (g : AHeap) (v4 : Option AV) : NxInv h a b o s k [some (.loc a), some (.loc b), some (.loc o), some (sv s), v4] (h ++ g)
theorem next_turn (K : Hold h a b T ns hl) (hs : s.1 = 0 \/ s.1 = 1) (hm : nm ∈ ns) (hF : 50000 <= F) : ∃ g, execSs (cF p n F) b__law_next_name_1 [some (.loc a), some (.loc b), some (.loc o), some (sv s), some (.str nm)] h = .ok .next [some (.loc a), some (.loc b), some (.loc o), some (sv s), some (.str nm)] (h ++ g) \/
    (Next T ns hl s nm /\ execSs (cF p n F) b__law_next_name_1 [some (.loc a), some (.loc b), some (.loc o), some (sv s), some (.str nm)] h = .ok (.ret (.str nm)) [some (.loc a), some (.loc b), some (.loc o), some (sv s), some (.str nm)] (h ++ g)) := by
  have e1 : evalX (cF p n F) (.cmp .isin (.loc 3) (.sub (.loc 1) (.loc 4))) [some (.loc a), some (.loc b), some (.loc o), some (sv s), some (.str nm)] h = .ok (.bool (decide (s ∈ [T.hm nm 0, T.hm nm 1]))) h := ev_cmp rfl (ev_sub rfl rfl (K.homes.get hm)) (in_tup (w := [T.hm nm 0, T.hm nm 1]))
  by_cases h1 : s ∈ [T.hm nm 0, T.hm nm 1]
  . rw [decide_eq_true h1] at e1
    have at' : s = T.hm nm s.1 := by
      rcases List.mem_cons.mp h1 with q | q
      . rw [q]; rfl
      . rw [List.mem_singleton.mp q]; rfl
    have e2 := names_held (j := 5) (c := cF p n F) (l := [some (.loc a), some (.loc b), some (.loc o), some (sv s), some (.str nm)]) rfl hF K rfl (fun _ => rfl) (fun _ => rfl)
    have e3 := ev_cmp (op := .notin) (o := .loc 4) (v := .str nm) rfl e2 (notin_strs tail1)
    have K1 := K.more (g := [.list ((keysOf hl).map sv), .list ((hl.map (·.2)).map .str)])
    generalize [AObj.list ((keysOf hl).map sv), .list ((hl.map (·.2)).map .str)] = g at e3 K1
    refine xE K1.dict fun epa hd => ?_
    refine ⟨g, ?_⟩
    by_cases h2 : nm ∈ hl.map (·.2)
    . rw [decide_eq_true h2] at e3
      exact .inl (ss_last (a := nb1) (st_f (ev_and_t e1 e3) rfl))
    . rw [decide_eq_false h2] at e3
      have e4 : evalX (cF p n F) (.cmp .notin (.sub (.sub (.loc 1) (.loc 4)) (.bin .sub (.int 1) (.sub (.loc 3) (.int 0)))) (.loc 0)) [some (.loc a), some (.loc b), some (.loc o), some (sv s), some (.str nm)] (h ++ g) = .ok (.bool !(hl.lookup (T.hm nm (1 - s.1))).isSome) (h ++ g) :=
        ev_cmp (ev_sub (ev_sub rfl rfl (K1.homes.get hm)) (u := .int (1 - s.1)) rfl (homes_at (other_row hs))) rfl (st_notin hd)
      rcases h3 : hl.lookup (T.hm nm (1 - s.1)) with _ | x
      case some =>
        rw [h3] at e4
        exact .inl (ss_last (a := nb1) (st_t (ev_and_t e1 e3) (ss_last (st_f e4 rfl))))
      case none =>
        rw [h3] at e4
        exact .inr ⟨⟨hm, at', fun x q => h2 (List.mem_map.mpr ⟨_, lookup_mem q, rfl⟩), h3⟩, ss_last (a := nb1) (st_t (ev_and_t e1 e3) (ss_last (st_t e4 rfl)))⟩
  . rw [decide_eq_false h1] at e1
    exact ⟨[], .inl (by rw [List.append_nil]; exact ss_last (a := nb1) (st_f (ev_and_f e1) rfl))⟩
theorem run_next (H : HasZ p) (K : Hold h a b T ns hl) (hs : s.1 = 0 \/ s.1 = 1) (ho : h[o]? = some (.list (ns.map .str))) (hnl : ns.length <= 100) : NextRes h T ns hl s (semF p (n + 1) false "_law_next_name" [.loc a, .loc b, .loc o, sv s] h) := by
  refine xEA (run_in (n := n) (h := h) H.next (as := [.loc a, .loc b, .loc o, sv s]) [some (.loc a), some (.loc b), some (.loc o), some (sv s), none] rfl rfl) fun F hF e1 => ?_
  have q := forLoop_gen (put := put1 4) (src := .loc o) (items := ns.map AV.str) (body := fun l h => execSs (cF p n F) b__law_next_name_1 l h) (NxInv h a b o s) (fun r => ∃ nm l g, r = .ok (.ret (.str nm)) l (h ++ g) /\ Next T ns hl s nm)
    (fun k l h' hI => by cases hI; exact next_list (get_old ho)) (fun k x l h' hv hI => by
      cases hI with
      | mk g v4 =>
      rw [List.getElem?_map] at hv
      refine xEA (Option.map_eq_some_iff.mp hv) fun nm hnm qq1 => ?_; subst qq1
      refine ⟨_, rfl, ?_⟩
      obtain ⟨g', e | ⟨N, e⟩⟩ := next_turn (p := p) (n := n) (o := o) (K.more (g := g)) hs (List.mem_of_getElem? hnm) hF
      . show Turn _ _ (execSs _ b__law_next_name_1 [some (.loc a), some (.loc b), some (.loc o), some (sv s), some (.str nm)] (h ++ g))
        rw [e, List.append_assoc]
        exact .next _ _ (.mk _ _ _)
      . show Turn _ _ (execSs _ b__law_next_name_1 [some (.loc a), some (.loc b), some (.loc o), some (sv s), some (.str nm)] (h ++ g))
        rw [e, List.append_assoc]
        exact .halt _ (.ret ..) ⟨nm, _, _, rfl, N⟩) F 0 [some (.loc a), some (.loc b), some (.loc o), some (sv s), none] h (by rw [List.length_map]; lia) (Nat.zero_le _) (by
        have := NxInv.mk (h := h) (a := a) (b := b) (o := o) (s := s) 0 [] none
        rwa [List.append_nil] at this)
  rcases q with ⟨l', h', e2, I⟩ | ⟨nm, l', g, e2, N⟩
  . generalize (ns.map AV.str).length = k at I
    cases I with
    | mk g v4 =>
    rw [e1, d__law_next_name, ss_step (st_for rfl rfl e2)]
    exact .no g
  . rw [e1, d__law_next_name, ss_stop (st_for rfl rfl e2)]
    exact .yes g nm N
noncomputable def onesOf (st : St') : Th := st.map fun q => (q.2, 1)
theorem put_one (hs : st.lookup s = none) (hn : (onesOf st).lookup nm = none) : put st s nm = st ++ [(s, nm)] /\ put (onesOf st) nm 1 = onesOf (put st s nm) := by
  have h1 : put st s nm = st ++ [(s, nm)] := by
    unfold put
    rw [if_neg fun q => lookup_none.mp hs (any_iff.mp q)]
  refine ⟨h1, ?_⟩
  rw [put_new hn, h1]
  unfold onesOf
  rw [List.map_append]; rfl
structure Lay (h0 h : AHeap) (t d e i b o : Nat) (T : Tb) (ns : List Nm) (st : St') : Prop where
  S : Sit h t d e T st (onesOf st)
  K : Hold h i b T ns st
  ho : h[o]? = some (.list (ns.map .str))
  kp : Kp [d, e, i] h0 h
  id : i ≠ d
  ie : i ≠ e
  bd : b ≠ d
  be : b ≠ e
  bi : b ≠ i
theorem Lay.more {h0 g : AHeap} (L : Lay h0 h t d e i b o T ns st) : Lay h0 (h ++ g) t d e i b o T ns st := ⟨L.S.more, L.K.more, get_old L.ho, L.kp.trans Kp.app, L.id, L.ie, L.bd, L.be, L.bi⟩
noncomputable def LZ (mx t b o i : Nat) (s : Seat) (x : AV) : Locs := [some (.loc t), some (.loc b), some (.loc o), some (sv s), some (.int (mx : Nat)), some (.loc i), some x]
inductive NameIs (T : Tb) (ns : List Nm) (hl : St') (s : Seat) : AV -> Prop
  | no : NameIs T ns hl s .none
  | yes (nm : Nm) (N : Next T ns hl s nm) : NameIs T ns hl s (.str nm)
theorem lay_step (H : HasZ p) {h0 : AHeap} (L : Lay h0 h t d e i b o T ns st) (N : Next T ns st s nm) (hs : s.1 = 0 \/ s.1 = 1) (hf : st.lookup s = none) (hlt : st.length < mx) (hmx : mx <= 20) (hnl : ns.length <= 100) :
    ∃ h' s' x st', execSs (cF p (n + 4) F) b__law_laid_1 (LZ mx t b o i s (.str nm)) h = .ok .next (LZ mx t b o i s' x) h' /\ Lay h0 h' t d e i b o T ns st' /\ NameIs T ns st' s' x /\ (s'.1 = 0 \/ s'.1 = 1) /\ st'.lookup s' = none /\ st'.length = st.length + 1 := by
  have G := L.K.good nm N.mem
  have hth : (onesOf st).lookup nm = none := by
    rcases q : (onesOf st).lookup nm with _ | u
    case none => rfl
    case some =>
      refine xE ((L.S.ord.there nm).mpr (by rw [q]; rfl)) fun x hx => ?_
      exact absurd hx (N.no x)
  refine xA (put_one hf hth) fun p1 p2 => ?_
  have q := run_put_at (n := n) H.toHasP L.S G (v := 1) (by decide) (by decide) hs (by lia)
  rw [<- N.at'] at q
  have ek : ∀ {r : Res AV}, semF p (n + 4) false "put_at" [.loc t, .str nm, .int 1, sv s] h = r -> evalX (cF p (n + 4) F) (.im "put_at" (.loc 0) (.cons (.loc 6) (.cons (.int 1) (.cons (.loc 3) .nil)))) (LZ mx t b o i s (.str nm)) h = r := fun hr => ev_im rfl (L.S.tab.meth rfl) rfl hr
  generalize hr : semF p (n + 4) false "put_at" [.loc t, .str nm, .int 1, sv s] h = r at q
  cases q with
  | twice hn => rw [hth] at hn; cases hn
  | taken _ hs' => rw [hf] at hs'; cases hs'
  | done _ _ h1 S1 k1 =>
    rw [p2, p1] at S1
    have nd : ∀ {x}, x ≠ d -> x ≠ e -> x ∉ [d, e] := fun q1 q2 q => by
      rcases List.mem_cons.mp q with q | q
      . exact q1 q
      . exact q2 (List.mem_singleton.mp q)
    have K1 := L.K.kp k1 (nd L.id L.ie) (nd L.bd L.be)
    refine xE K1.dict fun epi hi => ?_
    refine xE L.S.fd fun ep1 hd0 => ?_
    refine xE L.S.fe fun ep2 he0 => ?_
    have ho1 := k1.old o _ (fun q => by
      rcases List.mem_cons.mp q with q | q
      . have r := L.ho; rw [q, hd0] at r; cases r
      . have r := L.ho; rw [List.mem_singleton.mp q, he0] at r; cases r) L.ho
    have hoi : i ≠ o := fun q => by rw [q, ho1] at hi; cases hi
    refine xE (st_put (s := s) (nm := nm) hi (lim_lt (by lia))) fun ep' es => ?_
    rw [p1] at es
    have k2 : Kp [i] h1 (h1.set i (.dict (stK (st ++ [(s, nm)])) ep')) := Kp.set List.mem_cons_self
    have hX2 : ∀ j ∈ [i], ∃ o, h1[j]? = some o /\ isNs o = false := fun j hj => by rcases List.mem_singleton.mp hj with rfl; exact ⟨_, hi, rfl⟩
    have S2 := S1.kp k2 hX2 (by simpa using L.id.symm) (by simpa using L.ie.symm)
    have hput := L.K.put hs N.mem (by lia) (h' := h1.set i (.dict (stK (st ++ [(s, nm)])) ep')) (j := i) (ep := ep') (by rw [<- N.at', p1]; exact get_set hi) (K1.homes.imp fun kvs x => x.imp fun ep y => ⟨k2.old _ _ (by simpa using L.bi) y.1, y.2⟩)
    rw [<- N.at', p1] at hput
    have L2 : Lay h0 (h1.set i (.dict (stK (st ++ [(s, nm)])) ep')) t d e i b o T ns (st ++ [(s, nm)]) :=
      ⟨S2, hput, get_other ho1 hoi, L.kp.trans ((k1.wide (by simp)).trans (k2.wide (by simp))), L.id, L.ie, L.bd, L.be, L.bi⟩
    generalize h1.set i (.dict (stK (st ++ [(s, nm)])) ep') = h2 at es L2
    have hs2 : (T.hm nm (1 - s.1)).1 = 0 \/ (T.hm nm (1 - s.1)).1 = 1 := other_row hs
    have q2 := run_next (n := n + 3) (a := i) H L2.K hs2 L2.ho hnl
    have ek2 : ∀ {r : Res AV}, semF p (n + 4) false "_law_next_name" [.loc i, .loc b, .loc o, sv (T.hm nm (1 - s.1))] h2 = r -> evalX (cF p (n + 4) F) (.call "_law_next_name" (.cons (.loc 5) (.cons (.loc 1) (.cons (.loc 2) (.cons (.loc 3) .nil))))) (LZ mx t b o i (T.hm nm (1 - s.1)) (.str nm)) h2 = r := fun hr => ev_call rfl hr
    generalize hr2 : semF p (n + 4) false "_law_next_name" [.loc i, .loc b, .loc o, sv (T.hm nm (1 - s.1))] h2 = r2 at q2
    have s1 : execS (cF p (n + 4) F) lz1 (LZ mx t b o i s (.str nm)) h = .ok .next (LZ mx t b o i s (.str nm)) h1 := st_expr (ek hr)
    have s2 : execS (cF p (n + 4) F) lz2 (LZ mx t b o i s (.str nm)) h1 = .ok .next (LZ mx t b o i s (.str nm)) h2 := st_set rfl rfl rfl es
    have s3 : execS (cF p (n + 4) F) lz3 (LZ mx t b o i s (.str nm)) h2 = .ok .next (LZ mx t b o i (T.hm nm (1 - s.1)) (.str nm)) h2 := st_asg (ev_sub (ev_sub rfl rfl (L2.K.homes.get N.mem)) (u := .int (1 - s.1)) rfl (homes_at (other_row hs)))
    have hfree : (st ++ [(s, nm)]).lookup (T.hm nm (1 - s.1)) = none := by
      rw [<- p1, put_lookup, if_neg (fun q => by have := congrArg Prod.fst q; simp only [Tb.hm] at this; lia)]
      exact N.free
    have hlen : (st ++ [(s, nm)]).length = st.length + 1 := by rw [List.length_append]; rfl
    rw [b__law_laid_1, ss_step s1, ss_step s2, ss_step s3]
    cases q2 with
    | no g => exact ⟨_, _, _, _, ss_last (a := lz4) (st_asg (ek2 hr2)), L2.more, .no, hs2, hfree, hlen⟩
    | yes g nm2 N2 => exact ⟨_, _, _, _, ss_last (a := lz4) (st_asg (ek2 hr2)), L2.more, .yes nm2 N2, hs2, hfree, hlen⟩
theorem lay_loop (H : HasZ p) {h0 : AHeap} (hmx : mx <= 20) (hnl : ns.length <= 100) : ∀ k f h s x st, Lay h0 h t d e i b o T ns st -> NameIs T ns st s x -> (s.1 = 0 \/ s.1 = 1) -> st.lookup s = none -> st.length + k = mx + 1 -> k <= f -> st.length <= mx ->
    ∃ l' h' st', whileLoop (fun l h => (evalX (cF p (n + 4) F) t__law_laid_1 l h).noExc) (fun l h => (execSs (cF p (n + 4) F) b__law_laid_1 l h).noExc) f (LZ mx t b o i s x) h = .ok .next l' h' /\ locAt l' 5 = some (.loc i) /\ Lay h0 h' t d e i b o T ns st' /\ st'.length <= mx
  | 0, _, _, _, _, st, _, _, _, _, hk, _, hl => by lia
  | k + 1, f, h, s, x, st, L, N, hs, hf, hk, hkf, hl => by
    obtain ⟨f, rfl⟩ : ∃ g, f = g + 1 := ⟨f - 1, by lia⟩
    refine xE L.K.dict fun epi hi => ?_
    have hstl : (stK st).length = st.length := mk_length
    cases N with
    | no => exact ⟨LZ mx t b o i s .none, h, st, rfl, rfl, L, hl⟩
    | yes nm N =>
      have e1 : evalX (cF p (n + 4) F) t__law_laid_1 (LZ mx t b o i s (.str nm)) h = .ok (.bool (decide ((st.length : Int) < (mx : Nat)))) h := ev_and_t (h1 := h) rfl (ev_cmp (ev_bi rfl (ev_one rfl) (len_dict hi)) rfl (by rw [hstl]; rfl))
      have e0 : ∀ b' : Bool, evalX (cF p (n + 4) F) t__law_laid_1 (LZ mx t b o i s (.str nm)) h = .ok (.bool b') h -> whileLoop (fun l h => (evalX (cF p (n + 4) F) t__law_laid_1 l h).noExc) (fun l h => (execSs (cF p (n + 4) F) b__law_laid_1 l h).noExc) (f + 1) (LZ mx t b o i s (.str nm)) h = condS (.bool b') (((execSs (cF p (n + 4) F) b__law_laid_1 (LZ mx t b o i s (.str nm)) h).noExc).lap (whileLoop (fun l h => (evalX (cF p (n + 4) F) t__law_laid_1 l h).noExc) (fun l h => (execSs (cF p (n + 4) F) b__law_laid_1 l h).noExc) f)) (.ok .next (LZ mx t b o i s (.str nm)) h) := fun b' e => by
        show Res.st (Res.noExc (evalX _ t__law_laid_1 _ _)) _ _ = _
        rw [e]; rfl
      by_cases hlt : st.length < mx
      . rw [decide_eq_true (show (st.length : Int) < (mx : Nat) by lia)] at e1
        refine xEEEEAAAAA (lay_step (n := n) (F := F) H L N hs hf hlt hmx hnl) fun h' s' x' st' e2 L' N' hs' hf' hl' => ?_
        refine xEEEAAA (lay_loop H hmx hnl k f h' s' x' st' L' N' hs' hf' (by lia) (by lia) (by lia)) fun l2 h2 st2 e3 q1 q2 q3 => ?_
        refine ⟨l2, h2, st2, ?_, q1, q2, q3⟩
        rw [e0 true e1, cond_t, e2, nx_s, lap_next, e3]
      . rw [decide_eq_false (show ¬ (st.length : Int) < (mx : Nat) by lia)] at e1
        exact ⟨LZ mx t b o i s (.str nm), h, st, (e0 false e1).trans rfl, rfl, L, hl⟩
inductive LaidRes (h : AHeap) (t d e b o : Nat) (T : Tb) (ns : List Nm) : Res AV -> Prop
  | mk (h' : AHeap) (st : St') (i : Nat) (L : Lay h h' t d e i b o T ns st) (hi : h.length <= i) (hl : st.length <= 20) : LaidRes h t d e b o T ns (.ok (.loc i) h')
theorem run_laid (H : HasZ p) (S : Sit h t d e T [] []) (good : ∀ nm ∈ ns, Good nm) (hb : HomesAt h b T ns) (ho : h[o]? = some (.list (ns.map .str))) (hmx : mx <= 20) (hnl : ns.length <= 100) (hs : s.1 = 0 \/ s.1 = 1) (bd : b ≠ d) (be : b ≠ e) :
    LaidRes h t d e b o T ns (semF p (n + 5) false "_law_laid" [.loc t, .loc b, .loc o, sv s, .int (mx : Nat)] h) := by
  refine xEA (run_in (n := n + 4) (h := h) H.laid (as := [.loc t, .loc b, .loc o, sv s, .int (mx : Nat)]) [some (.loc t), some (.loc b), some (.loc o), some (sv s), some (.int (mx : Nat)), none, none] rfl rfl) fun F hF e1 => ?_
  have hdl : d < h.length := get_lt S.fd.choose_spec
  have hel : e < h.length := get_lt S.fe.choose_spec
  have hbl : b < h.length := by refine xEEA hb fun kvs ep q _ => ?_; exact get_lt q
  have L : Lay h (h ++ [.dict [] 0]) t d e h.length b o T ns [] := ⟨S.more, ⟨S.ok, good, ⟨0, get_new⟩, hb.more, HeldT.nil, by decide⟩, get_old ho, Kp.app, by lia, by lia, bd, be, by lia⟩
  have q := run_next (n := n + 3) (a := h.length) H L.K hs L.ho hnl
  have ek : ∀ {r : Res AV}, semF p (n + 4) false "_law_next_name" [.loc h.length, .loc b, .loc o, sv s] (h ++ [.dict [] 0]) = r -> evalX (cF p (n + 4) F) (.call "_law_next_name" (.cons (.loc 5) (.cons (.loc 1) (.cons (.loc 2) (.cons (.loc 3) .nil))))) [some (.loc t), some (.loc b), some (.loc o), some (sv s), some (.int (mx : Nat)), some (.loc h.length), none] (h ++ [.dict [] 0]) = r := fun hr => ev_call rfl hr
  generalize hr : semF p (n + 4) false "_law_next_name" [.loc h.length, .loc b, .loc o, sv s] (h ++ [.dict [] 0]) = r at q
  obtain ⟨x, g, rfl, N⟩ : ∃ x g, r = .ok x (h ++ [.dict [] 0] ++ g) /\ NameIs T ns [] s x := by
    cases q with
    | no g => exact ⟨_, _, rfl, .no⟩
    | yes g nm N => exact ⟨_, _, rfl, .yes nm N⟩
  refine xEEEAAA (lay_loop (n := n) (F := F) (mx := mx) H hmx hnl (mx + 1) F (h ++ [.dict [] 0] ++ g) s x [] L.more N hs rfl (Nat.zero_add _) (by lia) (Nat.zero_le _)) fun l' h' st' e2 q1 q2 q3 => ?_
  have s2 : execS (cF p (n + 4) F) (.asg 6 (.call "_law_next_name" (.cons (.loc 5) (.cons (.loc 1) (.cons (.loc 2) (.cons (.loc 3) .nil)))))) [some (.loc t), some (.loc b), some (.loc o), some (sv s), some (.int (mx : Nat)), some (.loc h.length), none] (h ++ [.dict [] 0]) = .ok .next (LZ mx t b o h.length s x) (h ++ [.dict [] 0] ++ g) := st_asg (ek hr)
  have s3 : execS (cF p (n + 4) F) (.whil t__law_laid_1 b__law_laid_1) (LZ mx t b o h.length s x) (h ++ [.dict [] 0] ++ g) = .ok .next l' h' := e2
  have e5 : evalX (cF p (n + 4) F) (.loc 5) l' h' = .ok (.loc h.length) h' := by rw [x_loc, q1]; rfl
  have : semF p (n + 5) false "_law_laid" [.loc t, .loc b, .loc o, sv s, .int (mx : Nat)] h = .ok (.loc h.length) h' := by
    rw [e1, d__law_laid]
    exact fin_ret ((ss_step (s := .asg 5 .dict0) rfl).trans ((ss_step s2).trans ((ss_step s3).trans (ss_last (st_ret e5)))))
  rw [this]
  exact .mk h' st' h.length q2 (Nat.le_refl _) (Nat.le_trans q3 hmx)
end
end
section
open PySem Cu
noncomputable def b__law_stands_1 : Ss :=
  (.cons (.iff (.or (.cmp .ne (.im "at" (.loc 0) (.cons (.loc 2) .nil)) (.sub (.loc 1) (.loc 2))) (.cmp .ne (.im "where" (.loc 0) (.cons (.sub (.loc 1) (.loc 2)) .nil)) (.loc 2)))
    (.cons (.ret (.bool false))
    .nil)
    .nil)
  .nil)
noncomputable def d__law_stands : FDef := ⟨2, 3,
  (.cons (.forr 2 (.bi .list (.cons (.loc 1) .nil)) b__law_stands_1)
  (.cons (.ret (.cmp .eq (.im "many" (.loc 0) .nil) (.bi .len (.cons (.loc 1) .nil))))
  .nil))⟩
noncomputable def hd1 : S := (.asg 7 (.comp (.call "_law_way" (.cons (.loc 0) (.cons (.loc 1) (.cons (.loc 9) .nil)))) 1 9 (.sub (.loc 1) (.loc 6)) .nil))
noncomputable def hd2 : S := (.asg 8 (.comp (.bi .len (.cons (.loc 9) .nil)) 1 9 (.loc 7) (.cons (.cmp .notin (.sub (.loc 9) (.neg (.int 1))) (.loc 0)) .nil)))
noncomputable def hd3 : S := (.iff (.and (.cmp .notin (.loc 6) (.loc 3)) (.and (.cmp .ne (.loc 8) (.list .nil)) (.cmp .gt (.bi .min (.cons (.loc 8) .nil)) (.loc 5))))
    (.cons (.asg 4 (.loc 6))
    (.cons (.asg 5 (.bi .min (.cons (.loc 8) .nil)))
    .nil))
    .nil)
noncomputable def b__law_hardest_1 : Ss := (.cons hd1 (.cons hd2 (.cons hd3 .nil)))
noncomputable def d__law_hardest : FDef := ⟨3, 9,
  (.cons (.asg 3 (.comp (.sub (.loc 0) (.loc 9)) 1 9 (.bi .list (.cons (.loc 0) .nil)) .nil))
  (.cons (.asg 4 (.sub (.loc 2) (.int 0)))
  (.cons (.asg 5 (.int 0))
  (.cons (.forr 6 (.loc 2) b__law_hardest_1)
  (.cons (.ret (.loc 4))
  .nil)))))⟩
structure HasS (p : Prog) : Prop extends HasZ p where
  at' : Prog.has p "at" d_at
  many : Prog.has p "many" d_many
  stands : Prog.has p "_law_stands" d__law_stands
  hard : Prog.has p "_law_hardest" d__law_hardest
section
variable {p : Prog} {n : Nat} {h h' : AHeap} {t d e a b o i : Nat} {T : Tb} {ns : List Nm} {st hl : St'} {th : Th} {nm : Nm} {F : Nat} {s : Seat}
theorem stands_turn (H : HasS p) (S : Sit h t d e T st th) (K : Hold h a b T ns hl) (L : Like st hl) {m : Nm} (hm : hl.lookup s = some m) :
    execSs (cF p (n + 4) F) b__law_stands_1 [some (.loc t), some (.loc a), some (sv s)] h = .ok .next [some (.loc t), some (.loc a), some (sv s)] h := by
  refine xE S.fd fun ep1 hd => ?_
  refine xE S.fe fun ep2 he => ?_
  refine xE K.dict fun ep ha => ?_
  refine xAA (K.held.all s m hm) fun hmn row e0 => ?_
  have hst : st.lookup s = some m := (L.eq s).trans hm
  have hin := Tb.hm_in K.ok (K.good m hmn) row
  rw [<- e0] at hin
  have ea := run_at' (n := n + 1) H.c H.i H.at' S.tab hd hin
  rw [hst] at ea
  have ew := run_where (n := n) H.toHasP S.ok S.ord S.tab hd he (K.good m hmn)
  rw [S.ord.where_is hst, if_pos ((S.ord.there m).mp ⟨_, hst⟩)] at ew
  have eg := st_get ha hm
  exact ss_last (st_f (ev_or_f (ev_cmp (ev_im rfl (S.tab.meth rfl) rfl ea) (ev_sub rfl rfl eg) (ne_of_eqv (r := true) (congrArg some (decide_eq_true rfl))))
    (ev_cmp (ev_im rfl (S.tab.meth rfl) (ev_one (ev_sub rfl rfl eg)) ew) rfl (ne_of_eqv (r := true) ((eqv_pair' (n := 4) _ _).trans (congrArg some (decide_eq_true rfl)))))) rfl)
inductive StInv (h : AHeap) (t a : Nat) : Nat -> Locs -> AHeap -> Prop
  | mk (k : Nat) (v : Option AV) : StInv h t a k [some (.loc t), some (.loc a), v] h
theorem run_stands (H : HasS p) (S : Sit h t d e T st th) (K : Hold h a b T ns hl) (L : Like st hl) : semF p (n + 5) false "_law_stands" [.loc t, .loc a] h = .ok (.bool true) (h ++ [.list ((keysOf hl).map sv)]) := by
  refine xEA (run_in (n := n + 4) (h := h) H.stands (as := [.loc t, .loc a]) [some (.loc t), some (.loc a), none] rfl rfl) fun F hF e1 => ?_
  have hlen := K.len
  have e2 := ev_keys (c := cF p (n + 4) F) (l := [some (.loc t), some (.loc a), none]) (i := 1) rfl K rfl
  have S1 := S.more (g := [.list ((keysOf hl).map sv)])
  have K1 := K.more (g := [.list ((keysOf hl).map sv)])
  have gk : (h ++ [.list ((keysOf hl).map sv)])[h.length]? = _ := get_new
  generalize hH : h ++ [.list ((keysOf hl).map sv)] = H1 at *
  have e3 := forLoop_all (i := 2) (src := .loc h.length) (items := (keysOf hl).map sv) (body := fun l h => execSs (cF p (n + 4) F) b__law_stands_1 l h) (StInv H1 t a)
    (fun k l h' I => by cases I; exact next_list gk) (fun k v l h' hv I => by
      cases I with
      | mk v0 =>
      rw [List.getElem?_map] at hv
      refine xEA (Option.map_eq_some_iff.mp hv) fun s hs qq1 => ?_; subst qq1
      refine xE (in_keys (List.mem_of_getElem? hs)) fun m hm => ?_
      exact ⟨_, _, stands_turn H S1 K1 L hm, .mk _ _⟩) (f := F) (l := [some (.loc t), some (.loc a), none]) (h := H1) (by rw [List.length_map, keys_len]; lia) (.mk 0 none)
  refine xEEA e3 fun l' h' e4 I => ?_
  generalize ((keysOf hl).map sv).length = k at I
  cases I with
  | mk v0 =>
  refine xE S1.fe fun ep2 he => ?_
  refine xE K1.dict fun ep ha => ?_
  have em := run_many (n := n + 3) H.many S1.tab he
  have el : biAV .len [.loc a] H1 = .ok (.int hl.length) H1 := by rw [len_dict ha, stK, mk_length]
  have hc : th.length = hl.length := S.ord.len.symm.trans L.len
  rw [e1]
  refine fin_ret ((ss_step (st_for rfl e2 e4)).trans (ss_last (st_ret (ev_cmp (ev_im rfl (S1.tab.meth rfl) rfl em) (ev_bi rfl (ev_one rfl) el) ?_))))
  rw [c_eqi, hc, decide_eq_true rfl]
noncomputable def lens (T : Tb) (hl : St') (nm : Nm) : List Int := ([0, 1].filter fun r => openW hl (wayAt T hl nm r)).map fun r => ((wayAt T hl nm r).length : Int)
theorem min_lens (h : lens T hl nm ≠ []) : ∃ v, minL ((lens T hl nm).map .int) = some (.int v) := by
  unfold lens at h |-
  rcases h0 : openW hl (wayAt T hl nm 0) with _ | _ <;> rcases h1 : openW hl (wayAt T hl nm 1) with _ | _
  . rw [List.filter_cons_of_neg (by rw [h0]; exact Bool.false_ne_true), List.filter_cons_of_neg (by rw [h1]; exact Bool.false_ne_true)] at h
    exact absurd rfl h
  . rw [List.filter_cons_of_neg (by rw [h0]; exact Bool.false_ne_true), List.filter_cons_of_pos (by exact h1)]
    exact ⟨_, rfl⟩
  . rw [List.filter_cons_of_pos (by exact h0), List.filter_cons_of_neg (by rw [h1]; exact Bool.false_ne_true)]
    exact ⟨_, rfl⟩
  . rw [List.filter_cons_of_pos (by exact h0), List.filter_cons_of_pos (by exact h1)]
    exact ⟨_, rfl⟩
noncomputable abbrev LH (a b o i : Nat) (f : Nm) (m : Int) (x y z : Option AV) : Locs := [some (.loc a), some (.loc b), some (.loc o), some (.loc i), some (.str f), some (.int m), x, y, z]
theorem ev_lens (K : Hold h a b T ns hl) (hF : 50000 <= F) {l : Locs} (h7 : locAt l 7 = some (.loc (h.length + 2))) (q0 : ∀ v, locAt (inner l 1 9 v) 0 = some (.loc a)) (q2 : ∀ v, locAt (inner l 1 9 v) 9 = some v) :
    evalX (cF p n F) (.comp (.bi .len (.cons (.loc 9) .nil)) 1 9 (.loc 7) (.cons (.cmp .notin (.sub (.loc 9) (.neg (.int 1))) (.loc 0)) .nil)) l (waysH h T hl nm) = .ok (.loc (h.length + 3)) (waysH h T hl nm ++ [.list ((lens T hl nm).map .int)]) := by
  refine xE K.dict fun ep hd => ?_
  have hd1 : (waysH h T hl nm)[a]? = _ := get_old hd
  have hlen := K.len
  have e2 := comp_filter (h := waysH h T hl nm) (κ := Int) (g := fun r => .loc (if r = 0 then h.length else h.length + 1)) (f := fun r => .int ((wayAt T hl nm r).length : Int)) (P := fun r => openW hl (wayAt T hl nm r)) (xs := [0, 1]) (src := .loc (h.length + 2))
    (body := fun u h' => (evalConds (cF p n F) (.cons (.cmp .notin (.sub (.loc 9) (.neg (.int 1))) (.loc 0)) .nil) (inner l 1 9 u) h').bind fun z' h' => ifB z' h' (evalX (cF p n F) (.bi .len (.cons (.loc 9) .nil)) (inner l 1 9 u) h'))
    (fun k => next_list tri2) (fun r hr => by
      have W := wayOf_way (hm := T.hm) hl (T.hm nm r)
      have hws := W.short
      refine xE W.last fun sl hsl => ?_
      have hg : (waysH h T hl nm)[if r = 0 then h.length else h.length + 1]? = some (wayO T hl nm r) := by
        rcases List.mem_cons.mp hr with rfl | hr
        . exact tri0
        . rcases List.mem_singleton.mp hr with rfl; exact tri1
      have ho : openW hl (wayAt T hl nm r) = !(hl.lookup sl).isSome := by unfold openW; rw [hsl, Option.not_isSome]
      have el : evalX (cF p n F) (.loc 9) (inner l 1 9 (.loc (if r = 0 then h.length else h.length + 1))) (waysH h T hl nm) = .ok (.loc (if r = 0 then h.length else h.length + 1)) (waysH h T hl nm) := by rw [x_loc, q2]; rfl
      have ec : evalX (cF p n F) (.cmp .notin (.sub (.loc 9) (.neg (.int 1))) (.loc 0)) (inner l 1 9 (.loc (if r = 0 then h.length else h.length + 1))) (waysH h T hl nm) = .ok (.bool (openW hl (wayAt T hl nm r))) (waysH h T hl nm) :=
        ev_cmp (ev_sub el rfl (last_sub (by lia) hg hsl)) (by rw [x_loc, q0]; rfl) (by rw [st_notin hd1, ho])
      have en : evalX (cF p n F) (.bi .len (.cons (.loc 9) .nil)) (inner l 1 9 (.loc (if r = 0 then h.length else h.length + 1))) (waysH h T hl nm) = _ := ev_bi rfl (ev_one el) (len_seats hg)
      show Res.bind (Res.bind (evalX (cF p n F) (.cmp .notin (.sub (.loc 9) (.neg (.int 1))) (.loc 0)) _ _) _) _ = _
      rw [ec, bok]
      rcases openW hl (wayAt T hl nm r) with _ | _
      . rfl
      . show Res.bind (evalX (cF p n F) (.bi .len (.cons (.loc 9) .nil)) _ _) _ = _
        rw [en]; rfl) (by show 2 <= 1000; decide) hF
  have hle : ((lens T hl nm).map AV.int).length <= 1000 := by
    unfold lens
    rw [List.length_map, List.length_map]
    exact Nat.le_trans (List.length_filter_le ..) (by show 2 <= 1000; decide)
  have em : (([0, 1].filter fun r => openW hl (wayAt T hl nm r)).map fun r => AV.int ((wayAt T hl nm r).length : Int)) = (lens T hl nm).map .int := by unfold lens; rw [List.map_map]; rfl
  rw [em] at e2
  rw [ev_comp rfl (by rw [x_loc, h7]; rfl) e2 hle, List.length_append]
  rfl
theorem hard_turn (H : HasE p) (K : Hold h a b T ns hl) (hn : nm ∈ ns) (hi : h[i]? = some (.list ((hl.map (·.2)).map .str))) (hF : 50000 <= F) {f : Nm} {m : Int} {y z : Option AV} :
    ∃ g f' m' y' z', execSs (cF p (n + 2) F) b__law_hardest_1 (LH a b o i f m (some (.str nm)) y z) h = .ok .next (LH a b o i f' m' (some (.str nm)) y' z') (h ++ g) /\ (f' = f \/ f' = nm) := by
  have e1 : execS (cF p (n + 2) F) hd1 (LH a b o i f m (some (.str nm)) y z) h = .ok .next (LH a b o i f m (some (.str nm)) (some (.loc (h.length + 2))) z) (waysH h T hl nm) := st_asg (ev_ways H K (fun _ => rfl) (fun _ => rfl) (fun _ => rfl) (ev_sub rfl rfl (K.homes.get hn)) hF)
  have e2 : execS (cF p (n + 2) F) hd2 (LH a b o i f m (some (.str nm)) (some (.loc (h.length + 2))) z) (waysH h T hl nm) = .ok .next (LH a b o i f m (some (.str nm)) (some (.loc (h.length + 2))) (some (.loc (h.length + 3)))) (waysH h T hl nm ++ [.list ((lens T hl nm).map .int)]) := st_asg (ev_lens K hF rfl (fun _ => rfl) (fun _ => rfl))
  have hg : (waysH h T hl nm ++ [.list ((lens T hl nm).map .int)])[h.length + 3]? = some (.list ((lens T hl nm).map .int)) := by
    have := get_new (h := waysH h T hl nm) (o := .list ((lens T hl nm).map .int))
    rwa [List.length_append] at this
  have hi1 : (waysH h T hl nm ++ [.list ((lens T hl nm).map .int)])[i]? = _ := get_old (get_old hi)
  have hH : ∃ g, waysH h T hl nm ++ [.list ((lens T hl nm).map .int)] = h ++ g := ⟨_, List.append_assoc ..⟩
  generalize waysH h T hl nm ++ [.list ((lens T hl nm).map .int)] = H1 at *
  obtain ⟨g, rfl⟩ := hH
  have c1 : evalX (cF p (n + 2) F) (.cmp .notin (.loc 6) (.loc 3)) (LH a b o i f m (some (.str nm)) (some (.loc (h.length + 2))) (some (.loc (h.length + 3)))) (h ++ g) = .ok (.bool (!decide (nm ∈ hl.map (·.2)))) (h ++ g) := ev_cmp rfl rfl (notin_strs hi1)
  have c2 : evalX (cF p (n + 2) F) (.cmp .ne (.loc 8) (.list .nil)) (LH a b o i f m (some (.str nm)) (some (.loc (h.length + 2))) (some (.loc (h.length + 3)))) (h ++ g) = .ok (.bool (!decide (lens T hl nm = []))) (h ++ g ++ [.list []]) :=
    ev_cmp rfl (ev_list rfl (by show 0 <= 1000; decide)) (ne_of_eqv (eq_lists (κ := Int) (g := AV.int) (ys := []) (get_old hg) get_new fun _ _ => rfl))
  rcases hb1 : !decide (nm ∈ hl.map (·.2)) with _ | _ <;> rw [hb1] at c1
  . exact ⟨g, f, m, _, _, (ss_step e1).trans ((ss_step e2).trans (ss_last (st_f (ev_and_f c1) rfl))), .inl rfl⟩
  by_cases hb2 : lens T hl nm = []
  . rw [decide_eq_true hb2] at c2
    refine ⟨g ++ [.list []], f, m, some (.loc (h.length + 2)), some (.loc (h.length + 3)), ?_, .inl rfl⟩
    rw [<- List.append_assoc]
    exact (ss_step e1).trans ((ss_step e2).trans (ss_last (st_f (ev_and_t c1 (ev_and_f c2)) rfl)))
  . rw [decide_eq_false hb2] at c2
    refine xE (min_lens hb2) fun v hv => ?_
    have em : biAV .min [.loc (h.length + 3)] (h ++ g ++ [.list []]) = .ok (.int v) (h ++ g ++ [.list []]) := by
      show okO ((listAt _ _).bind minL) _ = _
      rw [listAt_of (get_old hg), Option.bind_some, hv]; rfl
    have c3 : evalX (cF p (n + 2) F) (.cmp .gt (.bi .min (.cons (.loc 8) .nil)) (.loc 5)) (LH a b o i f m (some (.str nm)) (some (.loc (h.length + 2))) (some (.loc (h.length + 3)))) (h ++ g ++ [.list []]) = .ok (.bool (decide (m < v))) (h ++ g ++ [.list []]) := ev_cmp (ev_bi rfl (ev_one rfl) em) rfl c_gt
    rcases hb3 : decide (m < v) with _ | _ <;> rw [hb3] at c3
    . refine ⟨g ++ [.list []], f, m, some (.loc (h.length + 2)), some (.loc (h.length + 3)), ?_, .inl rfl⟩
      rw [<- List.append_assoc]
      exact (ss_step e1).trans ((ss_step e2).trans (ss_last (st_f (ev_and_t c1 (ev_and_t c2 c3)) rfl)))
    . refine ⟨g ++ [.list []], nm, v, some (.loc (h.length + 2)), some (.loc (h.length + 3)), ?_, .inr rfl⟩
      rw [<- List.append_assoc]
      exact (ss_step e1).trans ((ss_step e2).trans (ss_last (st_t (ev_and_t c1 (ev_and_t c2 c3)) ((ss_step (st_asg rfl)).trans (ss_last (st_asg (ev_bi rfl (ev_one rfl) em)))))))
inductive HdInv (h : AHeap) (a b o i : Nat) (ns : List Nm) : Nat -> Locs -> AHeap -> Prop
  | mk (k : Nat) (g : AHeap) (f : Nm) (hf : f ∈ ns) (m : Int) (x y z : Option AV) : HdInv h a b o i ns k (LH a b o i f m x y z) (h ++ g)
inductive Hard (h : AHeap) (ns : List Nm) : Res AV -> Prop
  | mk (g : AHeap) (f : Nm) (hf : f ∈ ns) : Hard h ns (.ok (.str f) (h ++ g))
theorem run_hardest (H : HasS p) (K : Hold h a b T ns hl) (ho : h[o]? = some (.list (ns.map .str))) (hnl : ns.length <= 100) (h0 : ns[0]? = some nm) : Hard h ns (semF p (n + 3) false "_law_hardest" [.loc a, .loc b, .loc o] h) := by
  refine xEA (run_in (n := n + 2) (h := h) H.hard (as := [.loc a, .loc b, .loc o]) [some (.loc a), some (.loc b), some (.loc o), none, none, none, none, none, none] rfl rfl) fun F hF e1 => ?_
  have e2 := names_held (j := 9) (c := cF p (n + 2) F) (l := [some (.loc a), some (.loc b), some (.loc o), none, none, none, none, none, none]) rfl hF K rfl (fun _ => rfl) (fun _ => rfl)
  have K1 := K.more (g := [.list ((keysOf hl).map sv), .list ((hl.map (·.2)).map .str)])
  have hi : (h ++ [.list ((keysOf hl).map sv), .list ((hl.map (·.2)).map .str)])[h.length + 1]? = _ := tail1
  have ho1 : (h ++ [.list ((keysOf hl).map sv), .list ((hl.map (·.2)).map .str)])[o]? = _ := get_old ho
  generalize hg : [AObj.list ((keysOf hl).map sv), .list ((hl.map (·.2)).map .str)] = g at *
  have hsub : subAV (.loc o) (.int 0) (h ++ g) = .ok (.str nm) (h ++ g) := sub_list (lim_le (by rw [List.length_map]; lia)) ho1 (by decide) (by rw [List.getElem?_map, show ns[(0 : Int).toNat]? = some nm from h0]; rfl)
  have e3 := forLoop_all (i := 6) (src := .loc o) (items := ns.map AV.str) (body := fun l h => execSs (cF p (n + 2) F) b__law_hardest_1 l h) (HdInv (h ++ g) a b o (h.length + 1) ns)
    (fun k l h' I => by cases I; exact next_list (get_old ho1)) (fun k v l h' hv I => by
      cases I with
      | mk g' f hf m x y z =>
      rw [List.getElem?_map] at hv
      refine xEA (Option.map_eq_some_iff.mp hv) fun nm' hnm qq1 => ?_; subst qq1
      have hin := List.mem_of_getElem? hnm
      obtain ⟨g2, f', m', y', z', e, hf'⟩ := hard_turn (n := n) (o := o) (f := f) (m := m) (y := y) (z := z) H.toHasE (K1.more (g := g')) hin (get_old hi) hF
      rw [List.append_assoc (h ++ g) g' g2] at e
      exact ⟨_, _, e, .mk _ _ f' (hf'.elim (fun q => q ▸ hf) fun q => q ▸ hin) _ _ _ _⟩) (f := F) (l := LH a b o (h.length + 1) nm 0 none none none) (h := h ++ g) (by rw [List.length_map]; lia) (by
        have := HdInv.mk (h := h ++ g) (a := a) (b := b) (o := o) (i := h.length + 1) (ns := ns) 0 [] nm (List.mem_of_getElem? h0) 0 none none none
        rwa [List.append_nil] at this)
  refine xEEA e3 fun l' h' e4 I => ?_
  generalize (ns.map AV.str).length = k at I
  cases I with
  | mk g' f hf m x y z =>
  have : semF p (n + 3) false "_law_hardest" [.loc a, .loc b, .loc o] h = .ok (.str f) (h ++ (g ++ g')) := by
    rw [e1, <- List.append_assoc]
    exact fin_ret ((ss_step (st_asg e2)).trans ((ss_step (st_asg (ev_sub rfl rfl hsub))).trans ((ss_step (st_asg rfl)).trans ((ss_step (st_for rfl rfl e4)).trans (ss_last (st_ret rfl))))))
  rw [this]
  exact .mk _ f hf
end
end
section
open PySem Cu
noncomputable def ly1 : S := (.asg 9 (.call "_law_mixed" (.cons (.loc 8) (.cons (.bi .len (.cons (.loc 5) .nil)) .nil))))
noncomputable def ly2 : S := (.asg 10 (.sub (.loc 2) (.bin .mod (.loc 9) (.int 30))))
noncomputable def ly3 : S := (.iff (.cmp .eq (.bin .mod (.bin .div (.loc 9) (.int 90)) (.int 2)) (.int 0))
    (.cons (.asg 10 (.call "_law_hardest" (.cons (.loc 5) (.cons (.loc 3) (.cons (.loc 2) .nil)))))
    .nil)
    .nil)
noncomputable def ly4 : S := (.asg 11 (.comp (.loc 12) 1 12 (.bi .list (.cons (.loc 5) .nil)) (.cons (.cmp .eq (.sub (.loc 5) (.loc 12)) (.loc 10)) .nil)))
noncomputable def lyA : Ss := (.cons (.expr (.im "take_out" (.loc 4) (.cons (.loc 10) .nil)))
    (.cons (.expr (.bm .pop (.loc 5) (.cons (.sub (.loc 11) (.int 0)) .nil)))
    .nil))
noncomputable def lyB : Ss := (.cons (.asg 5 (.call "_law_put_one" (.cons (.loc 4) (.cons (.loc 5) (.cons (.loc 3) (.cons (.loc 10) .nil))))))
      (.cons (.iff (.isn true (.loc 5))
        (.cons (.ret (.bool false))
        .nil)
        .nil)
      .nil))
noncomputable def ly5 : S := (.iff (.and (.cmp .ne (.loc 11) (.list .nil)) (.cmp .gt (.bin .mod (.bin .div (.loc 9) (.int 30)) (.int 3)) (.int 0)))
    lyA
    (.cons (.iff (.cmp .eq (.loc 11) (.list .nil))
      lyB
      .nil)
    .nil))
noncomputable def ly6 : S := (.iff (.not (.call "_law_stands" (.cons (.loc 4) (.cons (.loc 5) .nil))))
    (.cons (.ret (.bool false))
    .nil)
    .nil)
noncomputable def b_law_1 : Ss := (.cons ly1 (.cons ly2 (.cons ly3 (.cons ly4 (.cons ly5 (.cons ly6 .nil))))))
noncomputable def told (T : Tb) : AV := .tup [.int T.c, .int T.f, .int T.s]
noncomputable abbrev LL (xs : List Int) (T : Tb) (a : Nat) (v6 v7 v8 v9 v10 v11 : Option AV) : Locs := [some (.scr xs), some (told T), some (.loc 2), some (.loc 3), some (.loc 5), some (.loc a), v6, v7, v8, v9, v10, v11]
structure K8 (h : AHeap) (T : Tb) (ns : List Nm) (st : St') (th : Th) (hl : St') (a : Nat) : Prop where
  S : Sit h 5 6 7 T st th
  K : Hold h a 3 T ns hl
  L : Like st hl
  hn : h[2]? = some (.list (ns.map .str))
  a8 : 8 <= a
  nl : ns.length = 30
structure HasM (p : Prog) : Prop extends HasS p where
  mixed : Prog.has p "_law_mixed" d__law_mixed
section
variable {p : Prog} {n : Nat} {h h' : AHeap} {a : Nat} {T : Tb} {ns : List Nm} {st hl : St'} {th : Th} {nm : Nm} {F : Nat} {xs : List Int} {v6 v7 v8 v9 v10 v11 : Option AV}
theorem K8.more {g : AHeap} (k : K8 h T ns st th hl a) : K8 (h ++ g) T ns st th hl a := ⟨k.S.more, k.K.more, k.L, get_old k.hn, k.a8, k.nl⟩
theorem K8.few (k : K8 h T ns st th hl a) : st.length <= 30 := by
  have nd : (st.map (·.2)).Nodup := k.S.ord.names.nodup_iff.mpr k.S.ord.ndt
  have := Cu.card_le nd (l' := ns) fun m hm => by
    refine xEA (List.mem_map.mp hm) fun q hq qq => ?_; subst qq
    exact (k.K.held.all q.1 q.2 ((k.L.eq _).symm.trans (lookup_of_mem k.S.ord.nd hq))).1
  rw [List.length_map, k.nl] at this
  exact this
theorem K8.ans (k : K8 h T ns st th hl a) : a ∉ [6, 7] /\ 3 ∉ [6, 7] /\ 2 ∉ [6, 7] := by
  have := k.a8
  refine ⟨fun q => ?_, by decide, by decide⟩
  rcases List.mem_cons.mp q with q | q
  . lia
  . have := List.mem_singleton.mp q; lia
theorem nat_mod (x : Int) {k : Nat} (hk : 0 < k) : ∃ i : Nat, x.fmod (k : Int) = i /\ i < k := by
  refine xEA (pos_mod x (m := (k : Int)) (by lia)) fun i h1 h2 => ?_
  exact ⟨i, h1, by lia⟩
theorem name_at (hn : h[2]? = some (.list (ns.map .str))) (hnl : ns.length = 30) {i : Nat} (hi : ns[i]? = some nm) : subAV (.loc 2) (.int i) h = .ok (.str nm) h :=
  sub_list (lim_le (by rw [List.length_map]; lia)) hn (Int.natCast_nonneg i) (by rw [Int.toNat_natCast, List.getElem?_map, hi]; rfl)
theorem draw8 (H : HasM p) (k : K8 h T ns st th hl a) (hF : 50000 <= F) {c : Int} : ∃ M nm g, nm ∈ ns /\ ∀ rest, execSs (cF p (n + 10) F) (.cons ly1 (.cons ly2 (.cons ly3 rest))) (LL xs T a v6 v7 (some (.int c)) v9 v10 v11) h = execSs (cF p (n + 10) F) rest (LL xs T a v6 v7 (some (.int c)) (some (.int M)) (some (.str nm)) v11) (h ++ g) := by
  refine xE k.K.dict fun ep ha => ?_
  have el : biAV .len [.loc a] h = .ok (.int hl.length) h := by rw [len_dict ha, stK, mk_length]
  have em := run_mixed (n := n + 9) (h := h) H.mixed c hl.length
  generalize mixed c hl.length = M at em
  have s1 : execS (cF p (n + 10) F) ly1 (LL xs T a v6 v7 (some (.int c)) v9 v10 v11) h = .ok .next (LL xs T a v6 v7 (some (.int c)) (some (.int M)) v10 v11) h := st_asg (ev_call (ev_cons rfl (ev_one (ev_bi rfl (ev_one rfl) el))) em)
  refine xEA (nat_mod M (k := 30) (by decide)) fun i0 hi0 hi1 => ?_
  have hil : i0 < ns.length := by have := k.nl; lia
  have hnm : ns[i0]? = some ns[i0] := List.getElem?_eq_getElem hil
  generalize ns[i0] = nm at hnm
  have s2 : execS (cF p (n + 10) F) ly2 (LL xs T a v6 v7 (some (.int c)) (some (.int M)) v10 v11) h = .ok .next (LL xs T a v6 v7 (some (.int c)) (some (.int M)) (some (.str nm)) v11) h := by
    have ei : evalX (cF p (n + 10) F) (.bin .mod (.loc 9) (.int 30)) (LL xs T a v6 v7 (some (.int c)) (some (.int M)) v10 v11) h = .ok (.int i0) h := by rw [<- hi0]; rfl
    exact st_asg (ev_sub rfl ei (name_at k.hn k.nl hnm))
  have c3 : evalX (cF p (n + 10) F) (.cmp .eq (.bin .mod (.bin .div (.loc 9) (.int 90)) (.int 2)) (.int 0)) (LL xs T a v6 v7 (some (.int c)) (some (.int M)) (some (.str nm)) v11) h = .ok (.bool (decide ((M.fdiv 90).fmod 2 = 0))) h := rfl
  rcases hb : decide ((M.fdiv 90).fmod 2 = 0) with _ | _ <;> rw [hb] at c3
  . refine ⟨M, nm, [], List.mem_of_getElem? hnm, fun rest => ?_⟩
    rw [List.append_nil]
    exact (ss_step s1).trans ((ss_step s2).trans (ss_step (st_f c3 rfl)))
  . have hnl := k.nl
    have q := run_hardest (n := n + 7) H.toHasS k.K k.hn (by lia) (List.getElem?_eq_getElem (show 0 < ns.length by lia))
    generalize hr : semF p (n + 10) false "_law_hardest" [.loc a, .loc 3, .loc 2] h = r at q
    rcases q with ⟨g, f, hf⟩
    exact ⟨M, f, g, hf, fun rest => (ss_step s1).trans ((ss_step s2).trans (ss_step (st_t c3 (ss_last (st_asg (ev_call rfl hr))))))⟩
noncomputable def hereF (hl : St') (nm : Nm) : St' := hl.filter fun q => decide (q.2 = nm)
theorem here_none (k : K8 h T ns st th hl a) (hn : th.lookup nm = none) : (hereF hl nm).map (·.1) = [] := by
  unfold hereF
  rw [List.filter_eq_nil_iff.mpr]
  . rfl
  intro q hq hd
  have hl1 := lookup_of_mem k.K.held.nd (a := q.1) (b := q.2) hq
  rw [of_decide_eq_true hd, <- k.L.eq] at hl1
  have := (k.S.ord.there nm).mp ⟨_, hl1⟩
  rw [hn] at this; exact nomatch this
theorem here_some (k : K8 h T ns st th hl a) (hn : (th.lookup nm).isSome = true) : ∃ r, (hereF hl nm).map (·.1) = whereOf T st nm :: r := by
  have hw := k.S.ord.stands hn
  rcases hf : hereF hl nm with _ | ⟨q, r⟩
  . have hm := lookup_mem ((k.L.eq _).symm.trans hw)
    have := List.filter_eq_nil_iff.mp hf _ hm
    exact absurd (decide_eq_true rfl) this
  . have hq : q ∈ hereF hl nm := by rw [hf]; exact List.mem_cons_self
    refine xA (List.mem_filter.mp hq) fun h1 h2 => ?_
    have h2 : q.2 = nm := of_decide_eq_true h2
    have hl1 := lookup_of_mem k.K.held.nd (a := q.1) (b := q.2) h1
    rw [h2, <- k.L.eq] at hl1
    exact ⟨r.map (·.1), by rw [List.map_cons, k.S.ord.once _ _ _ hl1 hw]⟩
theorem ev_here (k : K8 h T ns st th hl a) (hF : 50000 <= F) : execS (cF p n F) ly4 (LL xs T a v6 v7 v8 v9 (some (.str nm)) v11) h = .ok .next (LL xs T a v6 v7 v8 v9 (some (.str nm)) (some (.loc (h.length + 1)))) (h ++ [.list ((keysOf hl).map sv), .list (((hereF hl nm).map (·.1)).map sv)]) := by
  refine xE k.K.dict fun ep hd => ?_
  have hlen := k.K.len
  have e4 := comp_filter (h := h ++ [.list ((keysOf hl).map sv)]) (κ := Seat × Nm) (g := fun q => sv q.1) (f := fun q => sv q.1) (P := fun q => decide (q.2 = nm)) (xs := hl) (src := .loc h.length)
    (body := fun u h' => (evalConds (cF p n F) (.cons (.cmp .eq (.sub (.loc 5) (.loc 12)) (.loc 10)) .nil) (inner (LL xs T a v6 v7 v8 v9 (some (.str nm)) v11) 1 12 u) h').bind fun z' h' => ifB z' h' (evalX (cF p n F) (.loc 12) (inner (LL xs T a v6 v7 v8 v9 (some (.str nm)) v11) 1 12 u) h'))
    (fun k => by rw [next_list get_new, keysOf, List.map_map]; rfl) (fun q hq => by
      have hl1 := lookup_of_mem k.K.held.nd (a := q.1) (b := q.2) hq
      have ec : evalX (cF p n F) (.cmp .eq (.sub (.loc 5) (.loc 12)) (.loc 10)) (inner (LL xs T a v6 v7 v8 v9 (some (.str nm)) v11) 1 12 (sv q.1)) (h ++ [.list ((keysOf hl).map sv)]) = .ok (.bool (decide (q.2 = nm))) (h ++ [.list ((keysOf hl).map sv)]) := ev_cmp (ev_sub rfl rfl (st_get (get_old hd) hl1)) rfl c_eqs
      show Res.bind (Res.bind (evalX _ (.cmp .eq (.sub (.loc 5) (.loc 12)) (.loc 10)) _ _) _) _ = _
      rw [ec, bok]
      rcases decide (q.2 = nm) with _ | _ <;> rfl) (by lia) hF
  have em : (hl.filter fun q => decide (q.2 = nm)).map (fun q => sv q.1) = ((hereF hl nm).map (·.1)).map sv := by rw [List.map_map]; rfl
  rw [em] at e4
  have e5 := ev_comp rfl (ev_keys (c := cF p n F) (l := LL xs T a v6 v7 v8 v9 (some (.str nm)) v11) (i := 5) rfl k.K rfl) e4 (by rw [List.length_map, List.length_map]; exact Nat.le_trans (List.length_filter_le ..) (by lia))
  rw [List.append_assoc, List.length_append] at e5
  exact st_asg e5
inductive Deed (h : AHeap) (xs : List Int) (T : Tb) (ns : List Nm) (a : Nat) (v6 v7 v8 v9 v10 v11 : Option AV) : SR -> Prop
  | mk (h' : AHeap) (st : St') (th : Th) (hl : St') (a' : Nat) (k : K8 h' T ns st th hl a') (kp : Kp [6, 7, a] h h') : Deed h xs T ns a v6 v7 v8 v9 v10 v11 (.ok .next (LL xs T a' v6 v7 v8 v9 v10 v11) h')
theorem Kp.two (k : Kp [6, 7] h h') : Kp [6, 7, a] h h' := k.wide fun x hx => by
  rcases List.mem_cons.mp hx with q | q
  . rw [q]; exact .head _
  . rw [List.mem_singleton.mp q]; exact .tail _ (.head _)
theorem deed8 (H : HasM p) (k : K8 h T ns st th hl a) (hn : nm ∈ ns) {M : Int} {i : Nat} (hi : h[i]? = some (.list (((hereF hl nm).map (·.1)).map sv))) (hF : 50000 <= F) :
    Deed h xs T ns a v6 v7 v8 (some (.int M)) (some (.str nm)) (some (.loc i)) (execS (cF p (n + 10) F) ly5 (LL xs T a v6 v7 v8 (some (.int M)) (some (.str nm)) (some (.loc i))) h) := by
  have hfew := k.few
  have hll := k.L.len
  refine xAA k.ans fun a67 b67 c67 => ?_
  have eqn : ∀ {h : AHeap} (hi : h[i]? = some (.list (((hereF hl nm).map (·.1)).map sv))), eqv (h ++ [.list []]) eqFuel (.loc i) (.loc h.length) = some (decide ((hereF hl nm).map (·.1) = [])) := fun hi => eq_lists (κ := Seat) (g := sv) (ys := []) (get_old hi) get_new fun a b => eqv_pair' (n := 3) a b
  have c1 : evalX (cF p (n + 10) F) (.cmp .ne (.loc 11) (.list .nil)) (LL xs T a v6 v7 v8 (some (.int M)) (some (.str nm)) (some (.loc i))) h = .ok (.bool (!decide ((hereF hl nm).map (·.1) = []))) (h ++ [.list []]) := ev_cmp rfl (ev_list rfl (by show 0 <= 1000; decide)) (ne_of_eqv (eqn hi))
  have c2 : ∀ {h : AHeap} (hi : h[i]? = some (.list (((hereF hl nm).map (·.1)).map sv))), evalX (cF p (n + 10) F) (.cmp .eq (.loc 11) (.list .nil)) (LL xs T a v6 v7 v8 (some (.int M)) (some (.str nm)) (some (.loc i))) h = .ok (.bool (decide ((hereF hl nm).map (·.1) = []))) (h ++ [.list []]) := fun hi => ev_cmp rfl (ev_list rfl (by show 0 <= 1000; decide)) (eqn hi)
  have hi1 : (h ++ [.list []])[i]? = _ := get_old hi
  have k1 := k.more (g := [.list []])
  have kp1 : Kp [6, 7, a] h (h ++ [.list []]) := Kp.app
  generalize h ++ [.list []] = h1 at *
  rcases hth : th.lookup nm with _ | v
  . have e0 := here_none k hth
    rw [decide_eq_true e0] at c1
    have c2 := c2 hi1
    rw [decide_eq_true e0] at c2
    have k2 := k1.more (g := [.list []])
    have kp2 : Kp [6, 7, a] h1 (h1 ++ [.list []]) := Kp.app
    generalize h1 ++ [.list []] = h2 at *
    have q := run_put_one (n := n + 1) H.toHasQ k2.S k2.K k2.L hn hth (by lia) a67 b67
    generalize hr : semF p (n + 10) false "_law_put_one" [.loc 5, .loc a, .loc 3, .str nm] h2 = r at q
    rcases q with ⟨g⟩ | ⟨h3, st', hl', j, S, K, L, kp, hj⟩
    . rw [show execS (cF p (n + 10) F) ly5 (LL xs T a v6 v7 v8 (some (.int M)) (some (.str nm)) (some (.loc i))) h = .ok .next (LL xs T a v6 v7 v8 (some (.int M)) (some (.str nm)) (some (.loc i))) (h2 ++ g) from
        st_f (ev_and_f c1) (ss_last (st_t c2 ((ss_step (st_asg (ev_call rfl hr))).trans (ss_last (st_f rfl rfl)))))]
      exact .mk _ _ _ _ _ k2.more ((kp1.trans kp2).trans Kp.app)
    . rw [show execS (cF p (n + 10) F) ly5 (LL xs T a v6 v7 v8 (some (.int M)) (some (.str nm)) (some (.loc i))) h = .ok .next (LL xs T j v6 v7 v8 (some (.int M)) (some (.str nm)) (some (.loc i))) h3 from
        st_f (ev_and_f c1) (ss_last (st_t c2 ((ss_step (st_asg (ev_call rfl hr))).trans (ss_last (st_f rfl rfl)))))]
      have := get_lt k2.K.dict.choose_spec
      exact .mk _ _ _ _ _ ⟨S, K, L, kp.old _ _ c67 k2.hn, by have := k.a8; lia, k.nl⟩ ((kp1.trans kp2).trans kp.two)
  . have hs : (th.lookup nm).isSome = true := by rw [hth]; rfl
    refine xE (here_some k hs) fun r hr => ?_
    have hne : (hereF hl nm).map (·.1) ≠ [] := by rw [hr]; exact fun q => nomatch q
    rw [decide_eq_false hne] at c1
    have c3 : evalX (cF p (n + 10) F) (.cmp .gt (.bin .mod (.bin .div (.loc 9) (.int 30)) (.int 3)) (.int 0)) (LL xs T a v6 v7 v8 (some (.int M)) (some (.str nm)) (some (.loc i))) h1 = .ok (.bool (decide (0 < (M.fdiv 30).fmod 3))) h1 := rfl
    rcases hb : decide (0 < (M.fdiv 30).fmod 3) with _ | _ <;> rw [hb] at c3
    . have c2 := c2 hi1
      rw [decide_eq_false hne] at c2
      rw [show execS (cF p (n + 10) F) ly5 (LL xs T a v6 v7 v8 (some (.int M)) (some (.str nm)) (some (.loc i))) h = .ok .next (LL xs T a v6 v7 v8 (some (.int M)) (some (.str nm)) (some (.loc i))) (h1 ++ [.list []]) from
        st_f (ev_and_t c1 c3) (ss_last (st_f c2 rfl))]
      exact .mk _ _ _ _ _ k1.more (kp1.trans Kp.app)
    . have G := k.K.good nm hn
      refine xEAA (run_take_out (n := n + 5) H.toHasP k1.S G hth) fun h2 et kp2 S2 => ?_
      have hw : hl.lookup (whereOf T st nm) = some nm := (k.L.eq _).symm.trans (k.S.ord.stands hs)
      refine xE (k1.K.kp kp2 a67 b67).dict fun epa ha => ?_
      have hi2 := kp2.old i _ (fun q => by
        rcases List.mem_cons.mp q with q | q
        . rw [q, k1.S.fd.choose_spec] at hi1; exact nomatch hi1
        . rw [List.mem_singleton.mp q, k1.S.fe.choose_spec] at hi1; exact nomatch hi1) hi1
      have pp := st_pop ha hw
      have es : subAV (.loc i) (.int 0) h2 = .ok (sv (whereOf T st nm)) h2 := by
        rw [hr] at hi2
        refine sub_list (lim_le ?_) hi2 (by decide) rfl
        rw [List.length_map, <- hr, List.length_map]
        exact Nat.le_trans (List.length_filter_le ..) (by lia)
      rw [show execS (cF p (n + 10) F) ly5 (LL xs T a v6 v7 v8 (some (.int M)) (some (.str nm)) (some (.loc i))) h = .ok .next (LL xs T a v6 v7 v8 (some (.int M)) (some (.str nm)) (some (.loc i))) (h2.set a (.dict (stK (drop hl (whereOf T st nm))) (epa + 1))) from
        st_t (ev_and_t c1 c3) ((ss_step (st_expr (ev_im rfl (k1.S.tab.meth rfl) rfl et))).trans (ss_last (st_expr (ev_bm rfl (bmOk_pop ha) (ev_one (ev_sub rfl rfl es)) pp))))]
      have a8 := k.a8
      have kpa : Kp [a] h2 (h2.set a (.dict (stK (drop hl (whereOf T st nm))) (epa + 1))) := Kp.set (List.mem_singleton.mpr rfl)
      have na : ∀ {j : Nat}, j < 8 -> j ∉ [a] := fun hj q => by have := List.mem_singleton.mp q; lia
      have K2 := k1.K.kp kp2 a67 b67
      refine .mk _ _ _ (drop hl (whereOf T st nm)) _ ⟨S2.kp kpa (fun j hj => by rw [List.mem_singleton.mp hj]; exact ⟨_, ha, rfl⟩) (na (by decide)) (na (by decide)), ⟨K2.ok, K2.good, ⟨_, get_set ha⟩, xEEA K2.homes fun kvs ep q1 q2 => ⟨kvs, ep, kpa.old _ _ (na (by decide)) q1, q2⟩, ⟨drop_nodup K2.held.nd, fun s m q => ?_⟩, Nat.le_trans (List.length_filter_le ..) K2.len⟩, ⟨fun s => by rw [drop_lookup, drop_lookup, k.L.eq], drop_nodup k.L.nd, drop_nodup k.L.nd'⟩, kpa.old _ _ (na (by decide)) (kp2.old _ _ c67 k1.hn), a8, k.nl⟩ ((kp1.trans kp2.two).trans (kpa.wide fun x hx => by rw [List.mem_singleton.mp hx]; exact .tail _ (.tail _ (.head _))))
      rw [drop_lookup] at q
      by_cases e : s = whereOf T st nm
      . rw [if_pos e] at q; exact nomatch q
      . rw [if_neg e] at q; exact K2.held.all s m q
inductive Turn8 (h : AHeap) (xs : List Int) (T : Tb) (ns : List Nm) (a : Nat) (v6 v7 : Option AV) : SR -> Prop
  | mk (h' : AHeap) (st : St') (th : Th) (hl : St') (a' : Nat) (v8 v9 v10 v11 : Option AV) (k : K8 h' T ns st th hl a') (kp : Kp [6, 7, a] h h') : Turn8 h xs T ns a v6 v7 (.ok .next (LL xs T a' v6 v7 v8 v9 v10 v11) h')
theorem turn8 (H : HasM p) (k : K8 h T ns st th hl a) (hF : 50000 <= F) {c : Int} : Turn8 h xs T ns a v6 v7 (execSs (cF p (n + 10) F) b_law_1 (LL xs T a v6 v7 (some (.int c)) v9 v10 v11) h) := by
  obtain ⟨M, nm, g, hn, e1⟩ := draw8 (n := n) (xs := xs) (v6 := v6) (v7 := v7) (v9 := v9) (v10 := v10) (v11 := v11) H k hF (c := c)
  have k1 := k.more (g := g)
  have e2 := ev_here (p := p) (n := n + 10) (nm := nm) (xs := xs) (v6 := v6) (v7 := v7) (v8 := some (.int c)) (v9 := some (.int M)) (v11 := v11) k1 hF
  have hi : (h ++ g ++ [.list ((keysOf hl).map sv), .list (((hereF hl nm).map (·.1)).map sv)])[(h ++ g).length + 1]? = _ := tail1
  have k2 := k1.more (g := [.list ((keysOf hl).map sv), .list (((hereF hl nm).map (·.1)).map sv)])
  have kp2 : Kp [6, 7, a] h (h ++ g ++ [.list ((keysOf hl).map sv), .list (((hereF hl nm).map (·.1)).map sv)]) := Kp.app.trans Kp.app
  generalize h ++ g ++ [.list ((keysOf hl).map sv), .list (((hereF hl nm).map (·.1)).map sv)] = h2 at *
  have q := deed8 (n := n) (xs := xs) (v6 := v6) (v7 := v7) (v8 := some (.int c)) (M := M) H k2 hn hi hF
  generalize hr : execS (cF p (n + 10) F) ly5 _ h2 = r at q
  rcases q with ⟨h3, st', th', hl', a', k3, kp3⟩
  have es := run_stands (n := n + 5) H.toHasS k3.S k3.K k3.L
  rw [show execSs (cF p (n + 10) F) b_law_1 (LL xs T a v6 v7 (some (.int c)) v9 v10 v11) h = .ok .next (LL xs T a' v6 v7 (some (.int c)) (some (.int M)) (some (.str nm)) (some (.loc ((h ++ g).length + 1)))) (h3 ++ [.list ((keysOf hl').map sv)]) from
    (e1 _).trans ((ss_step e2).trans ((ss_step hr).trans (ss_last (st_f (ev_not (b := true) (ev_call rfl es)) rfl))))]
  exact .mk _ _ _ _ _ _ _ _ _ k3.more ((kp2.trans kp3).trans Kp.app)
end
end
section
open PySem Cu
noncomputable def cellX (k : Int) : X := (.call "_law_cell_at" (.cons (.loc 0) (.cons (.int k) .nil)))
noncomputable def lw1 : S := (.asg 1 (.call "_law_table" (.cons (.loc 0) .nil)))
noncomputable def lw2 : S := (.iff (.cmp .eq (.bin .mod (.bin .div (cellX 0) (.int 6)) (.int 3)) (.int 2))
    (.cons (.asg 1 (.tup (.cons (.bin .add (.int 5) (.bin .mod (.bin .div (cellX 0) (.int 18)) (.int 8))) (.cons (.sub (.loc 1) (.int 1)) (.cons (.sub (.loc 1) (.int 2)) .nil)))))
    .nil)
    .nil)
noncomputable def lw3 : S := (.asg 2 (.call "_law_names" (.cons (cellX 3) (.cons (.int 30) .nil))))
noncomputable def lw4 : S := (.asg 3 (.call "_law_homes" (.cons (.loc 2) (.cons (.loc 1) .nil))))
noncomputable def lw5 : S := (.asg 4 (.new (.cons (.sub (.loc 1) (.int 0)) (.cons (.sub (.loc 1) (.int 1)) (.cons (.sub (.loc 1) (.int 2)) .nil)))))
noncomputable def lw6 : S := (.asg 5 .dict0)
noncomputable def lz7 : S := (.asg 6 (.bin .mod (.bin .div (cellX 4) (.int 3)) (.int 30)))
noncomputable def lz8 : S := (.asg 7 (.sub (.sub (.loc 3) (.sub (.loc 2) (.loc 6))) (.bin .mod (.bin .div (cellX 4) (.int 90)) (.int 2))))
noncomputable def lz9 : S := (.asg 5 (.call "_law_laid" (.cons (.loc 4) (.cons (.loc 3) (.cons (.bin .add (.slice (.loc 2) (.loc 6) .none) (.slice (.loc 2) .none (.loc 6))) (.cons (.loc 7) (.cons (.bin .add (.int 1) (.bin .mod (.bin .div (cellX 4) (.int 180)) (.int 20))) .nil)))))))
noncomputable def lw7 : S := (.iff (.cmp .gt (.bin .mod (cellX 4) (.int 3)) (.int 0))
    (.cons lz7
    (.cons lz8
    (.cons lz9
    .nil)))
    .nil)
noncomputable def lw8 : S := (.forr 8 (.slice (.loc 0) (.int 5) (.bin .add (.int 5) (.call "_law_room" (.cons (.loc 0) (.cons (.int 20) (.cons (.int 98) .nil)))))) b_law_1)
noncomputable def d_law : FDef := ⟨1, 12, (.cons lw1 (.cons lw2 (.cons lw3 (.cons lw4 (.cons lw5 (.cons lw6 (.cons lw7 (.cons lw8 (.cons (.ret (.bool true)) .nil)))))))))⟩
structure HasN (p : Prog) : Prop extends HasM p where
  init : Prog.has p "__init__" d__init_
  home : Prog.has p "_law_home" d__law_home
  homes : Prog.has p "_law_homes" d__law_homes
  cell : Prog.has p "_law_cell_at" d__law_cell_at
  room : Prog.has p "_law_room" d__law_room
  lnames : Prog.has p "_law_names" d__law_names
  table : Prog.has p "_law_table" d__law_table
  law : Prog.has p "law" d_law
section
variable {p : Prog} {n : Nat} {h h' : AHeap} {a q : Nat} {T : Tb} {ns : List Nm} {st hl : St'} {th : Th} {nm : Nm} {F : Nat} {xs : List Int} {v6 v7 v8 v9 v10 v11 : Option AV}
theorem ev_slice {c : Ctx} {l : Locs} {h1 h2 h3 : AHeap} {v u w : AV} {x y z : X} {r : Res AV} (e1 : evalX c x l h = .ok v h1) (e2 : evalX c y l h1 = .ok u h2) (e3 : evalX c z l h2 = .ok w h3) (ef : sliceAV v u w h3 = r) : evalX c (.slice x y z) l h = r := by
  rw [x_slice, e1, bok, e2, bok, e3]; exact ef
theorem cut_len {κ : Type} {ys : List κ} {lo hi : Int} : (cutList ys lo hi).length <= ys.length := by
  unfold cutList
  rw [List.length_drop, List.length_take]
  exact Nat.le_trans (Nat.sub_le ..) (Nat.min_le_right ..)
theorem cut_mem {κ : Type} {ys : List κ} {lo hi : Int} {y : κ} (hy : y ∈ cutList ys lo hi) : y ∈ ys := List.mem_of_mem_take (List.mem_of_mem_drop hy)
theorem cut_map {κ μ : Type} {f : κ -> μ} {ys : List κ} {lo hi : Int} : cutList (ys.map f) lo hi = (cutList ys lo hi).map f := by
  unfold cutList
  rw [List.length_map, <- List.map_take, <- List.map_drop]
theorem cut_scr (hl : xs.length <= 63) : ∃ cells : List Int, cells.length <= 63 /\ ∀ h, sliceAV (.scr xs) (.int 5) (.int 25) h = .ok (.loc h.length) (h ++ [.list (cells.map .int)]) := by
  have hlen := cut_len (ys := xs) (lo := 5) (hi := 25)
  have hc : cutO xs (.int 5) (.int 25) = some (cutList xs 5 25) := if_pos (show xs.length <= sizeLim from lim_le (Nat.le_trans hl (by decide)))
  exact ⟨cutList xs 5 25, Nat.le_trans hlen hl, fun h => newListO_ok (o := (cutO xs (.int 5) (.int 25)).map fun ys => List.map AV.int ys) (by rw [hc]; rfl) (by rw [List.length_map]; exact lim_le (Nat.le_trans hlen (Nat.le_trans hl (by decide))))⟩
theorem cell_ev (H : HasN p) (hl : xs.length <= 63) {l : Locs} (k : Nat) (e0 : locAt l 0 = some (.scr xs)) : evalX (cF p (n + 10) F) (cellX k) l h = .ok (.int (cellAt xs k)) h :=
  ev_call (ev_cons (by rw [x_loc, e0]; rfl) rfl) (run_cell_at (n := n + 9) H.cell hl k)
theorem cut_names {i : Nat} (hi : h[i]? = some (.list (ns.map .str))) (hnl : ns.length <= 100) {lo hi' : AV} {x y : Int} (h1 : loOf lo = some x) (h2 : hiOf ns.length hi' = some y) : sliceAV (.loc i) lo hi' h = .ok (.loc h.length) (h ++ [.list ((cutList ns x y).map .str)]) := by
  refine newListO_ok (o := (listAt h i).bind fun xs => cutO xs lo hi') ?_ ?_
  . rw [listAt_of hi, Option.bind_some]
    refine (if_pos (show (ns.map AV.str).length <= sizeLim from lim_le (by rw [List.length_map]; lia))).trans ?_
    rw [h1, List.length_map, h2, <- cut_map]; rfl
  . rw [List.length_map]
    exact lim_le (Nat.le_trans cut_len (by lia))
noncomputable abbrev LP (xs : List Int) (v1 v2 v3 v4 v5 : Option AV) : Locs := [some (.scr xs), v1, v2, v3, v4, v5, none, none, none, none, none, none]
theorem law_told (H : HasN p) (hl : xs.length <= 63) (ok : T.Ok) : ∃ T' : Tb, T'.Ok /\ execS (cF p (n + 10) F) lw2 (LP xs (some (told T)) none none none none) h = .ok .next (LP xs (some (told T')) none none none none) h := by
  have c1 : evalX (cF p (n + 10) F) (.cmp .eq (.bin .mod (.bin .div (cellX 0) (.int 6)) (.int 3)) (.int 2)) (LP xs (some (told T)) none none none none) h = .ok (.bool (decide (((cellAt xs 0).fdiv 6).fmod 3 = 2))) h := ev_cmp (ev_bin (ev_bin (cell_ev H hl 0 rfl) rfl (b_div (by decide))) rfl (b_mod (by decide))) rfl c_eqi
  rcases hb : decide (((cellAt xs 0).fdiv 6).fmod 3 = 2) with _ | _ <;> rw [hb] at c1
  . exact ⟨T, ok, st_f c1 rfl⟩
  . have hm := fmod_bound ((cellAt xs 0).fdiv 18) (m := 8) (by decide)
    refine ⟨⟨5 + ((cellAt xs 0).fdiv 18).fmod 8, T.f, T.s⟩, ⟨?_, ?_, ok.f1, ok.f2, ok.s1, ok.s2⟩, st_t c1 (ss_last (st_asg (ev_tup (ev_cons (ev_bin rfl (ev_bin (ev_bin (cell_ev H hl 0 rfl) rfl (b_div (by decide))) rfl (b_mod (by decide))) b_add) (ev_cons rfl (ev_one rfl))) (by show 3 <= 1000; decide))))⟩
    . show (1 : Int) <= 5 + _; lia
    . show (5 : Int) + _ <= 1000; lia
theorem HomesAt.sub {i : Nat} {ns' : List Nm} (x : HomesAt h i T ns) (hs : ∀ m ∈ ns', m ∈ ns) : HomesAt h i T ns' := xEEAA x fun kvs ep h1 h2 h3 => ⟨kvs, ep, h1, h2, fun m hm => h3 m (hs m hm)⟩
inductive Laid8 (h : AHeap) (xs : List Int) (T : Tb) (ns : List Nm) : SR -> Prop
  | mk (h' : AHeap) (st : St') (th : Th) (hl : St') (a : Nat) (v6 v7 : Option AV) (k : K8 h' T ns st th hl a) : Laid8 h xs T ns (.ok .next (LL xs T a v6 v7 none none none none) h')
theorem law_laid (H : HasN p) (hl : xs.length <= 63) (k : K8 h T ns [] [] [] a) : Laid8 h xs T ns (execS (cF p (n + 10) F) lw7 (LL xs T a none none none none none none) h) := by
  have et : evalX (cF p (n + 10) F) (.cmp .gt (.bin .mod (cellX 4) (.int 3)) (.int 0)) (LL xs T a none none none none none none) h = .ok (.bool (decide (0 < (cellAt xs 4).fmod 3))) h := ev_cmp (ev_bin (cell_ev H hl 4 rfl) rfl (b_mod (by decide))) rfl c_gt
  rcases hb : decide (0 < (cellAt xs 4).fmod 3) with _ | _ <;> rw [hb] at et
  . rw [show execS (cF p (n + 10) F) lw7 (LL xs T a none none none none none none) h = .ok .next (LL xs T a none none none none none none) h from st_f et rfl]
    exact .mk _ _ _ _ _ _ _ k
  have hnl := k.nl
  refine xEA (nat_mod ((cellAt xs 4).fdiv 3) (k := 30) (by decide)) fun j hj hj30 => ?_
  have hnm : ns[j]? = some ns[j] := List.getElem?_eq_getElem (show j < ns.length by lia)
  generalize ns[j] = nm at hnm
  have hmem := List.mem_of_getElem? hnm
  have hr := two_mod ((cellAt xs 4).fdiv 90)
  generalize hrr : ((cellAt xs 4).fdiv 90).fmod 2 = r at hr
  refine xEA (nat_mod ((cellAt xs 4).fdiv 180) (k := 20) (by decide)) fun m hm hm20 => ?_
  have s7 : execS (cF p (n + 10) F) lz7 (LL xs T a none none none none none none) h = .ok .next (LL xs T a (some (.int j)) none none none none none) h := by
    have e : evalX (cF p (n + 10) F) (.bin .mod (.bin .div (cellX 4) (.int 3)) (.int 30)) (LL xs T a none none none none none none) h = .ok (.int j) h := (ev_bin (ev_bin (cell_ev H hl 4 rfl) rfl (b_div (by decide))) rfl (b_mod (by decide))).trans (congrArg (fun z => Res.ok (AV.int z) h) hj)
    exact st_asg e
  have s8 : execS (cF p (n + 10) F) lz8 (LL xs T a (some (.int j)) none none none none none) h = .ok .next (LL xs T a (some (.int j)) (some (sv (T.hm nm r))) none none none none) h :=
    st_asg (ev_sub (ev_sub rfl (ev_sub rfl rfl (name_at k.hn hnl hnm)) (k.K.homes.get hmem)) (ev_bin (ev_bin (cell_ev H hl 4 rfl) rfl (b_div (by decide))) rfl (b_mod (by decide))) (by rw [hrr]; exact homes_at hr))
  -- the names, turned
  have hsub : ∀ x ∈ cutList ns j ns.length ++ cutList ns 0 j, x ∈ ns := fun x hx => (List.mem_append.mp hx).elim cut_mem cut_mem
  have hlen' : (cutList ns j ns.length ++ cutList ns 0 j).length <= 60 := by
    have h1 := cut_len (ys := ns) (lo := j) (hi := ns.length)
    have h2 := cut_len (ys := ns) (lo := 0) (hi := j)
    rw [List.length_append]; lia
  have e1 := cut_names k.hn (by lia) (lo := .int j) (hi' := .none) rfl rfl
  have e2 := cut_names (h := h ++ [.list ((cutList ns j ns.length).map .str)]) (get_old k.hn) (by lia) (lo := .none) (hi' := .int j) rfl rfl
  have e3 : binAV .add (.loc h.length) (.loc (h ++ [AObj.list ((cutList ns j ns.length).map .str)]).length) (h ++ [AObj.list ((cutList ns j ns.length).map .str)] ++ [AObj.list ((cutList ns 0 j).map .str)]) = .ok (.loc (h ++ [AObj.list ((cutList ns j ns.length).map .str)] ++ [AObj.list ((cutList ns 0 j).map .str)]).length) (h ++ [AObj.list ((cutList ns j ns.length).map .str)] ++ [AObj.list ((cutList ns 0 j).map .str)] ++ [AObj.list ((cutList ns j ns.length ++ cutList ns 0 j).map .str)]) := by
    refine newListO_ok (o := catL _ _) ?_ (lim_le (by rw [List.length_map]; lia))
    rw [listAt_of (get_old get_new), listAt_of get_new, List.map_append]; rfl
  have k1 := ((k.more (g := [.list ((cutList ns j ns.length).map .str)])).more (g := [.list ((cutList ns 0 j).map .str)])).more (g := [.list ((cutList ns j ns.length ++ cutList ns 0 j).map .str)])
  have ho : (h ++ [AObj.list ((cutList ns j ns.length).map .str)] ++ [AObj.list ((cutList ns 0 j).map .str)] ++ [AObj.list ((cutList ns j ns.length ++ cutList ns 0 j).map .str)])[(h ++ [AObj.list ((cutList ns j ns.length).map .str)] ++ [AObj.list ((cutList ns 0 j).map .str)]).length]? = some (.list ((cutList ns j ns.length ++ cutList ns 0 j).map .str)) := get_new
  have ea : evalX (cF p (n + 10) F) (.bin .add (.slice (.loc 2) (.loc 6) .none) (.slice (.loc 2) .none (.loc 6))) (LL xs T a (some (.int j)) (some (sv (T.hm nm r))) none none none none) h = _ := ev_bin (ev_slice rfl rfl rfl e1) (ev_slice rfl rfl rfl e2) e3
  generalize (h ++ [AObj.list ((cutList ns j ns.length).map .str)] ++ [AObj.list ((cutList ns 0 j).map .str)]).length = o at ho ea e3
  generalize h ++ [AObj.list ((cutList ns j ns.length).map .str)] ++ [AObj.list ((cutList ns 0 j).map .str)] ++ [AObj.list ((cutList ns j ns.length ++ cutList ns 0 j).map .str)] = h1 at *
  generalize cutList ns j ns.length ++ cutList ns 0 j = ns' at *
  have q := run_laid (n := n + 5) (s := T.hm nm r) (mx := 1 + m) H.toHasZ k1.S (fun x hx => k.K.good x (hsub x hx)) (k1.K.homes.sub hsub) ho (by lia) (by lia) hr (by decide) (by decide)
  have em : evalX (cF p (n + 10) F) (.bin .add (.int 1) (.bin .mod (.bin .div (cellX 4) (.int 180)) (.int 20))) (LL xs T a (some (.int j)) (some (sv (T.hm nm r))) none none none none) h1 = .ok (.int (1 + m : Nat)) h1 := by
    have e : evalX (cF p (n + 10) F) (.bin .mod (.bin .div (cellX 4) (.int 180)) (.int 20)) (LL xs T a (some (.int j)) (some (sv (T.hm nm r))) none none none none) h1 = .ok (.int m) h1 := (ev_bin (ev_bin (cell_ev H hl 4 rfl) rfl (b_div (by decide))) rfl (b_mod (by decide))).trans (congrArg (fun z => Res.ok (AV.int z) h1) hm)
    exact ev_bin rfl e (b_add.trans (congrArg (fun z => Res.ok (AV.int z) h1) (show (1 : Int) + m = ((1 + m : Nat) : Int) by lia)))
  generalize hrl : semF p (n + 10) false "_law_laid" [.loc 5, .loc 3, .loc o, sv (T.hm nm r), .int (1 + m : Nat)] h1 = r' at q
  rcases q with ⟨h2, st, i, L, hi, hl20⟩
  have s9 : execS (cF p (n + 10) F) lz9 (LL xs T a (some (.int j)) (some (sv (T.hm nm r))) none none none none) h = .ok .next (LL xs T i (some (.int j)) (some (sv (T.hm nm r))) none none none none) h2 := st_asg (ev_call (ev_cons rfl (ev_cons rfl (ev_cons ea (ev_cons rfl (ev_one em))))) hrl)
  rw [show execS (cF p (n + 10) F) lw7 (LL xs T a none none none none none none) h = .ok .next (LL xs T i (some (.int j)) (some (sv (T.hm nm r))) none none none none) h2 from st_t et ((ss_step s7).trans ((ss_step s8).trans (ss_last s9)))]
  have h7 := get_lt k1.S.fe.choose_spec
  have n3 : ∀ {x : Nat}, x ≠ 6 -> x ≠ 7 -> x < 7 -> x ∉ [6, 7, i] := fun q1 q2 q3 q => by
    rcases List.mem_cons.mp q with q | q
    . exact q1 q
    rcases List.mem_cons.mp q with q | q
    . exact q2 q
    . have := List.mem_singleton.mp q; lia
  exact .mk _ _ _ _ _ _ _ ⟨L.S, ⟨L.K.ok, k.K.good, L.K.dict, xEEA k1.K.homes fun kvs ep q1 q2 => ⟨kvs, ep, L.kp.old _ _ (n3 (by decide) (by decide) (by decide)) q1, q2⟩, ⟨L.K.held.nd, fun s m q => ⟨hsub m (L.K.held.all s m q).1, (L.K.held.all s m q).2⟩⟩, L.K.len⟩, ⟨fun _ => rfl, L.S.ord.nd, L.S.ord.nd⟩, L.kp.old _ _ (n3 (by decide) (by decide) (by decide)) k1.hn, by lia, hnl⟩
inductive T8 (xs : List Int) (T : Tb) (ns : List Nm) (cells : List AV) (q : Nat) : Nat -> Locs -> AHeap -> Prop
  | mk (j : Nat) (h : AHeap) (st : St') (th : Th) (hl : St') (a : Nat) (v6 v7 v8 v9 v10 v11 : Option AV) (k : K8 h T ns st th hl a) (hc : h[q]? = some (.list cells)) : T8 xs T ns cells q j (LL xs T a v6 v7 v8 v9 v10 v11) h
theorem law_loop (H : HasN p) {cs : List Int} (hcs : cs.length <= 63) (k : K8 h T ns st th hl a) (hc : h[q]? = some (.list (cs.map .int))) (hF : 50000 <= F) :
    ∃ l' h', forLoop (put1 8) (fun l h => execSs (cF p (n + 10) F) b_law_1 l h) (.loc q) F 0 (LL xs T a v6 v7 none none none none) h = .ok .next l' h' :=
  xEEA (forLoop_all (i := 8) (src := .loc q) (items := cs.map .int) (body := fun l h => execSs (cF p (n + 10) F) b_law_1 l h) (T8 xs T ns (cs.map .int) q) (fun k l h hI => by cases hI with | mk _ _ _ _ _ _ _ _ _ _ _ _ hc => exact next_list hc) (fun i x l h hv hI => by
    cases hI with
    | mk _ st th hl a v6 v7 v8 v9 v10 v11 k hc =>
    rw [List.getElem?_map] at hv
    refine xEA (Option.map_eq_some_iff.mp hv) fun c _ qq1 => ?_; subst qq1
    have t := turn8 (n := n) (xs := xs) (v6 := v6) (v7 := v7) (v9 := v9) (v10 := v10) (v11 := v11) H.toHasM k hF (c := c)
    show ∃ l' h', execSs (cF p (n + 10) F) b_law_1 (LL xs T a v6 v7 (some (.int c)) v9 v10 v11) h = _ /\ _
    generalize execSs (cF p (n + 10) F) b_law_1 (LL xs T a v6 v7 (some (.int c)) v9 v10 v11) h = r at t
    rcases t with ⟨h', st', th', hl', a', w8, w9, w10, w11, k', kp⟩
    refine ⟨_, _, rfl, .mk _ _ _ _ _ _ _ _ _ _ _ _ k' (kp.old _ _ (fun z => ?_) hc)⟩
    rcases List.mem_cons.mp z with z | z
    . rw [z, k.S.fd.choose_spec] at hc; exact nomatch hc
    rcases List.mem_cons.mp z with z | z
    . rw [z, k.S.fe.choose_spec] at hc; exact nomatch hc
    . rw [List.mem_singleton.mp z, k.K.dict.choose_spec] at hc; exact nomatch hc) (f := F) (by rw [List.length_map]; lia) (.mk _ h st th hl a v6 v7 none none none none k hc)) fun l' h' e _ => ⟨l', h', e⟩
theorem new_table (H : HasN p) (ok : T.Ok) {c : Ctx} (hc : c.F = semF p (n + 2) false) {as : Xs} {l : Locs} (ea : evalXs c as l h = .ok [.int T.c, .int T.f, .int T.s] h) :
    evalX c (.new as) l h = .ok (.loc (h.length + 1)) (h ++ [.ns (nsOf T (h.length + 2) (h.length + 3)), .inst h.length, .dict [] 0, .dict [] 0]) := by
  rw [x_new, ea, bok, hc, run_init (n := n) H.c H.init ok]; rfl
theorem run_law (H : HasN p) (hl : xs.length <= 63) : ∃ h', semF p (n + 11) false "law" [.scr xs] [] = .ok (.bool true) h' := by
  refine xEA (run_in (n := n + 10) (h := []) H.law (as := [.scr xs]) (LP xs none none none none none) rfl rfl) fun F hF e => ?_
  refine xEAEE (run_law_table (n := n + 8) (h := []) H.cell H.mixed H.table hl) fun T0 ok0 a b e1 => ?_
  have s1 : execS (cF p (n + 10) F) lw1 (LP xs none none none none none) [] = .ok .next (LP xs (some (told T0)) none none none none) [a, b] := st_asg (ev_call rfl e1)
  refine xEA (law_told (n := n) (F := F) (h := [a, b]) H hl ok0) fun T ok s2 => ?_
  refine xEAA (run_law_names (n := n + 8) (h := [a, b]) H.mixed H.lnames (cellAt xs 3) (many := 30) (by decide)) fun ns hnl hng e3 => ?_
  have s3 : execS (cF p (n + 10) F) lw3 (LP xs (some (told T)) none none none none) [a, b] = .ok .next (LP xs (some (told T)) (some (.loc 2)) none none none) [a, b, .list (ns.map .str)] := st_asg (ev_call (ev_cons (cell_ev H hl 3 rfl) rfl) e3)
  refine xEEAA (run_law_homes (n := n + 8) (h := [a, b, .list (ns.map .str)]) (T := T) H.home H.homes ok (a := 2) hng (by lia) rfl) fun kvs ep e4 hk1 hk2 => ?_
  have s4 : execS (cF p (n + 10) F) lw4 (LP xs (some (told T)) (some (.loc 2)) none none none) [a, b, .list (ns.map .str)] = .ok .next (LP xs (some (told T)) (some (.loc 2)) (some (.loc 3)) none none) [a, b, .list (ns.map .str), .dict kvs ep] := st_asg (ev_call rfl e4)
  have s5 : execS (cF p (n + 10) F) lw5 (LP xs (some (told T)) (some (.loc 2)) (some (.loc 3)) none none) [a, b, .list (ns.map .str), .dict kvs ep] = .ok .next (LP xs (some (told T)) (some (.loc 2)) (some (.loc 3)) (some (.loc 5)) none) [a, b, .list (ns.map .str), .dict kvs ep, .ns (nsOf T 6 7), .inst 4, .dict [] 0, .dict [] 0] := st_asg (new_table (n := n + 8) H ok rfl rfl)
  have s6 : execS (cF p (n + 10) F) lw6 (LP xs (some (told T)) (some (.loc 2)) (some (.loc 3)) (some (.loc 5)) none) [a, b, .list (ns.map .str), .dict kvs ep, .ns (nsOf T 6 7), .inst 4, .dict [] 0, .dict [] 0] = .ok .next (LL xs T 8 none none none none none none) [a, b, .list (ns.map .str), .dict kvs ep, .ns (nsOf T 6 7), .inst 4, .dict [] 0, .dict [] 0, .dict [] 0] := rfl
  have k0 : K8 [a, b, .list (ns.map .str), .dict kvs ep, .ns (nsOf T 6 7), .inst 4, .dict [] 0, .dict [] 0, .dict [] 0] T ns [] [] [] 8 :=
    ⟨⟨ok, ⟨4, rfl, rfl⟩, ⟨0, rfl⟩, ⟨0, rfl⟩, by decide, Ord.nil, by decide⟩, ⟨ok, hng, ⟨0, rfl⟩, ⟨kvs, ep, rfl, hk1, hk2⟩, HeldT.nil, by decide⟩, Like.nil, rfl, by decide, hnl⟩
  generalize [a, b, AObj.list (ns.map .str), .dict kvs ep, .ns (nsOf T 6 7), .inst 4, .dict [] 0, .dict [] 0, .dict [] 0] = h6 at s6 k0
  have q := law_laid (n := n) (F := F) H hl k0
  generalize hr : execS (cF p (n + 10) F) lw7 (LL xs T 8 none none none none none none) h6 = r at q
  rcases q with ⟨h7, st, th, hl7, a7, v6, v7, k7⟩
  refine xEA (cut_scr hl) fun cs hcs ec => ?_
  refine xEE (law_loop (n := n) (xs := xs) (v6 := v6) (v7 := v7) H hcs (k7.more (g := [.list (cs.map .int)])) get_new hF) fun l8 h8 e8 => ?_
  have s8 : execS (cF p (n + 10) F) lw8 (LL xs T a7 v6 v7 none none none none) h7 = .ok .next l8 h8 := by
    refine st_for rfl ?_ e8
    exact ev_slice rfl rfl (ev_bin rfl (ev_call rfl (run_room (n := n + 9) H.room hl)) (r := .ok (.int 25) _) rfl) (ec _)
  rw [e]
  exact ⟨h8, fin_ret ((ss_step s1).trans ((ss_step s2).trans ((ss_step s3).trans ((ss_step s4).trans ((ss_step s5).trans ((ss_step s6).trans ((ss_step hr).trans ((ss_step s8).trans (ss_last (st_ret rfl))))))))))⟩
end
noncomputable def prog08 : Prog := [(("is_name" : Str), d_is_name), (("home" : Str), d_home), (("is_whole" : Str), d_is_whole), (("need_name" : Str), d_need_name), (("need_value" : Str), d_need_value), (("_law_cell_at" : Str), d__law_cell_at), (("_law_mixed" : Str), d__law_mixed), (("_law_room" : Str), d__law_room), (("_law_names" : Str), d__law_names), (("_law_home" : Str), d__law_home), (("_law_other" : Str), d__law_other), (("_law_way" : Str), d__law_way), (("_law_table" : Str), d__law_table), (("_law_homes" : Str), d__law_homes), (("_law_told" : Str), d__law_told), (("_law_walked" : Str), d__law_walked), (("_law_shortest" : Str), d__law_shortest), (("_law_put_one" : Str), d__law_put_one), (("_law_stands" : Str), d__law_stands), (("_law_next_name" : Str), d__law_next_name), (("_law_laid" : Str), d__law_laid), (("_law_hardest" : Str), d__law_hardest), (("law" : Str), d_law), (("__init__" : Str), d__init_), (("homes" : Str), d_homes), (("need_nest" : Str), d_need_nest), (("at" : Str), d_at), (("way" : Str), d_way), (("best_way" : Str), d_best_way), (("moves" : Str), d_moves), (("put" : Str), d_put), (("put_at" : Str), d_put_at), (("need_there" : Str), d_need_there), (("take_out" : Str), d_take_out), (("where" : Str), d_where), (("many" : Str), d_many)]
theorem hasN : HasN prog08 where
  a := rfl
  b := rfl
  c := rfl
  d := rfl
  f := rfl
  g := rfl
  i := rfl
  way := rfl
  best := rfl
  moves := rfl
  put := rfl
  putAt := rfl
  need := rfl
  take := rfl
  wher := rfl
  oth := rfl
  lway := rfl
  told := rfl
  walked := rfl
  short := rfl
  one := rfl
  next := rfl
  laid := rfl
  at' := rfl
  many := rfl
  stands := rfl
  hard := rfl
  mixed := rfl
  init := rfl
  home := rfl
  homes := rfl
  cell := rfl
  room := rfl
  lnames := rfl
  table := rfl
  law := rfl
theorem law08 {xs : List Int} (hl : xs.length <= 63) : ∃ h', semF prog08 16 false "law" [.scr xs] [] = .ok (.bool true) h' := run_law (n := 5) hasN hl
end
end Mine.Internal
open PySem PySem.W PyProof.Rows Mine.Internal
namespace Mine.Internal
section
noncomputable def ms08 : List Str := ["__init__", "homes", "need_nest", "at", "way", "best_way", "moves", "put", "put_at", "need_there", "take_out", "where", "many"]
noncomputable def as08 : List Str := ["count", "first", "second", "standing", "things"]
noncomputable def cs08 : List (Str × Const) := [("SIGNS", .str "abcdefghijklmnopqrstuvwxyz0123456789"), ("MOST_SIGNS", .int 12), ("MOST_COUNT", .int 1000), ("MOST_TIMES", .int 1000000), ("MOST_VALUE", .int 1000000000)]
noncomputable def fs08 : List Str := ["is_name", "home", "is_whole", "need_name", "need_value", "_law_cell_at", "_law_mixed", "_law_room", "_law_names", "_law_home", "_law_other", "_law_way", "_law_table", "_law_homes", "_law_told", "_law_walked", "_law_shortest", "_law_put_one", "_law_stands", "_law_next_name", "_law_laid", "_law_hardest", "law"]
noncomputable def sh08 : Sh := ⟨fs08 ++ ms08, ms08, as08, "Nests", cs08, ex08⟩
theorem attrs08 : ∀ a ∈ sh08.attrs, typeLookup (.type "object") a = pure none := by
  intro a h
  simp only [sh08, as08, List.mem_cons, List.not_mem_nil, or_false] at h
  rcases h with rfl | rfl | rfl | rfl | rfl <;> kernel_rfl
theorem meths08 : ∀ m ∈ sh08.meths, ∃ y, typeLookup (.type "object") m = pure y := by
  intro a h
  simp only [sh08, ms08, List.mem_cons, List.not_mem_nil, or_false] at h
  rcases h with rfl | rfl | rfl | rfl | rfl | rfl | rfl | rfl | rfl | rfl | rfl | rfl | rfl
  . exact ⟨some (.builtin "object.__init__"), by kernel_rfl⟩
  all_goals exact ⟨none, by kernel_rfl⟩
theorem consts08 : constsOk q08 sh08 := by
  intro x k h
  simp only [sh08, cs08, List.mem_cons, Prod.mk.injEq, List.not_mem_nil, or_false] at h
  rcases h with ⟨rfl, rfl⟩ | ⟨rfl, rfl⟩ | ⟨rfl, rfl⟩ | ⟨rfl, rfl⟩ | ⟨rfl, rfl⟩ <;> exact ⟨_, rfl, by kernel_rfl⟩
noncomputable def c08 : ClsRec := (theCls q08 sh08).getD ⟨"", none, [], [], 0, []⟩
noncomputable def XP08 (mg : Str -> Option Value) (h : Heap) : Prop := XL q08 [] mg h /\ ExcSaid ex08 al08 mg h
end
end Mine.Internal
set_option maxRecDepth 100000 in
set_option maxHeartbeats 8000000 in
theorem PySem.Challenge.cw_uf040007_08_holds : PySem.Challenge.rw_uf040007_08.Holds := by
  w_on
  refine PySem.W.holds_law (by decide +kernel) fun said => ?_
  refine holds_open (q := Mine.Internal.q08) (loose := []) (Xt := Mine.Internal.xt08) (XP := Mine.Internal.XP08) (Yf := Hook.obs Hook.none) (Ya := Hook.val Hook.none) (YP := Hook.says Hook.none) (N := 7406) Mine.Internal.left08 (Hook.of Hook.none) (Hook.keeps Hook.none) (fun s e => ⟨xl_of s (Bool.and_eq_true_iff.mp (Bool.and_eq_true_iff.mp e).1).1, Mine.Internal.excSaid_of (Bool.and_eq_true_iff.mp e).2⟩) (fun mg h h' x k => ⟨XL.keeps mg h h' x.1 k, Mine.Internal.ExcSaid.keeps mg h h' x.2 k⟩) (by rfl) (by rfl) (by rfl) (fun s e => recFacts_of (Bool.and_eq_true_iff.mp (Bool.and_eq_true_iff.mp e).1).2) (by rfl) (by first | assumption | decide +kernel) (by decide +kernel) ⟨rfl, rfl, rfl, rfl, rfl, by decide +kernel⟩ ?hw ?hc
  case hw => w_witness2
  intro w s₀ s₁ mg mb G Y fa o pm cd doc dV kV ho hd hcd hD hmg hg args vals as hpre hlay hrd hwl hlo
  have X := G.X
  refine Ground.open G ?_
  intro T B D TE TW
  clear hd hD hcd G Y
  wrow_args hpre hlay hrd hwl hlo
  rename_i xs _ _ _ _ _ _ _ a vs _ hL _ _ _ hI _ hlen _
  obtain ⟨hp, hrun⟩ := Mine.Internal.law08 (xs := xs) (by omega)
  refine Mine.Internal.law_call (sh := Mine.Internal.sh08) (c := Mine.Internal.c08) T TE rfl (by decide +kernel) rfl (by decide +kernel) (by kernel_rfl) (by decide +kernel) Mine.Internal.attrs08 Mine.Internal.meths08 Mine.Internal.consts08 (all := Mine.Internal.al08) (by decide +kernel) X.2 (pr := Mine.Internal.prog08) (by kernel_rfl) (by decide +kernel) (by decide +kernel) hmg hL hI hrun ?_
  intro s' hk ho hgen
  exact GoodW.toG ⟨.inl ⟨_, .bool true, [], rfl, raisesW_false (by wrow_none_raised), .bool true, by wrow_post, by simp⟩, hk, ho, hgen.trans hg⟩
