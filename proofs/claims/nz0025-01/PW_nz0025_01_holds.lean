import PyProof.Rows.All
import Wide.All
import OpenK.AllK
import Wide.FinOn
import KE.KSuper
import Lean
import PySem.Challenge.RW_nz0025_01
set_option Elab.async false
set_option linter.all false
set_option tactic.hygienic false
set_option genSizeOf false
set_option compiler.extract_closed false
local macro_rules | `(tactic| omega) => `(tactic| first | assumption | (refine Nat.le_trans (m := ?omk) ?omh ?omc; (case omh => assumption); exact Nat.le_of_ble_eq_true rfl) | lia | omega (config := {}))
set_option bootstrap.genMatcherCode false

open PySem PySem.Calls PyProof.Rows PySem.W
set_option maxRecDepth 100000
set_option backward.match.sparseCases false
namespace Mine
theorem ff {P : Prop} (h : false = true) : P := by cases h
theorem nn {α : Type} {x : α} {P : Prop} (h : (none : Option α) = some x) : P := by cases h

inductive PV where
  | none
  | bool (b : Bool)
  | int (i : Int)
  | str (x : Str)
  | tup (l : List PV)
  | lst (l : List PV)
  | ref (a : Addr)
  | obj (o : Obj)

abbrev Im := Addr → Obj → Prop
mutual
inductive VR (im : Im) : Value → PV → Prop
  | none : VR im .none .none
  | bool (b : Bool) : VR im (.bool b) (.bool b)
  | int (i : Int) (t : Tok) : VR im (.int i t) (.int i)
  | str (x : Str) (t : Tok) : VR im (.str x t) (.str x)
  | tup {a : Addr} {vs : List Value} {n : Nat} {l : List PV} : im a { cls := .type "tuple", data := .seq vs.toArray n } → VRs im vs l → VR im (.ref a) (.tup l)
  | lst {a : Addr} {vs : List Value} {n : Nat} {l : List PV} : im a (listOf vs.toArray n) → VRs im vs l → VR im (.ref a) (.lst l)
  | ref (a : Addr) : VR im (.ref a) (.ref a)
  | obj {a : Addr} {o : Obj} : im a o → VR im (.ref a) (.obj o)
inductive VRs (im : Im) : List Value → List PV → Prop
  | nil : VRs im [] []
  | cons {v : Value} {vs : List Value} {p : PV} {l : List PV} : VR im v p → VRs im vs l → VRs im (v :: vs) (p :: l)
end

theorem VR.mono {im im' : Im} (h : ∀ a o, im a o → im' a o) {v p} (x : VR im v p) : VR im' v p :=
  VR.rec (motive_1 := fun v p _ => VR im' v p) (motive_2 := fun vs l _ => VRs im' vs l) .none .bool .int .str (fun q _ r => .tup (h _ _ q) r) (fun q _ r => .lst (h _ _ q) r) .ref (fun q => .obj (h _ _ q)) .nil (fun _ _ a b => .cons a b) x
theorem VRs.mono {im im' : Im} (h : ∀ a o, im a o → im' a o) {vs l} (x : VRs im vs l) : VRs im' vs l := by
  induction x using VRs.rec (motive_1 := fun v p _ => VR im' v p) with
  | none => exact .none
  | bool b => exact .bool b
  | int i t => exact .int i t
  | str x t => exact .str x t
  | tup q _ r => exact .tup (h _ _ q) r
  | lst q _ r => exact .lst (h _ _ q) r
  | ref a => exact .ref a
  | obj q => exact .obj (h _ _ q)
  | nil => exact .nil
  | cons _ _ a b => exact .cons a b

theorem VRs.ind {im : Im} {C : List Value → List PV → Prop} (h0 : C [] []) (h1 : ∀ {v vs p l}, VR im v p → VRs im vs l → C vs l → C (v :: vs) (p :: l)) {vs l} (h : VRs im vs l) : C vs l :=
  VRs.rec (motive_1 := fun _ _ _ => True) (motive_2 := fun vs l _ => C vs l) trivial (fun _ => trivial) (fun _ _ => trivial) (fun _ _ => trivial) (fun _ _ _ => trivial) (fun _ _ _ => trivial) (fun _ => trivial) (fun _ => trivial) h0 (fun q r _ ih => h1 q r ih) h
theorem VRs.length {im : Im} {vs l} (h : VRs im vs l) : vs.length = l.length := VRs.ind (C := fun vs l => vs.length = l.length) rfl (fun _ _ ih => congrArg (· + 1) ih) h
theorem VRs.append {im : Im} {vs l ws m} (h : VRs im vs l) (k : VRs im ws m) : VRs im (vs ++ ws) (l ++ m) := VRs.ind (C := fun vs l => VRs im (vs ++ ws) (l ++ m)) k (fun q _ ih => .cons q ih) h
theorem VRs.one {im : Im} {v p} (h : VR im v p) : VRs im [v] [p] := .cons h .nil
theorem VRs.get {im : Im} {vs l} (h : VRs im vs l) : ∀ {i : Nat} {p : PV}, l[i]? = some p → ∃ v, vs[i]? = some v ∧ VR im v p := VRs.ind (C := fun vs l => ∀ {i : Nat} {p : PV}, l[i]? = some p → ∃ v, vs[i]? = some v ∧ VR im v p) (fun {i} p h => by cases i <;> cases h) (fun q _ ih => fun {i} {p} h => by
  cases i with
  | zero => cases h; exact ⟨_, rfl, q⟩
  | succ i => exact ih h) h
theorem VRs.getv {im : Im} {vs l} (h : VRs im vs l) : ∀ {i : Nat} {v : Value}, vs[i]? = some v → ∃ p, l[i]? = some p ∧ VR im v p := VRs.ind (C := fun vs l => ∀ {i : Nat} {v : Value}, vs[i]? = some v → ∃ p, l[i]? = some p ∧ VR im v p) (fun {i} p h => by cases i <;> cases h) (fun q _ ih => fun {i} {p} h => by
  cases i with
  | zero => cases h; exact ⟨_, rfl, q⟩
  | succ i => exact ih h) h
theorem VRs.take {im : Im} {vs l} (h : VRs im vs l) : ∀ n, VRs im (vs.take n) (l.take n) := VRs.ind (C := fun vs l => ∀ n, VRs im (vs.take n) (l.take n)) (fun n => by cases n <;> exact .nil) (fun q _ ih n => by
  cases n with
  | zero => exact .nil
  | succ n => exact .cons q (ih n)) h
theorem VRs.drop {im : Im} : ∀ {vs l}, VRs im vs l → ∀ n, VRs im (vs.drop n) (l.drop n)
  | _, _, .nil, n => by simpa using VRs.nil
  | _, _, .cons q r, 0 => .cons q r
  | _, _, .cons q r, n + 1 => VRs.drop r n
theorem VRs.set {im : Im} {v p} (h : VR im v p) : ∀ {vs l}, VRs im vs l → ∀ n, VRs im (vs.set n v) (l.set n p)
  | _, _, .nil, n => by simpa using VRs.nil
  | _, _, .cons q r, 0 => .cons h r
  | _, _, .cons q r, n + 1 => .cons q (VRs.set h r n)

inductive MO where
  | list (l : List PV)
  | sdict (es : List (Str × PV))
  | idict (es : List (Int × PV))
  | imap (es : List (Int × PV))
  | attrs (es : List (Str × PV))

abbrev Mu := Addr → Option MO
noncomputable def Mu.set (μ : Mu) (a : Addr) (m : MO) : Mu := fun b => if b = a then some m else μ b
noncomputable def Mu.del (μ : Mu) (a : Addr) : Mu := fun b => if b = a then none else μ b
theorem Mu.set_self {μ : Mu} {a : Addr} {m : MO} : (μ.set a m) a = some m := by simp [Mu.set]
theorem Mu.set_ne {μ : Mu} {a b : Addr} {m : MO} (h : b ≠ a) : (μ.set a m) b = μ b := by simp [Mu.set, h]
theorem Mu.set_set {μ : Mu} {a : Addr} {m m' : MO} : (μ.set a m).set a m' = μ.set a m' := by
  funext b; by_cases h : b = a <;> simp [Mu.set, h]
theorem Mu.del_set {μ : Mu} {a : Addr} {m : MO} (h : μ a = none) : (μ.set a m).del a = μ := by
  funext b; by_cases q : b = a <;> simp [Mu.set, Mu.del, q, h]

inductive KVR {κ : Type} (im : Im) : List (κ × Value) → List (κ × PV) → Prop
  | nil : KVR im [] []
  | cons {k : κ} {v p vs l} : VR im v p → KVR im vs l → KVR im ((k, v) :: vs) ((k, p) :: l)
theorem KVR.mono {κ : Type} {im im' : Im} (h : ∀ a o, im a o → im' a o) {vs : List (κ × Value)} {l} (x : KVR im vs l) : KVR im' vs l := by
  induction x with
  | nil => exact .nil
  | cons q _ ih => exact .cons (q.mono h) ih
noncomputable def lookS {κ : Type} [DecidableEq κ] (x : κ) : List (κ × PV) → Option PV
  | [] => none
  | (y, p) :: r => if y = x then some p else lookS x r
noncomputable def AR (im : Im) (m : Str → Option Value) (es : List (Str × PV)) : Prop := ∀ x, match lookS x es with
  | some p => ∃ v, m x = some v ∧ VR im v p
  | none => m x = none
theorem AR.mono {im im' : Im} (h : ∀ a o, im a o → im' a o) {m : Str → Option Value} {es} (x : AR im m es) : AR im' m es := fun y => by
  have z := x y
  cases q : lookS y es with
  | none => rw [q] at z; exact z
  | some p => rw [q] at z; obtain ⟨v, a, b⟩ := z; exact ⟨v, a, b.mono h⟩

inductive Nz (h : Heap) (a : Addr) (m : Str → Option Value) (N : Nat) : Prop
  | mk (o : Obj) (es : Array DictEntry) (ep : Nat) : h.get? a = some o → o.data = .dict es ep → StrKeys es → (∀ name, nsFind es name = m name) → es.size = N → Nz h a m N
theorem Nz.ns {h : Heap} {a m N} (x : Nz h a m N) : h.Ns a m := let ⟨o, es, ep, e, d, k, f, _⟩ := x; ⟨o, es, ep, e, d, k, f⟩

structure AttrFact (K : Frag) (C : Addr) (x : Str) : Prop where
  get : plainGet K C x = true
  dict : hasDictIn K C = true
  look : ∃ attr, findIn K (.ref C) x = some attr ∧ noGet K attr = true
  set : findIn K (.ref C) "__setattr__" = some (some (.builtin "object.__setattr__"))
  over : plainOver K C = true
  taker : takerIn K C x = some none
structure MethFact (K : Frag) (C : Addr) (x : Str) (f : Addr) : Prop where
  get : plainGet K C x = true
  look : findIn K (.ref C) x = some (some (.ref f))
  fn : isFn K (.ref f) = true
  keep : keepIn K (.ref f) = true

noncomputable def attrNames : List Str := ["domains", "firsts", "trail", "marks", "news", "speaker", "is_failed", "clash", "number", "scope", "strength", "lasts", "needs", "limit"]
noncomputable def methNames : List Str := ["new_var", "low", "high", "enter", "decide", "fail", "push", "pop", "tasks", "sure_times", "blocks", "enough_of", "reasons_for"]
noncomputable def attrOkT (C : Addr) (k : Nat) : Bool := (C == 287 && k < 8) || (C == 425 && 8 ≤ k && k < 14)
noncomputable def methT (C : Addr) (k : Nat) : Option Addr := if C = 287 then ([158, 186, 193, 235, 249, 256, 263, 270] : List Addr)[k]? else if C = 425 ∧ 8 ≤ k then ([361, 368, 373, 380, 387] : List Addr)[k - 8]? else none

structure Gl where
  prog : Program
  w : World
  K : Frag
  h₀ : Heap
  s₀ : Shared
  mg : Str → Option Value
  mb : Str → Option Value
  X : K.In h₀
  G : h₀.Ns mainGlobals mg
  B : h₀.Ns builtinsNs mb
  hB : ∀ x : Str, x ≠ "__name__" → mb x = bootBuiltins x
  lim : h₀.NoLimit
  mods : ∃ o, h₀.get? sysModules = some o
  cls : ∀ C k, attrOkT C k = true → ∀ x, attrNames[k]? = some x → AttrFact K C x
  mth : ∀ C k f, methT C k = some f → ∀ x, methNames[k]? = some x → MethFact K C x f

noncomputable def MOR (Γ : Gl) (im : Im) (h : Heap) (a : Addr) : MO → Prop
  | .list l => ∃ vs n, h.get? a = some (listOf vs.toArray n) ∧ VRs im vs l
  | .sdict es => ∃ kvs, h.DictOf (strKind Γ.prog Γ.w) a kvs ∧ KVR im kvs es
  | .idict es => ∃ kvs, h.DictOf (intKind Γ.prog Γ.w) a kvs ∧ KVR im kvs es
  | .imap es => ∃ kvs, h.DictOf (intKind Γ.prog Γ.w) a kvs ∧ KVR im kvs es
  | .attrs es => ∃ m, Nz h a m es.length ∧ AR im m es

theorem MOR.mono {Γ : Gl} {im im' : Im} {h h' : Heap} {a : Addr} (hi : ∀ a o, im a o → im' a o) (hh : ∀ o, h.get? a = some o → h'.get? a = some o) {m : MO} (x : MOR Γ im h a m) : MOR Γ im' h' a m := by
  cases m with
  | list l => obtain ⟨vs, n, e, r⟩ := x; exact ⟨vs, n, hh _ e, r.mono hi⟩
  | sdict es => obtain ⟨kvs, ⟨o, ds, ep, e, q⟩, r⟩ := x; exact ⟨kvs, ⟨o, ds, ep, hh _ e, q⟩, r.mono hi⟩
  | idict es => obtain ⟨kvs, ⟨o, ds, ep, e, q⟩, r⟩ := x; exact ⟨kvs, ⟨o, ds, ep, hh _ e, q⟩, r.mono hi⟩
  | imap es => obtain ⟨kvs, ⟨o, ds, ep, e, q⟩, r⟩ := x; exact ⟨kvs, ⟨o, ds, ep, hh _ e, q⟩, r.mono hi⟩
  | attrs es => obtain ⟨m, ⟨o, ds, ep, e, q1, q2, q3, q4⟩, r⟩ := x; exact ⟨m, ⟨o, ds, ep, hh _ e, q1, q2, q3, q4⟩, r.mono hi⟩
theorem MOR.live {Γ : Gl} {im : Im} {h : Heap} {a : Addr} {m : MO} (x : MOR Γ im h a m) : ∃ o, h.get? a = some o := by
  cases m with
  | list l => obtain ⟨vs, n, e, r⟩ := x; exact ⟨_, e⟩
  | sdict es => obtain ⟨kvs, ⟨o, ds, ep, e, q⟩, r⟩ := x; exact ⟨_, e⟩
  | idict es => obtain ⟨kvs, ⟨o, ds, ep, e, q⟩, r⟩ := x; exact ⟨_, e⟩
  | imap es => obtain ⟨kvs, ⟨o, ds, ep, e, q⟩, r⟩ := x; exact ⟨_, e⟩
  | attrs es => obtain ⟨m, ⟨o, ds, ep, e, _, _, _, _⟩, r⟩ := x; exact ⟨_, e⟩

noncomputable def im (F : List Addr) (μ : Mu) (h : Heap) : Im := fun a o => h.get? a = some o ∧ μ a = none ∧ a ∉ F

structure GS (Γ : Gl) (F : List Addr) (μ : Mu) (s : Shared) : Prop where
  keep : ∀ b o, Γ.h₀.get? b = some o → s.heap.get? b = some o
  off : ∀ b o, Γ.h₀.get? b = some o → μ b = none ∧ b ∉ F
  live : ∀ a ∈ F, (∃ o, s.heap.get? a = some o) ∧ μ a = none
  mo : ∀ a m, μ a = some m → MOR Γ (im F μ s.heap) s.heap a m
  gens : s.gens = Γ.s₀.gens
  os : s.os = Γ.s₀.os

noncomputable def ro : Option MO → Bool
  | none => true
  | some (.imap _) => true
  | _ => false
structure Step (W : List Addr) (s : Shared) (μ : Mu) (s' : Shared) (μ' : Mu) : Prop where
  keep : ∀ a o, s.heap.get? a = some o → ro (μ a) = true → a ∉ W → s'.heap.get? a = some o
  held : ∀ a es, μ a = some (.imap es) → μ' a = some (.imap es)
  fresh : ∀ a m, μ' a = some m → (∃ m, μ a = some m) ∨ s.heap.get? a = none
  live : ∀ a o, s.heap.get? a = some o → ∃ o', s'.heap.get? a = some o'

section
variable {W F : List Addr} {s s₁ s₂ s' : Shared} {μ μ₁ μ₂ μ' : Mu} {Γ : Gl}
theorem Step.refl : Step W s μ s μ := ⟨fun _ _ e _ _ => e, fun _ _ e => e, fun _ m e => .inl ⟨m, e⟩, fun _ o e => ⟨o, e⟩⟩
theorem Step.trans (x : Step W s μ s₁ μ₁) (y : Step W s₁ μ₁ s₂ μ₂) : Step W s μ s₂ μ₂ := by
  refine ⟨fun a o e hm hw => ?_, fun a es e => y.held a es (x.held a es e), fun a m e => ?_, fun a o e => ?_⟩
  · refine y.keep a o (x.keep a o e hm hw) ?_ hw
    cases h : μ₁ a with
    | none => rfl
    | some m =>
      rcases x.fresh a m h with ⟨m', q⟩ | q
      · rw [q] at hm
        cases m' with
        | imap es => rw [x.held a es q] at h; cases h; rfl
        | _ => cases hm
      · rw [e] at q; cases q
  · rcases y.fresh a m e with ⟨m', q⟩ | q
    · exact x.fresh a m' q
    · cases h : μ a with
      | some m' => exact .inl ⟨m', rfl⟩
      | none =>
        right
        cases g : s.heap.get? a with
        | none => rfl
        | some o =>
          obtain ⟨o', q'⟩ := x.live a o g
          rw [q] at q'; cases q'
  · obtain ⟨o₁, e₁⟩ := x.live a o e
    exact y.live a o₁ e₁
theorem Step.wider {W' : List Addr} (x : Step [] s μ s' μ') : Step W' s μ s' μ' :=
  ⟨fun a o e hm _ => x.keep a o e hm (by simp), x.held, x.fresh, x.live⟩
theorem Step.toIm (x : Step W s μ s' μ') (hw : ∀ a ∈ W, a ∈ F) : ∀ a o, im F μ s.heap a o → im F μ' s'.heap a o := fun a o ⟨e, hm, hf⟩ => by
  refine ⟨x.keep a o e (by rw [hm]; rfl) fun h => hf (hw a h), ?_, hf⟩
  cases h : μ' a with
  | none => rfl
  | some m =>
    rcases x.fresh a m h with ⟨m', q⟩ | q
    · rw [hm] at q; cases q
    · rw [e] at q; cases q
theorem Step.toIm0 (x : Step [] s μ s' μ') : ∀ a o, im F μ s.heap a o → im F μ' s'.heap a o := x.toIm (by simp)
theorem Step.of_ext {h' : Heap} {tk : Nat} (he : ∀ b o, s.heap.get? b = some o → h'.get? b = some o) : Step W s μ { s with heap := h', toks := tk } μ :=
  ⟨fun a o e _ _ => he a o e, fun _ _ e => e, fun _ m e => .inl ⟨m, e⟩, fun a o e => ⟨o, he a o e⟩⟩

theorem GS.of_ext {h' : Heap} {tk : Nat} (G : GS Γ F μ s) (he : ∀ b o, s.heap.get? b = some o → h'.get? b = some o) : GS Γ F μ { s with heap := h', toks := tk } :=
  ⟨fun b o e => he b o (G.keep b o e), G.off, fun a h => ⟨let ⟨o, e⟩ := (G.live a h).1; ⟨o, he a o e⟩, (G.live a h).2⟩,
    fun a m e => (G.mo a m e).mono (fun a o ⟨q, r⟩ => ⟨he a o q, r⟩) fun o q => he a o q, G.gens, G.os⟩

theorem GS.upd {h' : Heap} {tk : Nat} {a : Addr} {m m' : MO} (G : GS Γ F μ s) (ha : μ a = some m) (hs : Heap.SameBut a s.heap h')
    (hm : ∀ im' : Im, (∀ b o, im F μ s.heap b o → im' b o) → MOR Γ im' h' a m') : GS Γ F (μ.set a m') { s with heap := h', toks := tk } := by
  have hi : ∀ b o, im F μ s.heap b o → im F (μ.set a m') h' b o := fun b o ⟨e, q, r⟩ => by
    have hb : b ≠ a := by rintro rfl; rw [ha] at q; cases q
    exact ⟨(hs.2 b hb).trans e, by rw [Mu.set_ne hb]; exact q, r⟩
  have hn : ∀ b, μ b = none → b ≠ a := fun b q => by rintro rfl; rw [ha] at q; cases q
  refine ⟨fun b o e => ?_, fun b o e => ?_, fun b h => ?_, fun b k e => ?_, G.gens, G.os⟩
  · exact (hs.2 b (hn b (G.off b o e).1)).trans (G.keep b o e)
  · exact ⟨by rw [Mu.set_ne (hn b (G.off b o e).1)]; exact (G.off b o e).1, (G.off b o e).2⟩
  · obtain ⟨⟨o, e⟩, q⟩ := G.live b h
    exact ⟨⟨o, (hs.2 b (hn b q)).trans e⟩, by rw [Mu.set_ne (hn b q)]; exact q⟩
  · by_cases hb : b = a
    · subst hb
      rw [Mu.set_self] at e; cases e
      exact hm _ hi
    · rw [Mu.set_ne hb] at e
      exact (G.mo b k e).mono hi fun o q => (hs.2 b hb).trans q
theorem Step.upd {h' : Heap} {tk : Nat} {a : Addr} {m m' : MO} (ha : μ a = some m) (hs : Heap.SameBut a s.heap h') (hl : ∃ o, h'.get? a = some o) (hr : ro (some m) = false := by rfl) : Step W s μ { s with heap := h', toks := tk } (μ.set a m') := by
  have hn : ∀ b, ro (μ b) = true → b ≠ a := fun b q => by rintro rfl; rw [ha, hr] at q; cases q
  refine ⟨fun b o e q _ => (hs.2 b (hn b q)).trans e, fun b es e => ?_, fun b k e => ?_, fun b o e => ?_⟩
  · rw [Mu.set_ne (hn b (by rw [e]; rfl))]; exact e
  · by_cases hb : b = a
    · subst hb; exact .inl ⟨m, ha⟩
    · rw [Mu.set_ne hb] at e; exact .inl ⟨k, e⟩
  · by_cases hb : b = a
    · subst hb; exact hl
    · exact ⟨o, (hs.2 b hb).trans e⟩

theorem GS.alloc {h' : Heap} {tk : Nat} {a : Addr} {m' : MO} (G : GS Γ F μ s) (hf : s.heap.get? a = none) (he : ∀ b o, s.heap.get? b = some o → h'.get? b = some o)
    (hm : ∀ im' : Im, (∀ b o, im F μ s.heap b o → im' b o) → MOR Γ im' h' a m') : GS Γ F (μ.set a m') { s with heap := h', toks := tk } := by
  have hl : ∀ b o, s.heap.get? b = some o → b ≠ a := fun b o e => by rintro rfl; rw [hf] at e; cases e
  have hi : ∀ b o, im F μ s.heap b o → im F (μ.set a m') h' b o := fun b o ⟨e, q, r⟩ => ⟨he b o e, by rw [Mu.set_ne (hl b o e)]; exact q, r⟩
  refine ⟨fun b o e => he b o (G.keep b o e), fun b o e => ?_, fun b h => ?_, fun b k e => ?_, G.gens, G.os⟩
  · exact ⟨by rw [Mu.set_ne (hl b o (G.keep b o e))]; exact (G.off b o e).1, (G.off b o e).2⟩
  · obtain ⟨⟨o, e⟩, q⟩ := G.live b h
    exact ⟨⟨o, he b o e⟩, by rw [Mu.set_ne (hl b o e)]; exact q⟩
  · by_cases hb : b = a
    · subst hb
      rw [Mu.set_self] at e; cases e
      exact hm _ hi
    · rw [Mu.set_ne hb] at e
      exact (G.mo b k e).mono hi fun o q => he b o q
theorem GS.fresh (G : GS Γ F μ s) {a : Addr} (hf : s.heap.get? a = none) : μ a = none := by
  cases h : μ a with
  | none => rfl
  | some m => obtain ⟨o, e⟩ := (G.mo a m h).live; rw [hf] at e; cases e
theorem GS.notF (G : GS Γ F μ s) {a : Addr} (hf : s.heap.get? a = none) : a ∉ F := fun h => by
  obtain ⟨⟨o, e⟩, _⟩ := G.live a h; rw [hf] at e; cases e
theorem Step.alloc {h' : Heap} {tk : Nat} {a : Addr} {m' : MO} (hf : s.heap.get? a = none) (ha : μ a = none) (he : ∀ b o, s.heap.get? b = some o → h'.get? b = some o) : Step W s μ { s with heap := h', toks := tk } (μ.set a m') := by
  refine ⟨fun b o e _ _ => he b o e, fun b es e => ?_, fun b k e => ?_, fun b o e => ⟨o, he b o e⟩⟩
  · rw [Mu.set_ne (by rintro rfl; rw [ha] at e; cases e)]; exact e
  by_cases hb : b = a
  · subst hb; exact .inr hf
  · rw [Mu.set_ne hb] at e; exact .inl ⟨k, e⟩
end
theorem none_size (h : Heap) : h.get? h.objs.size = none := by
  cases e : h.get? h.objs.size with
  | none => rfl
  | some o => exact absurd (Heap.lt_size e) (Nat.lt_irrefl _)
end Mine

open PySem PySem.Calls PyProof.Rows PySem.W
set_option maxRecDepth 100000
set_option backward.match.sparseCases false
namespace Mine

abbrev Rho := List (Option PV)
noncomputable def getS : Rho → Nat → Option PV
  | [], _ => none
  | x :: _, 0 => x
  | _ :: r, i + 1 => getS r i
noncomputable def setS : Rho → Nat → PV → Rho
  | [], _, _ => []
  | _ :: r, 0, p => some p :: r
  | x :: r, i + 1, p => x :: setS r i p
noncomputable def setMany : Rho → List Nat → List PV → Rho
  | ρ, i :: is, p :: ps => setMany (setS ρ i p) is ps
  | ρ, _, _ => ρ
noncomputable def initR : List (Option Nat) → Rho → Rho
  | [], _ => []
  | none :: r, ρ => none :: initR r ρ
  | some i :: r, ρ => getS ρ i :: initR r ρ

inductive BI where
  | len | min | max | sum | sorted | list | tuple | all
inductive TG where
  | one (i : Nat)
  | many (ts : List TG)

mutual
inductive ME where
  | dead
  | const (c : PV)
  | loc (i : Nat)
  | bin (op : Operator) (l r : ME)
  | neg (e : ME)
  | cmp (op : CmpOp) (l r : ME)
  | chain (a : ME) (ops : List CmpOp) (es : List ME)
  | band (a b : ME)
  | bor (a b : ME)
  | bnot (a : ME)
  | ite (t b o : ME)
  | tup (es : List ME)
  | lst (es : List ME)
  | dict0
  | sdict2 (k1 : Str) (a : ME) (k2 : Str) (b : ME)
  | sub (e i : ME)
  | slice (e : ME) (lo hi : Option ME)
  | attr (e : ME) (k : Nat)
  | call (f : Value) (es : List ME)
  | bi (b : BI) (es : List ME)
  | sortset (e : ME)
  | append (o e : ME)
  | pop (o : ME)
  | meth (o : ME) (k : Nat) (es : List ME)
  | comp (elt : ME) (tg : TG) (it : IT) (ifs : List ME) (init : List (Option Nat))
inductive IT where
  | seq (e : ME)
  | range1 (e : ME)
  | range2 (a b : ME)
  | zip (a b : ME)
  | enum (e : ME)
end
inductive MS where
  | dead
  | assign1 (i : Nat) (e : ME)
  | assignT (ts : List TG) (e : ME)
  | assignA (o : ME) (k : Nat) (e : ME)
  | assignS (o i e : ME)
  | expr (e : ME)
  | sup (es : List ME)
  | ifS (t : ME) (b o : List MS)
  | forS (tg : TG) (it : IT) (b : List MS)
  | whileS (t : ME) (b : List MS)
  | ret (e : Option ME)

inductive FP where
  | next | brk | cont
  | ret (p : PV)

mutual
noncomputable def pvEq : PV → PV → Bool
  | .none, .none => true
  | .int i, .int j => i == j
  | .str x, .str y => x == y
  | .tup l, .tup m => pvEqs l m
  | .lst l, .lst m => pvEqs l m
  | _, _ => false
noncomputable def pvEqs : List PV → List PV → Bool
  | [], [] => true
  | p :: l, q :: m => pvEq p q && pvEqs l m
  | _, _ => false
end
mutual
noncomputable def pvData : PV → Bool
  | .none => true
  | .int _ => true
  | .str x => PyData.strOk x
  | .tup l => pvDatas l
  | .lst l => pvDatas l
  | _ => false
noncomputable def pvDatas : List PV → Bool
  | [] => true
  | p :: l => pvData p && pvDatas l
end
mutual
noncomputable def pvDepth : PV → Nat
  | .tup l => pvDepths l + 1
  | .lst l => pvDepths l + 1
  | _ => 0
noncomputable def pvDepths : List PV → Nat
  | [] => 0
  | p :: l => Nat.max (pvDepth p) (pvDepths l)
end

section
variable {p q : PV} {l m : List PV}
theorem pe_none : pvEq .none .none = true := rfl
theorem pe_int {a b} : pvEq (.int a) (.int b) = (a == b) := rfl
theorem pe_str {a b} : pvEq (.str a) (.str b) = (a == b) := rfl
theorem pe_tup : pvEq (.tup l) (.tup m) = pvEqs l m := rfl
theorem pe_lst : pvEq (.lst l) (.lst m) = pvEqs l m := rfl
theorem pes_nil : pvEqs [] [] = true := rfl
theorem pes_nc : pvEqs [] (q :: m) = false := rfl
theorem pes_cn : pvEqs (p :: l) [] = false := rfl
theorem pes_cons : pvEqs (p :: l) (q :: m) = (pvEq p q && pvEqs l m) := rfl
theorem pd_none : pvData .none = true := rfl
theorem pd_int {a} : pvData (.int a) = true := rfl
theorem pd_str {x} : pvData (.str x) = PyData.strOk x := rfl
theorem pd_tup : pvData (.tup l) = pvDatas l := rfl
theorem pd_lst : pvData (.lst l) = pvDatas l := rfl
theorem pds_nil : pvDatas [] = true := rfl
theorem pds_cons : pvDatas (p :: l) = (pvData p && pvDatas l) := rfl
theorem pt_none : pvDepth .none = 0 := rfl
theorem pt_int {a} : pvDepth (.int a) = 0 := rfl
theorem pt_str {x} : pvDepth (.str x) = 0 := rfl
theorem pt_tup : pvDepth (.tup l) = pvDepths l + 1 := rfl
theorem pt_lst : pvDepth (.lst l) = pvDepths l + 1 := rfl
theorem pts_nil : pvDepths [] = 0 := rfl
theorem pts_cons : pvDepths (p :: l) = Nat.max (pvDepth p) (pvDepths l) := rfl
end
noncomputable def deref (μ : Mu) : PV → PV
  | .ref a => match μ a with
    | some (.list l) => .lst l
    | _ => .ref a
  | p => p

noncomputable def big : Nat := 100000
noncomputable def newL (vs : List PV) (μ : Mu) (k : PV → Mu → Prop) : Prop :=
  vs.length ≤ big ∧ (k (.lst vs) μ ∨ ∀ a, μ a = none → k (.ref a) (μ.set a (.list vs)))

noncomputable def binV (op : Operator) (p q : PV) (μ : Mu) (k : PV → Mu → Prop) : Prop := match op, p, q with
  | .Add, .int a, .int b => k (.int (a + b)) μ
  | .Sub, .int a, .int b => k (.int (a - b)) μ
  | .Mult, .int a, .int b => IntMulOk a b ∧ k (.int (a * b)) μ
  | .Mod, .int a, .int b => b ≠ 0 ∧ k (.int (a.fmod b)) μ
  | .Add, .tup a, .tup b => a.length + b.length ≤ big ∧ k (.tup (a ++ b)) μ
  | .Add, .lst a, .lst b => a.length + b.length ≤ big ∧ k (.lst (a ++ b)) μ
  | _, _, _ => False

noncomputable def dataOk (p : PV) : Prop := pvData p = true ∧ pvDepth p ≤ 8
noncomputable def eqN (p q : PV) (k : Bool → Prop) : Prop := dataOk p ∧ dataOk q ∧ k (pvEq p q)
noncomputable def eqVi (a : Int) (k : Bool → Prop) : PV → Prop
  | .int b => k (a == b)
  | q => eqN (.int a) q k
noncomputable def eqVs (a : Str) (k : Bool → Prop) : PV → Prop
  | .str b => k (a == b)
  | q => eqN (.str a) q k
noncomputable def eqVm (l : List PV) (k : Bool → Prop) : List PV → Prop
  | [] => k l.isEmpty
  | q :: m => eqN (.lst l) (.lst (q :: m)) k
noncomputable def eqVl (l : List PV) (k : Bool → Prop) : PV → Prop
  | .lst m => eqVm l k m
  | q => eqN (.lst l) q k
noncomputable def eqV (p q : PV) (k : Bool → Prop) : Prop := match p with
  | .int a => eqVi a k q
  | .str a => eqVs a k q
  | .lst l => eqVl l k q
  | p => eqN p q k
theorem eqN_mono {p q : PV} {k k' : Bool → Prop} (h : eqN p q k) (hk : ∀ b, k b → k' b) : eqN p q k' := ⟨h.1, h.2.1, hk _ h.2.2⟩
theorem eqVi_mono {a : Int} {q : PV} {k k' : Bool → Prop} (h : eqVi a k q) (hk : ∀ b, k b → k' b) : eqVi a k' q := by
  cases q <;> first | exact eqN_mono h hk | exact hk _ h
theorem eqVs_mono {a : Str} {q : PV} {k k' : Bool → Prop} (h : eqVs a k q) (hk : ∀ b, k b → k' b) : eqVs a k' q := by
  cases q <;> first | exact eqN_mono h hk | exact hk _ h
theorem eqVm_mono {l m : List PV} {k k' : Bool → Prop} (h : eqVm l k m) (hk : ∀ b, k b → k' b) : eqVm l k' m := by
  cases m <;> first | exact eqN_mono h hk | exact hk _ h
theorem eqVl_mono {l : List PV} {q : PV} {k k' : Bool → Prop} (h : eqVl l k q) (hk : ∀ b, k b → k' b) : eqVl l k' q := by
  cases q <;> first | exact eqN_mono h hk | exact eqVm_mono h hk
theorem eqV_mono {p q : PV} {k k' : Bool → Prop} (h : eqV p q k) (hk : ∀ b, k b → k' b) : eqV p q k' := by
  cases p <;> first | exact eqN_mono h hk | exact eqVi_mono h hk | exact eqVs_mono h hk | exact eqVl_mono h hk
noncomputable def cmpV (op : CmpOp) (p q : PV) (μ : Mu) (k : Bool → Prop) : Prop := match op with
  | .Lt => match p, q with | .int a, .int b => k (decide (a < b)) | _, _ => False
  | .LtE => match p, q with | .int a, .int b => k (decide (a ≤ b)) | _, _ => False
  | .Gt => match p, q with | .int a, .int b => k (decide (b < a)) | _, _ => False
  | .GtE => match p, q with | .int a, .int b => k (decide (b ≤ a)) | _, _ => False
  | .Eq => eqV (deref μ p) (deref μ q) k
  | .NotEq => eqV (deref μ p) (deref μ q) fun b => k (!b)
  | .Is => match q with
    | .none => (match p with | .none => k true | .lst _ => k false | .tup _ => k false | .ref _ => k false | _ => False)
    | _ => False
  | .In => match deref μ q with
    | .lst l => dataOk p ∧ dataOk (.lst l) ∧ k (l.any fun x => pvEq x p)
    | _ => False
  | _ => False

noncomputable def truthV (p : PV) (k : Bool → Prop) : Prop := match p with
  | .bool b => k b
  | .int i => k (i != 0)
  | .none => k false
  | _ => False

noncomputable def seqOf : PV → Option (List PV)
  | .lst l => some l
  | .tup l => some l
  | _ => none
noncomputable def nth : List PV → Nat → Option PV
  | [], _ => none
  | p :: _, 0 => some p
  | _ :: r, i + 1 => nth r i
noncomputable def itemAt (l : List PV) (j : Int) : Option PV :=
  if 0 ≤ j then nth l j.toNat else if 0 ≤ (l.length : Int) + j then nth l ((l.length : Int) + j).toNat else none
noncomputable def putS {κ : Type} [DecidableEq κ] (x : κ) (p : PV) : List (κ × PV) → List (κ × PV)
  | [] => [(x, p)]
  | (y, q) :: r => if y = x then (y, p) :: r else (y, q) :: putS x p r
inductive subV : PV → PV → Mu → (PV → Prop) → Prop
  | lst {l : List PV} {j : Int} {v : PV} {μ : Mu} {k : PV → Prop} : j.natAbs ≤ big → itemAt l j = some v → k v → subV (.lst l) (.int j) μ k
  | tup {l : List PV} {j : Int} {v : PV} {μ : Mu} {k : PV → Prop} : j.natAbs ≤ big → itemAt l j = some v → k v → subV (.tup l) (.int j) μ k
  | list {a : Addr} {l : List PV} {j : Int} {v : PV} {μ : Mu} {k : PV → Prop} : μ a = some (.list l) → j.natAbs ≤ big → itemAt l j = some v → k v → subV (.ref a) (.int j) μ k
  | idict {a : Addr} {es : List (Int × PV)} {j : Int} {v : PV} {μ : Mu} {k : PV → Prop} : μ a = some (.idict es) → lookS j es = some v → k v → subV (.ref a) (.int j) μ k
  | imap {a : Addr} {es : List (Int × PV)} {j : Int} {v : PV} {μ : Mu} {k : PV → Prop} : μ a = some (.imap es) → lookS j es = some v → k v → subV (.ref a) (.int j) μ k
  | sdict {a : Addr} {es : List (Str × PV)} {x : Str} {v : PV} {μ : Mu} {k : PV → Prop} : μ a = some (.sdict es) → lookS x es = some v → k v → subV (.ref a) (.str x) μ k
inductive sliceV : PV → Option PV → Option PV → Mu → (PV → Mu → Prop) → Prop
  | hi {p : PV} {l : List PV} {b : Int} {μ : Mu} {k : PV → Mu → Prop} : deref μ p = .lst l → l.length ≤ big → 0 ≤ b → newL (l.take b.toNat) μ k → sliceV p none (some (.int b)) μ k
  | lo {p : PV} {l : List PV} {a : Int} {μ : Mu} {k : PV → Mu → Prop} : deref μ p = .lst l → l.length ≤ big → 0 ≤ a → newL (l.drop a.toNat) μ k → sliceV p (some (.int a)) none μ k

end Mine

open PySem PySem.Calls PyProof.Rows PySem.W
set_option maxRecDepth 100000
set_option backward.match.sparseCases false
namespace Mine

noncomputable def Room (n : Nat) (A : Around) : Prop := A.handled = none ∧ A.depth + n < recursionLimit ∧ A.units + 8 * n + 200 < cLine
inductive Post (Γ : Gl) (F : List Addr) (s : Shared) (μ : Mu) (Q : PV → Mu → Prop) (v : Value) (s' : Shared) : Prop
  | mk (p : PV) (μ' : Mu) : Q p μ' → GS Γ F μ' s' → Step [] s μ s' μ' → VR (im F μ' s'.heap) v p → Post Γ F s μ Q v s'
inductive PostB (Γ : Gl) (F : List Addr) (s : Shared) (μ : Mu) (Q : Bool → Mu → Prop) (b : Bool) (s' : Shared) : Prop
  | mk (μ' : Mu) : Q b μ' → GS Γ F μ' s' → Step [] s μ s' μ' → PostB Γ F s μ Q b s'

noncomputable def CallT (Γ : Gl) (n : Nat) (f : Value) (args : List PV) (μ : Mu) (Q : PV → Mu → Prop) : Prop :=
  ∀ A F s vs, Room n A → GS Γ F μ s → VRs (im F μ s.heap) vs args →
    codeAny (model Γ.prog Γ.w) A (.call f ⟨vs, []⟩) (fun r s' => match r with | .ok (.ret v) => Post Γ F s μ Q v s' | _ => False) s

inductive attrV : PV → Nat → Mu → (PV → Prop) → Prop
  | mk {C d : Addr} {sl : Array (Option Value)} {k : Nat} {es : List (Str × PV)} {x : Str} {v : PV} {μ : Mu} {K : PV → Prop} : attrOkT C k = true → μ d = some (.attrs es) → attrNames[k]? = some x → lookS x es = some v → K v → attrV (.obj ⟨.ref C, some d, .plain, sl⟩) k μ K
inductive setAttrV : PV → Nat → PV → Mu → (Mu → Prop) → Prop
  | mk {C d : Addr} {sl : Array (Option Value)} {k : Nat} {es : List (Str × PV)} {x : Str} {v : PV} {μ : Mu} {K : Mu → Prop} : attrOkT C k = true → μ d = some (.attrs es) → attrNames[k]? = some x → es.length ≤ 100 → K (μ.set d (.attrs (putS x v es))) → setAttrV (.obj ⟨.ref C, some d, .plain, sl⟩) k v μ K
inductive setItemV : PV → PV → PV → Mu → (Mu → Prop) → Prop
  | list {a : Addr} {l : List PV} {j : Int} {n : Nat} {v : PV} {μ : Mu} {K : Mu → Prop} : μ a = some (.list l) → (n : Int) = (if 0 ≤ j then j else (l.length : Int) + j) → n < l.length → l.length ≤ big → K (μ.set a (.list (l.set n v))) → setItemV (.ref a) (.int j) v μ K
  | idict {a : Addr} {es : List (Int × PV)} {j : Int} {v : PV} {μ : Mu} {K : Mu → Prop} : μ a = some (.idict es) → es.length ≤ big → K (μ.set a (.idict (putS j v es))) → setItemV (.ref a) (.int j) v μ K
  | sdict {a : Addr} {es : List (Str × PV)} {x : Str} {v : PV} {μ : Mu} {K : Mu → Prop} : μ a = some (.sdict es) → es.length ≤ big → K (μ.set a (.sdict (putS x v es))) → setItemV (.ref a) (.str x) v μ K
inductive appendV : PV → PV → Mu → (PV → Mu → Prop) → Prop
  | mk {a : Addr} {l : List PV} {v : PV} {μ : Mu} {K : PV → Mu → Prop} : μ a = some (.list l) → l.length ≤ big → K .none (μ.set a (.list (l ++ [v]))) → appendV (.ref a) v μ K
inductive listRef : PV → Mu → Prop
  | mk {a : Addr} {l : List PV} {μ : Mu} : μ a = some (.list l) → listRef (.ref a) μ
inductive popV : PV → Mu → (PV → Mu → Prop) → Prop
  | mk {a : Addr} {l : List PV} {v : PV} {μ : Mu} {K : PV → Mu → Prop} : μ a = some (.list (l ++ [v])) → l.length + 1 ≤ big → K v (μ.set a (.list l)) → popV (.ref a) μ K
noncomputable def unpackV (p : PV) (n : Nat) (K : List PV → Prop) : Prop := match p with
  | .tup ps => ps.length = n ∧ K ps
  | _ => False
mutual
noncomputable def bindT : TG → PV → Rho → (Rho → Prop) → Prop
  | .one i, p, ρ, K => K (setS ρ i p)
  | .many ts, p, ρ, K => unpackV p ts.length fun ps => bindTs ts ps ρ K
noncomputable def bindTs : List TG → List PV → Rho → (Rho → Prop) → Prop
  | [], [], ρ, K => K ρ
  | t :: ts, p :: ps, ρ, K => bindT t p ρ fun ρ' => bindTs ts ps ρ' K
  | _, _, _, _ => False
end

noncomputable def intA : PV → Option Int
  | .int l => some l
  | _ => none
noncomputable def intsP : List PV → Option (List Int)
  | [] => some []
  | p :: r => (intA p).bind fun i => (intsP r).map (i :: ·)
noncomputable def boolA : PV → Option Bool
  | .bool l => some l
  | _ => none
noncomputable def boolsP : List PV → Option (List Bool)
  | [] => some []
  | p :: r => (boolA p).bind fun i => (boolsP r).map (i :: ·)
noncomputable def minI : Int → List Int → Int
  | a, [] => a
  | a, b :: r => minI (if b < a then b else a) r
noncomputable def insI (a : Int) : List Int → List Int
  | [] => [a]
  | b :: r => if a ≤ b then a :: b :: r else b :: insI a r
noncomputable def sortI : List Int → List Int
  | [] => []
  | a :: r => insI a (sortI r)
noncomputable def dedupI : List Int → List Int
  | [] => []
  | a :: r => if (dedupI r).contains a then dedupI r else a :: dedupI r

noncomputable def oneA : List PV → Option PV
  | [] => none
  | p :: r => match r with
    | [] => some p
    | _ :: _ => none
noncomputable def twoA : List PV → Option (PV × PV)
  | [] => none
  | p :: r => match oneA r with
    | none => none
    | some q => some (p, q)
noncomputable def lsA : PV → Option (List PV)
  | .lst l => some l
  | _ => none
noncomputable def tupA : PV → Option (List PV)
  | .tup l => some l
  | _ => none
noncomputable def onO {α : Type} (o : Option α) (f : α → Prop) : Prop := match o with
  | some x => f x
  | none => False
noncomputable def int2 : List PV → Option (Int × Int)
  | [] => none
  | p :: r => match oneA r with
    | none => none
    | some q => match intA p with
      | none => none
      | some a => match intA q with
        | none => none
        | some b => some (a, b)
noncomputable def biV (b : BI) (args : List PV) (μ : Mu) (K : PV → Mu → Prop) : Prop := match b with
  | .len => onO (oneA args) fun p => match deref μ p with
    | .lst l => l.length ≤ big ∧ K (.int l.length) μ
    | .tup l => l.length ≤ big ∧ K (.int l.length) μ
    | _ => False
  | .max => onO (int2 args) fun x => K (.int (if x.1 < x.2 then x.2 else x.1)) μ
  | .min => match int2 args with
    | some x => K (.int (if x.2 < x.1 then x.2 else x.1)) μ
    | none => onO (oneA args) fun p => onO (tupA p) fun l => match intsP l with
      | some (a :: r) => l.length ≤ big ∧ K (.int (minI a r)) μ
      | _ => False
  | .sum => onO (oneA args) fun p => onO (lsA p) fun l => ∃ ns, intsP l = some ns ∧ l.length ≤ big ∧ K (.int ns.sum) μ
  | .sorted => onO (oneA args) fun p => onO (lsA p) fun l => ∃ ns, intsP l = some ns ∧ l.length ≤ 60 ∧ newL ((sortI ns).map PV.int) μ K
  | .list => onO (oneA args) fun p => match deref μ p with
    | .lst l => newL l μ K
    | _ => False
  | .tuple => onO (oneA args) fun p => match deref μ p with
    | .lst l => l.length ≤ big ∧ K (.tup l) μ
    | .tup l => l.length ≤ big ∧ K (.tup l) μ
    | _ => False
  | .all => onO (oneA args) fun p => onO (lsA p) fun l => ∃ bs, boolsP l = some bs ∧ l.length ≤ big ∧ K (.bool (bs.all id)) μ

noncomputable def zipP : List PV → List PV → List PV
  | p :: l, q :: m => .tup [p, q] :: zipP l m
  | _, _ => []
noncomputable def enumP : Nat → List PV → List PV
  | _, [] => []
  | n, p :: l => .tup [.int n, p] :: enumP (n + 1) l
noncomputable def rangeP (a : Int) : Nat → List PV
  | 0 => []
  | n + 1 => .int a :: rangeP (a + 1) n

inductive Fa2 {α β : Type} (R : α → β → Prop) : List α → List β → Prop
  | nil : Fa2 R [] []
  | cons {a b l m} : R a b → Fa2 R l m → Fa2 R (a :: l) (b :: m)
inductive FZ (K : Rho → Mu → Prop) : Rho → Mu → Prop
  | done {ρ μ} : K ρ μ → FZ K ρ μ
  | drop {ρ μ} (a : Addr) : ro (μ a) = false → FZ K ρ (μ.del a) → FZ K ρ μ
  | hold {ρ μ} (a : Addr) (es : List (Int × PV)) : μ a = some (.idict es) → FZ K ρ (μ.set a (.imap es)) → FZ K ρ μ
  | frz {ρ μ ρ' μ'} (a : Addr) (l : List PV) : μ a = some (.list l) →
      (Fa2 (fun x y => x = y ∨ (x = some (.ref a) ∧ y = some (.lst l))) ρ ρ') →
      μ' a = none → (∀ b, b ≠ a → μ' b = μ b ∨ ∃ es es', μ b = some (.idict es) ∧ μ' b = some (.idict es') ∧ Fa2 (fun x y => x.1 = y.1 ∧ (x.2 = y.2 ∨ (x.2 = .ref a ∧ y.2 = .lst l))) es es') →
      FZ K ρ' μ' → FZ K ρ μ

section
variable (Γ : Gl) (n : Nat)
noncomputable def methP (k : Nat) (x : Str) (p : PV) (μ : Mu) (R : Addr → Prop) : Prop := ∃ C d sl f as, p = .obj ⟨.ref C, some d, .plain, sl⟩ ∧ methT C k = some f ∧ μ d = some (.attrs as) ∧ lookS x as = none ∧ R f
mutual
noncomputable def vcE : ME → Rho → Mu → (PV → Mu → Prop) → Prop
  | .dead, _, _, _ => False
  | .const c, _, μ, Q => Q c μ
  | .loc i, ρ, μ, Q => match getS ρ i with
    | some p => Q p μ
    | none => False
  | .bin op l r, ρ, μ, Q => vcE l ρ μ fun p μ₁ => vcE r ρ μ₁ fun q μ₂ => binV op p q μ₂ Q
  | .neg e, ρ, μ, Q => vcE e ρ μ fun p μ₁ => match p with
    | .int i => Q (.int (-i)) μ₁
    | _ => False
  | .cmp op l r, ρ, μ, Q => vcE l ρ μ fun p μ₁ => vcE r ρ μ₁ fun q μ₂ => cmpV op p q μ₂ fun b => Q (.bool b) μ₂
  | .chain _ _ _, _, _, _ => False
  | .band a b, ρ, μ, Q => vcE a ρ μ fun p μ₁ => truthV p fun c => if c then vcE b ρ μ₁ Q else Q p μ₁
  | .bor a b, ρ, μ, Q => vcE a ρ μ fun p μ₁ => truthV p fun c => if c then Q p μ₁ else vcE b ρ μ₁ Q
  | .bnot a, ρ, μ, Q => vcE a ρ μ fun p μ₁ => truthV p fun c => Q (.bool (!c)) μ₁
  | .ite t b o, ρ, μ, Q => vcB t ρ μ (vcE t ρ μ) fun c μ₁ => if c then vcE b ρ μ₁ Q else vcE o ρ μ₁ Q
  | .tup es, ρ, μ, Q => vcEs es ρ μ fun ps μ₁ => Q (.tup ps) μ₁
  | .lst es, ρ, μ, Q => vcEs es ρ μ fun ps μ₁ => newL ps μ₁ Q
  | .dict0, _, μ, Q => ∀ a, μ a = none → Q (.ref a) (μ.set a (.idict []))
  | .sdict2 k1 a k2 b, ρ, μ, Q => vcE a ρ μ fun p μ₁ => vcE b ρ μ₁ fun q μ₂ => ∀ d, μ₂ d = none → Q (.ref d) (μ₂.set d (.sdict [(k1, p), (k2, q)]))
  | .sub e i, ρ, μ, Q => vcE e ρ μ fun p μ₁ => vcE i ρ μ₁ fun q μ₂ => subV p q μ₂ fun v => Q v μ₂
  | .slice e lo hi, ρ, μ, Q => vcE e ρ μ fun p μ₁ => vcO lo ρ μ₁ fun l μ₂ => vcO hi ρ μ₂ fun h μ₃ => sliceV p l h μ₃ Q
  | .attr e k, ρ, μ, Q => vcE e ρ μ fun p μ₁ => attrV p k μ₁ fun v => Q v μ₁
  | .call f es, ρ, μ, Q => vcEs es ρ μ fun ps μ₁ => CallT Γ n f ps μ₁ Q
  | .bi b es, ρ, μ, Q => vcEs es ρ μ fun ps μ₁ => biV b ps μ₁ Q
  | .sortset e, ρ, μ, Q => vcE e ρ μ fun p μ₁ => match p with
    | .lst l => ∃ ns, intsP l = some ns ∧ l.length ≤ 60 ∧ newL ((sortI (dedupI ns)).map PV.int) μ₁ Q
    | _ => False
  | .append o e, ρ, μ, Q => vcE o ρ μ fun p μ₁ => listRef p μ₁ ∧ vcE e ρ μ₁ fun q μ₂ => appendV p q μ₂ Q
  | .pop o, ρ, μ, Q => vcE o ρ μ fun p μ₁ => popV p μ₁ Q
  | .meth o k es, ρ, μ, Q => vcE o ρ μ fun p μ₁ => methP k (methNames.getD k "") p μ₁ fun f => vcEs es ρ μ₁ fun ps μ₂ => CallT Γ n (.ref f) (p :: ps) μ₂ Q
  | .comp elt tg it ifs init, ρ, μ, Q => vcI it ρ μ fun items μ₁ => items.length ≤ big ∧ ∃ J : Nat → List PV → Mu → Prop, J 0 [] μ₁ ∧
      (∀ i x acc μ', nth items i = some x → J i acc μ' → bindT tg x (initR init ρ) fun ρ' => vcIfs ifs ρ' μ' fun c μ₂ =>
        if c then vcE elt ρ' μ₂ fun v μ₃ => J (i + 1) (acc ++ [v]) μ₃ else J (i + 1) acc μ₂) ∧
      (∀ acc μ', J items.length acc μ' → newL acc μ' Q)
noncomputable def vcEs : List ME → Rho → Mu → (List PV → Mu → Prop) → Prop
  | [], _, μ, Q => Q [] μ
  | e :: es, ρ, μ, Q => vcE e ρ μ fun p μ₁ => vcEs es ρ μ₁ fun ps μ₂ => Q (p :: ps) μ₂
noncomputable def vcO : Option ME → Rho → Mu → (Option PV → Mu → Prop) → Prop
  | none, _, μ, Q => Q none μ
  | some e, ρ, μ, Q => vcE e ρ μ fun p μ₁ => Q (some p) μ₁
noncomputable def vcIfs : List ME → Rho → Mu → (Bool → Mu → Prop) → Prop
  | [], _, μ, Q => Q true μ
  | e :: es, ρ, μ, Q => vcB e ρ μ (vcE e ρ μ) fun b μ₁ => if b then vcIfs es ρ μ₁ Q else Q false μ₁
noncomputable def vcB : ME → Rho → Mu → ((PV → Mu → Prop) → Prop) → (Bool → Mu → Prop) → Prop
  | .bnot a, ρ, μ, _, Q => vcB a ρ μ (vcE a ρ μ) fun b μ₁ => Q (!b) μ₁
  | .band a b, ρ, μ, _, Q => vcB a ρ μ (vcE a ρ μ) fun c μ₁ => if c then vcB b ρ μ₁ (vcE b ρ μ₁) Q else Q false μ₁
  | .bor a b, ρ, μ, _, Q => vcB a ρ μ (vcE a ρ μ) fun c μ₁ => if c then Q true μ₁ else vcB b ρ μ₁ (vcE b ρ μ₁) Q
  | .ite t b o, ρ, μ, _, Q => vcB t ρ μ (vcE t ρ μ) fun c μ₁ => if c then vcB b ρ μ₁ (vcE b ρ μ₁) Q else vcB o ρ μ₁ (vcE o ρ μ₁) Q
  | .cmp op l r, ρ, μ, _, Q => vcE l ρ μ fun p μ₁ => vcE r ρ μ₁ fun q μ₂ => cmpV op p q μ₂ fun b => Q b μ₂
  | .chain a ops es, ρ, μ, _, Q => vcE a ρ μ fun p μ₁ => vcTC ops es p ρ μ₁ Q
  | _, _, _, W, Q => W fun p μ₁ => truthV p fun b => Q b μ₁
noncomputable def vcTC : List CmpOp → List ME → PV → Rho → Mu → (Bool → Mu → Prop) → Prop
  | op :: ops, e :: es, p, ρ, μ, Q => vcE e ρ μ fun q μ₁ => cmpV op p q μ₁ fun b => match ops with
    | [] => Q b μ₁
    | _ :: _ => if b then vcTC ops es q ρ μ₁ Q else Q false μ₁
  | _, _, _, _, _, _ => False
noncomputable def vcI : IT → Rho → Mu → (List PV → Mu → Prop) → Prop
  | .seq e, ρ, μ, Q => vcE e ρ μ fun p μ₁ => match p with
    | .lst l => Q l μ₁
    | .tup l => Q l μ₁
    | .ref d => match μ₁ d with
      | some (.imap es) => Q (es.map fun x => .int x.1) μ₁
      | _ => False
    | _ => False
  | .range1 e, ρ, μ, Q => vcE e ρ μ fun p μ₁ => onO (intA p) fun b => (-(big : Int) ≤ b ∧ b ≤ big) ∧ Q (rangeP 0 b.toNat) μ₁
  | .range2 a b, ρ, μ, Q => vcE a ρ μ fun p μ₁ => vcE b ρ μ₁ fun q μ₂ => onO (intA p) fun a => onO (intA q) fun b => a.natAbs ≤ big ∧ b.natAbs ≤ big ∧ Q (rangeP a (b - a).toNat) μ₂
  | .zip a b, ρ, μ, Q => vcE a ρ μ fun p μ₁ => vcE b ρ μ₁ fun q μ₂ => onO (lsA p) fun l => onO (lsA q) fun m => Q (zipP l m) μ₂
  | .enum e, ρ, μ, Q => vcE e ρ μ fun p μ₁ => onO (lsA p) fun l => Q (enumP 0 l) μ₁
end
mutual
noncomputable def vcS : MS → Rho → Mu → (FP → Rho → Mu → Prop) → Prop
  | .dead, _, _, _ => False
  | .assign1 i e, ρ, μ, Q => vcE Γ n e ρ μ fun p μ₁ => Q .next (setS ρ i p) μ₁
  | .assignT ts e, ρ, μ, Q => vcE Γ n e ρ μ fun p μ₁ => bindT (.many ts) p ρ fun ρ' => Q .next ρ' μ₁
  | .assignA o k e, ρ, μ, Q => vcE Γ n e ρ μ fun p μ₁ => vcE Γ n o ρ μ₁ fun q μ₂ => setAttrV q k p μ₂ fun μ₃ => Q .next ρ μ₃
  | .assignS o i e, ρ, μ, Q => vcE Γ n e ρ μ fun p μ₁ => vcE Γ n o ρ μ₁ fun q μ₂ => vcE Γ n i ρ μ₂ fun r μ₃ => setItemV q r p μ₃ fun μ₄ => Q .next ρ μ₄
  | .expr e, ρ, μ, Q => vcE Γ n e ρ μ fun _ μ₁ => Q .next ρ μ₁
  | .sup es, ρ, μ, Q => match getS ρ 0 with
    | some p => vcEs Γ n es ρ μ fun ps μ₁ => CallT Γ n (.ref 305) (p :: ps) μ₁ fun _ μ₂ => Q .next ρ μ₂
    | none => False
  | .ifS t b o, ρ, μ, Q => vcB Γ n t ρ μ (vcE Γ n t ρ μ) fun c μ₁ => if c then vcSs b ρ μ₁ Q else vcSs o ρ μ₁ Q
  | .forS tg it b, ρ, μ, Q => vcI Γ n it ρ μ fun items μ₁ => items.length ≤ big ∧ ∃ J : Nat → Rho → Mu → Prop, J 0 ρ μ₁ ∧
      (∀ i x ρ' μ', nth items i = some x → J i ρ' μ' → bindT tg x ρ' fun ρ₂ => vcSs b ρ₂ μ' fun fl ρ₃ μ₃ => match fl with
        | .next => FZ (J (i + 1)) ρ₃ μ₃
        | .cont => FZ (J (i + 1)) ρ₃ μ₃
        | .brk => Q .next ρ₃ μ₃
        | .ret p => Q (.ret p) ρ₃ μ₃) ∧
      (∀ ρ' μ', J items.length ρ' μ' → Q .next ρ' μ')
  | .whileS t b, ρ, μ, Q => ∃ (J : Nat → Rho → Mu → Prop) (N : Nat), J N ρ μ ∧ ∀ m ρ' μ', J m ρ' μ' → vcB Γ n t ρ' μ' (vcE Γ n t ρ' μ') fun c μ₁ =>
      if c then vcSs b ρ' μ₁ fun fl ρ₃ μ₃ => match fl with
        | .next => ∃ m', m' < m ∧ J m' ρ₃ μ₃
        | .cont => ∃ m', m' < m ∧ J m' ρ₃ μ₃
        | .brk => Q .next ρ₃ μ₃
        | .ret p => Q (.ret p) ρ₃ μ₃
      else Q .next ρ' μ₁
  | .ret none, ρ, μ, Q => Q (.ret .none) ρ μ
  | .ret (some e), ρ, μ, Q => vcE Γ n e ρ μ fun p μ₁ => Q (.ret p) ρ μ₁
noncomputable def vcSs : List MS → Rho → Mu → (FP → Rho → Mu → Prop) → Prop
  | [], ρ, μ, Q => Q .next ρ μ
  | s :: ss, ρ, μ, Q => vcS s ρ μ fun fl ρ₁ μ₁ => match fl with
    | .next => vcSs ss ρ₁ μ₁ Q
    | .cont => Q .cont ρ₁ μ₁
    | .brk => Q .brk ρ₁ μ₁
    | .ret p => Q (.ret p) ρ₁ μ₁
end
end
noncomputable def CompB (Γ : Gl) (n : Nat) (elt : ME) (tg : TG) (ifs : List ME) (init : List (Option Nat)) (ρ : Rho) (Q : PV → Mu → Prop) (items : List PV) (μ₁ : Mu) : Prop :=
  items.length ≤ big ∧ ∃ J : Nat → List PV → Mu → Prop, J 0 [] μ₁ ∧
      (∀ i x acc μ', nth items i = some x → J i acc μ' → bindT tg x (initR init ρ) fun ρ' => vcIfs Γ n ifs ρ' μ' fun c μ₂ =>
        if c then vcE Γ n elt ρ' μ₂ fun v μ₃ => J (i + 1) (acc ++ [v]) μ₃ else J (i + 1) acc μ₂) ∧
      (∀ acc μ', J items.length acc μ' → newL acc μ' Q)
noncomputable def ForB (Γ : Gl) (n : Nat) (tg : TG) (b : List MS) (Q : FP → Rho → Mu → Prop) (ρ : Rho) (items : List PV) (μ₁ : Mu) : Prop :=
  items.length ≤ big ∧ ∃ J : Nat → Rho → Mu → Prop, J 0 ρ μ₁ ∧
      (∀ i x ρ' μ', nth items i = some x → J i ρ' μ' → bindT tg x ρ' fun ρ₂ => vcSs Γ n b ρ₂ μ' fun fl ρ₃ μ₃ => match fl with
        | .next => FZ (J (i + 1)) ρ₃ μ₃
        | .cont => FZ (J (i + 1)) ρ₃ μ₃
        | .brk => Q .next ρ₃ μ₃
        | .ret p => Q (.ret p) ρ₃ μ₃) ∧
      (∀ ρ' μ', J items.length ρ' μ' → Q .next ρ' μ')
theorem comp_rule {Γ : Gl} {n : Nat} {elt : ME} {tg : TG} {ifs : List ME} {init : List (Option Nat)} {ρ : Rho} {Q : PV → Mu → Prop} {items : List PV} {μ₁ : Mu} (hl : items.length ≤ big) (J : Nat → List PV → Mu → Prop) (h0 : J 0 [] μ₁)
    (hs : ∀ i x acc μ', nth items i = some x → J i acc μ' → bindT tg x (initR init ρ) fun ρ' => vcIfs Γ n ifs ρ' μ' fun c μ₂ =>
        if c then vcE Γ n elt ρ' μ₂ fun v μ₃ => J (i + 1) (acc ++ [v]) μ₃ else J (i + 1) acc μ₂)
    (he : ∀ acc μ', J items.length acc μ' → newL acc μ' Q) : CompB Γ n elt tg ifs init ρ Q items μ₁ := ⟨hl, J, h0, hs, he⟩
theorem for_rule {Γ : Gl} {n : Nat} {tg : TG} {b : List MS} {Q : FP → Rho → Mu → Prop} {ρ : Rho} {items : List PV} {μ₁ : Mu} (hl : items.length ≤ big) (J : Nat → Rho → Mu → Prop) (h0 : J 0 ρ μ₁)
    (hs : ∀ i x ρ' μ', nth items i = some x → J i ρ' μ' → bindT tg x ρ' fun ρ₂ => vcSs Γ n b ρ₂ μ' fun fl ρ₃ μ₃ => match fl with
        | .next => FZ (J (i + 1)) ρ₃ μ₃
        | .cont => FZ (J (i + 1)) ρ₃ μ₃
        | .brk => Q .next ρ₃ μ₃
        | .ret p => Q (.ret p) ρ₃ μ₃)
    (he : ∀ ρ' μ', J items.length ρ' μ' → Q .next ρ' μ') : ForB Γ n tg b Q ρ items μ₁ := ⟨hl, J, h0, hs, he⟩
noncomputable def WhileB (Γ : Gl) (n : Nat) (t : ME) (b : List MS) (Q : FP → Rho → Mu → Prop) (ρ : Rho) (μ : Mu) : Prop :=
  ∃ (J : Nat → Rho → Mu → Prop) (N : Nat), J N ρ μ ∧ ∀ m ρ' μ', J m ρ' μ' → vcB Γ n t ρ' μ' (vcE Γ n t ρ' μ') fun c μ₁ =>
      if c then vcSs Γ n b ρ' μ₁ fun fl ρ₃ μ₃ => match fl with
        | .next => ∃ m', m' < m ∧ J m' ρ₃ μ₃
        | .cont => ∃ m', m' < m ∧ J m' ρ₃ μ₃
        | .brk => Q .next ρ₃ μ₃
        | .ret p => Q (.ret p) ρ₃ μ₃
      else Q .next ρ' μ₁
section
variable {μ : Mu} {k : PV → Mu → Prop} {kb : Bool → Prop} {p q : PV}
theorem bv_add {a b} : binV .Add (.int a) (.int b) μ k = k (.int (a + b)) μ := rfl
theorem bv_sub {a b} : binV .Sub (.int a) (.int b) μ k = k (.int (a - b)) μ := rfl
theorem bv_mul {a b} : binV .Mult (.int a) (.int b) μ k = (IntMulOk a b ∧ k (.int (a * b)) μ) := rfl
theorem bv_mod {a b} : binV .Mod (.int a) (.int b) μ k = (b ≠ 0 ∧ k (.int (a.fmod b)) μ) := rfl
theorem bv_tup {a b} : binV .Add (.tup a) (.tup b) μ k = (a.length + b.length ≤ big ∧ k (.tup (a ++ b)) μ) := rfl
theorem bv_lst {a b} : binV .Add (.lst a) (.lst b) μ k = (a.length + b.length ≤ big ∧ k (.lst (a ++ b)) μ) := rfl
theorem dr_ref {a} : deref μ (.ref a) = (match μ a with | some (.list l) => .lst l | _ => .ref a) := rfl
theorem dr_lst {a} : deref μ (.lst a) = .lst a := rfl
theorem dr_tup {a} : deref μ (.tup a) = .tup a := rfl
theorem dr_int {a} : deref μ (.int a) = .int a := rfl
theorem dr_str {a} : deref μ (.str a) = .str a := rfl
theorem dr_none : deref μ .none = .none := rfl
theorem dr_bool {a} : deref μ (.bool a) = .bool a := rfl
theorem dr_obj {a} : deref μ (.obj a) = .obj a := rfl
theorem bi_len {p} : biV .len [p] μ k = (match deref μ p with | .lst l => l.length ≤ big ∧ k (.int l.length) μ | .tup l => l.length ≤ big ∧ k (.int l.length) μ | _ => False) := rfl
theorem bi_min2 {a b} : biV .min [.int a, .int b] μ k = k (.int (if b < a then b else a)) μ := rfl
theorem bi_max2 {a b} : biV .max [.int a, .int b] μ k = k (.int (if a < b then b else a)) μ := rfl
theorem bi_minT {l} : biV .min [.tup l] μ k = (match intsP l with | some (a :: r) => l.length ≤ big ∧ k (.int (minI a r)) μ | _ => False) := rfl
theorem bi_sum {l} : biV .sum [.lst l] μ k = (∃ ns, intsP l = some ns ∧ l.length ≤ big ∧ k (.int ns.sum) μ) := rfl
theorem bi_sorted {l} : biV .sorted [.lst l] μ k = (∃ ns, intsP l = some ns ∧ l.length ≤ 60 ∧ newL ((sortI ns).map PV.int) μ k) := rfl
theorem bi_list {p} : biV .list [p] μ k = (match deref μ p with | .lst l => newL l μ k | _ => False) := rfl
theorem bi_tuple {p} : biV .tuple [p] μ k = (match deref μ p with | .lst l => l.length ≤ big ∧ k (.tup l) μ | .tup l => l.length ≤ big ∧ k (.tup l) μ | _ => False) := rfl
theorem bi_all {l} : biV .all [.lst l] μ k = (∃ bs, boolsP l = some bs ∧ l.length ≤ big ∧ k (.bool (bs.all id)) μ) := rfl
theorem cv_lt {a b} : cmpV .Lt (.int a) (.int b) μ kb = kb (decide (a < b)) := rfl
theorem cv_le {a b} : cmpV .LtE (.int a) (.int b) μ kb = kb (decide (a ≤ b)) := rfl
theorem cv_gt {a b} : cmpV .Gt (.int a) (.int b) μ kb = kb (decide (b < a)) := rfl
theorem cv_ge {a b} : cmpV .GtE (.int a) (.int b) μ kb = kb (decide (b ≤ a)) := rfl
theorem cv_eq : cmpV .Eq p q μ kb = eqV (deref μ p) (deref μ q) kb := rfl
theorem cv_ne : cmpV .NotEq p q μ kb = eqV (deref μ p) (deref μ q) fun b => kb (!b) := rfl
theorem cv_in : cmpV .In p q μ kb = (match deref μ q with | .lst l => dataOk p ∧ dataOk (.lst l) ∧ kb (l.any fun x => pvEq x p) | _ => False) := rfl
theorem cv_isn : cmpV .Is .none .none μ kb = kb true := rfl
theorem cv_isl {l} : cmpV .Is (.lst l) .none μ kb = kb false := rfl
theorem cv_ist {l} : cmpV .Is (.tup l) .none μ kb = kb false := rfl
theorem cv_isr {l} : cmpV .Is (.ref l) .none μ kb = kb false := rfl
theorem ev_int {a b} : eqV (.int a) (.int b) kb = kb (a == b) := rfl
theorem ev_str {a b} : eqV (.str a) (.str b) kb = kb (a == b) := rfl
theorem ev_nil {l} : eqV (.lst l) (.lst []) kb = kb l.isEmpty := rfl
theorem tv_bool {b} : truthV (.bool b) kb = kb b := rfl
theorem tv_int {i} : truthV (.int i) kb = kb (i != 0) := rfl
theorem tv_none : truthV .none kb = kb false := rfl
end
section
variable {Γ : Gl} {n : Nat} {ρ : Rho} {μ : Mu} {Q : PV → Mu → Prop} {QB : Bool → Mu → Prop} {W : (PV → Mu → Prop) → Prop} {QS : FP → Rho → Mu → Prop}
theorem ve_dead : vcE Γ n .dead ρ μ Q = False := rfl
theorem ve_const {c} : vcE Γ n (.const c) ρ μ Q = Q c μ := rfl
theorem ve_loc {i} : vcE Γ n (.loc i) ρ μ Q = (match getS ρ i with | some p => Q p μ | none => False) := rfl
theorem ve_bin {op l r} : vcE Γ n (.bin op l r) ρ μ Q = vcE Γ n l ρ μ fun p μ₁ => vcE Γ n r ρ μ₁ fun q μ₂ => binV op p q μ₂ Q := rfl
theorem ve_neg {e} : vcE Γ n (.neg e) ρ μ Q = vcE Γ n e ρ μ fun p μ₁ => match p with | .int i => Q (.int (-i)) μ₁ | _ => False := rfl
theorem ve_cmp {op l r} : vcE Γ n (.cmp op l r) ρ μ Q = vcE Γ n l ρ μ fun p μ₁ => vcE Γ n r ρ μ₁ fun q μ₂ => cmpV op p q μ₂ fun b => Q (.bool b) μ₂ := rfl
theorem ve_band {a b} : vcE Γ n (.band a b) ρ μ Q = vcE Γ n a ρ μ fun p μ₁ => truthV p fun c => if c then vcE Γ n b ρ μ₁ Q else Q p μ₁ := rfl
theorem ve_bor {a b} : vcE Γ n (.bor a b) ρ μ Q = vcE Γ n a ρ μ fun p μ₁ => truthV p fun c => if c then Q p μ₁ else vcE Γ n b ρ μ₁ Q := rfl
theorem ve_bnot {a} : vcE Γ n (.bnot a) ρ μ Q = vcE Γ n a ρ μ fun p μ₁ => truthV p fun c => Q (.bool (!c)) μ₁ := rfl
theorem ve_ite {t b o} : vcE Γ n (.ite t b o) ρ μ Q = vcB Γ n t ρ μ (vcE Γ n t ρ μ) fun c μ₁ => if c then vcE Γ n b ρ μ₁ Q else vcE Γ n o ρ μ₁ Q := rfl
theorem ve_tup {es} : vcE Γ n (.tup es) ρ μ Q = vcEs Γ n es ρ μ fun ps μ₁ => Q (.tup ps) μ₁ := rfl
theorem ve_lst {es} : vcE Γ n (.lst es) ρ μ Q = vcEs Γ n es ρ μ fun ps μ₁ => newL ps μ₁ Q := rfl
theorem ve_dict0 : vcE Γ n .dict0 ρ μ Q = ∀ a, μ a = none → Q (.ref a) (μ.set a (.idict [])) := rfl
theorem ve_sdict2 {k1 a k2 b} : vcE Γ n (.sdict2 k1 a k2 b) ρ μ Q = vcE Γ n a ρ μ fun p μ₁ => vcE Γ n b ρ μ₁ fun q μ₂ => ∀ d, μ₂ d = none → Q (.ref d) (μ₂.set d (.sdict [(k1, p), (k2, q)])) := rfl
theorem ve_sub {e i} : vcE Γ n (.sub e i) ρ μ Q = vcE Γ n e ρ μ fun p μ₁ => vcE Γ n i ρ μ₁ fun q μ₂ => subV p q μ₂ fun v => Q v μ₂ := rfl
theorem ve_slice {e lo hi} : vcE Γ n (.slice e lo hi) ρ μ Q = vcE Γ n e ρ μ fun p μ₁ => vcO Γ n lo ρ μ₁ fun l μ₂ => vcO Γ n hi ρ μ₂ fun h μ₃ => sliceV p l h μ₃ Q := rfl
theorem ve_attr {e k} : vcE Γ n (.attr e k) ρ μ Q = vcE Γ n e ρ μ fun p μ₁ => attrV p k μ₁ fun v => Q v μ₁ := rfl
theorem ve_call {f es} : vcE Γ n (.call f es) ρ μ Q = vcEs Γ n es ρ μ fun ps μ₁ => CallT Γ n f ps μ₁ Q := rfl
theorem ve_bi {b es} : vcE Γ n (.bi b es) ρ μ Q = vcEs Γ n es ρ μ fun ps μ₁ => biV b ps μ₁ Q := rfl
theorem ve_sortset {e} : vcE Γ n (.sortset e) ρ μ Q = vcE Γ n e ρ μ fun p μ₁ => match p with | .lst l => ∃ ns, intsP l = some ns ∧ l.length ≤ 60 ∧ newL ((sortI (dedupI ns)).map PV.int) μ₁ Q | _ => False := rfl
theorem ve_append {o e} : vcE Γ n (.append o e) ρ μ Q = vcE Γ n o ρ μ fun p μ₁ => listRef p μ₁ ∧ vcE Γ n e ρ μ₁ fun q μ₂ => appendV p q μ₂ Q := rfl
theorem ve_pop {o} : vcE Γ n (.pop o) ρ μ Q = vcE Γ n o ρ μ fun p μ₁ => popV p μ₁ Q := rfl
noncomputable def methV (Γ : Gl) (n : Nat) (ρ : Rho) (k : Nat) (es : List ME) (Q : PV → Mu → Prop) (p : PV) (μ₁ : Mu) : Prop := methP k (methNames.getD k "") p μ₁ fun f => vcEs Γ n es ρ μ₁ fun ps μ₂ => CallT Γ n (.ref f) (p :: ps) μ₂ Q
theorem ve_meth {o k es} : vcE Γ n (.meth o k es) ρ μ Q = vcE Γ n o ρ μ (methV Γ n ρ k es Q) := rfl
theorem ve_comp {elt tg it ifs init} : vcE Γ n (.comp elt tg it ifs init) ρ μ Q = vcI Γ n it ρ μ (CompB Γ n elt tg ifs init ρ Q) := rfl
theorem vs_dead : vcS Γ n .dead ρ μ QS = False := rfl
theorem vs_assign1 {i e} : vcS Γ n (.assign1 i e) ρ μ QS = vcE Γ n e ρ μ fun p μ₁ => QS .next (setS ρ i p) μ₁ := rfl
theorem vs_assignT {ts e} : vcS Γ n (.assignT ts e) ρ μ QS = vcE Γ n e ρ μ fun p μ₁ => bindT (.many ts) p ρ fun ρ' => QS .next ρ' μ₁ := rfl
theorem vs_assignA {o k e} : vcS Γ n (.assignA o k e) ρ μ QS = vcE Γ n e ρ μ fun p μ₁ => vcE Γ n o ρ μ₁ fun q μ₂ => setAttrV q k p μ₂ fun μ₃ => QS .next ρ μ₃ := rfl
theorem vs_assignS {o i e} : vcS Γ n (.assignS o i e) ρ μ QS = vcE Γ n e ρ μ fun p μ₁ => vcE Γ n o ρ μ₁ fun q μ₂ => vcE Γ n i ρ μ₂ fun r μ₃ => setItemV q r p μ₃ fun μ₄ => QS .next ρ μ₄ := rfl
theorem vs_expr {e} : vcS Γ n (.expr e) ρ μ QS = vcE Γ n e ρ μ fun _ μ₁ => QS .next ρ μ₁ := rfl
theorem vs_ifS {t b o} : vcS Γ n (.ifS t b o) ρ μ QS = vcB Γ n t ρ μ (vcE Γ n t ρ μ) fun c μ₁ => if c then vcSs Γ n b ρ μ₁ QS else vcSs Γ n o ρ μ₁ QS := rfl
theorem vs_forS {tg it b} : vcS Γ n (.forS tg it b) ρ μ QS = vcI Γ n it ρ μ (ForB Γ n tg b QS ρ) := rfl
theorem vs_whileS {t b} : vcS Γ n (.whileS t b) ρ μ QS = WhileB Γ n t b QS ρ μ := rfl
theorem vs_ret0 : vcS Γ n (.ret none) ρ μ QS = QS (.ret .none) ρ μ := rfl
theorem vs_ret {e} : vcS Γ n (.ret (some e)) ρ μ QS = vcE Γ n e ρ μ fun p μ₁ => QS (.ret p) ρ μ₁ := rfl
variable {QL : List PV → Mu → Prop} {QO : Option PV → Mu → Prop} {p : PV}
theorem vl_nil : vcEs Γ n [] ρ μ QL = QL [] μ := rfl
theorem vl_cons {e es} : vcEs Γ n (e :: es) ρ μ QL = vcE Γ n e ρ μ fun p μ₁ => vcEs Γ n es ρ μ₁ fun ps μ₂ => QL (p :: ps) μ₂ := rfl
theorem vo_none : vcO Γ n none ρ μ QO = QO none μ := rfl
theorem vo_some {e} : vcO Γ n (some e) ρ μ QO = vcE Γ n e ρ μ fun p μ₁ => QO (some p) μ₁ := rfl
theorem vf_nil : vcIfs Γ n [] ρ μ QB = QB true μ := rfl
theorem vf_cons {e es} : vcIfs Γ n (e :: es) ρ μ QB = vcB Γ n e ρ μ (vcE Γ n e ρ μ) fun b μ₁ => if b then vcIfs Γ n es ρ μ₁ QB else QB false μ₁ := rfl
theorem vb_bnot {a} : vcB Γ n (.bnot a) ρ μ W QB = vcB Γ n a ρ μ (vcE Γ n a ρ μ) fun b μ₁ => QB (!b) μ₁ := rfl
theorem vb_band {a b} : vcB Γ n (.band a b) ρ μ W QB = vcB Γ n a ρ μ (vcE Γ n a ρ μ) fun c μ₁ => if c then vcB Γ n b ρ μ₁ (vcE Γ n b ρ μ₁) QB else QB false μ₁ := rfl
theorem vb_bor {a b} : vcB Γ n (.bor a b) ρ μ W QB = vcB Γ n a ρ μ (vcE Γ n a ρ μ) fun c μ₁ => if c then QB true μ₁ else vcB Γ n b ρ μ₁ (vcE Γ n b ρ μ₁) QB := rfl
theorem vb_ite {t b o} : vcB Γ n (.ite t b o) ρ μ W QB = vcB Γ n t ρ μ (vcE Γ n t ρ μ) fun c μ₁ => if c then vcB Γ n b ρ μ₁ (vcE Γ n b ρ μ₁) QB else vcB Γ n o ρ μ₁ (vcE Γ n o ρ μ₁) QB := rfl
theorem vb_cmp {op l r} : vcB Γ n (.cmp op l r) ρ μ W QB = vcE Γ n l ρ μ fun p μ₁ => vcE Γ n r ρ μ₁ fun q μ₂ => cmpV op p q μ₂ fun b => QB b μ₂ := rfl
theorem vb_chain {a ops es} : vcB Γ n (.chain a ops es) ρ μ W QB = vcE Γ n a ρ μ fun p μ₁ => vcTC Γ n ops es p ρ μ₁ QB := rfl
theorem vb_const {c} : vcB Γ n (.const c) ρ μ W QB = W fun p μ₁ => truthV p fun b => QB b μ₁ := rfl
theorem vb_loc {c} : vcB Γ n (.loc c) ρ μ W QB = W fun p μ₁ => truthV p fun b => QB b μ₁ := rfl
theorem vb_bin {a b c} : vcB Γ n (.bin a b c) ρ μ W QB = W fun p μ₁ => truthV p fun b => QB b μ₁ := rfl
theorem vb_neg {a} : vcB Γ n (.neg a) ρ μ W QB = W fun p μ₁ => truthV p fun b => QB b μ₁ := rfl
theorem vb_tup {a} : vcB Γ n (.tup a) ρ μ W QB = W fun p μ₁ => truthV p fun b => QB b μ₁ := rfl
theorem vb_lst {a} : vcB Γ n (.lst a) ρ μ W QB = W fun p μ₁ => truthV p fun b => QB b μ₁ := rfl
theorem vb_sub {a b} : vcB Γ n (.sub a b) ρ μ W QB = W fun p μ₁ => truthV p fun b => QB b μ₁ := rfl
theorem vb_slice {a b c} : vcB Γ n (.slice a b c) ρ μ W QB = W fun p μ₁ => truthV p fun b => QB b μ₁ := rfl
theorem vb_attr {a b} : vcB Γ n (.attr a b) ρ μ W QB = W fun p μ₁ => truthV p fun b => QB b μ₁ := rfl
theorem vb_call {a b} : vcB Γ n (.call a b) ρ μ W QB = W fun p μ₁ => truthV p fun b => QB b μ₁ := rfl
theorem vb_bi {a b} : vcB Γ n (.bi a b) ρ μ W QB = W fun p μ₁ => truthV p fun b => QB b μ₁ := rfl
theorem vb_meth {a b c} : vcB Γ n (.meth a b c) ρ μ W QB = W fun p μ₁ => truthV p fun b => QB b μ₁ := rfl
theorem vt_nil {es} (h : vcTC Γ n [] es p ρ μ QB) : False := by cases es <;> exact h
theorem vt_one {op e es} : vcTC Γ n [op] (e :: es) p ρ μ QB = vcE Γ n e ρ μ fun q μ₁ => cmpV op p q μ₁ fun b => QB b μ₁ := rfl
theorem vt_more {op op' ops e es} : vcTC Γ n (op :: op' :: ops) (e :: es) p ρ μ QB = vcE Γ n e ρ μ fun q μ₁ => cmpV op p q μ₁ fun b => if b then vcTC Γ n (op' :: ops) es q ρ μ₁ QB else QB false μ₁ := rfl
theorem vi_seq {e} : vcI Γ n (.seq e) ρ μ QL = vcE Γ n e ρ μ fun p μ₁ => match p with
    | .lst l => QL l μ₁
    | .tup l => QL l μ₁
    | .ref d => match μ₁ d with
      | some (.imap es) => QL (es.map fun x => .int x.1) μ₁
      | _ => False
    | _ => False := rfl
theorem oo_int {b : Int} {f : Int → Prop} : onO (intA (.int b)) f = f b := rfl
theorem oo_lst {l : List PV} {f : List PV → Prop} : onO (lsA (.lst l)) f = f l := rfl
theorem vi_range1 {e} : vcI Γ n (.range1 e) ρ μ QL = vcE Γ n e ρ μ fun p μ₁ => onO (intA p) fun b => (-(big : Int) ≤ b ∧ b ≤ big) ∧ QL (rangeP 0 b.toNat) μ₁ := rfl
theorem vi_range2 {a b} : vcI Γ n (.range2 a b) ρ μ QL = vcE Γ n a ρ μ fun p μ₁ => vcE Γ n b ρ μ₁ fun q μ₂ => onO (intA p) fun a => onO (intA q) fun b => a.natAbs ≤ big ∧ b.natAbs ≤ big ∧ QL (rangeP a (b - a).toNat) μ₂ := rfl
theorem vi_zip {a b} : vcI Γ n (.zip a b) ρ μ QL = vcE Γ n a ρ μ fun p μ₁ => vcE Γ n b ρ μ₁ fun q μ₂ => onO (lsA p) fun l => onO (lsA q) fun m => QL (zipP l m) μ₂ := rfl
theorem vi_enum {e} : vcI Γ n (.enum e) ρ μ QL = vcE Γ n e ρ μ fun p μ₁ => onO (lsA p) fun l => QL (enumP 0 l) μ₁ := rfl
theorem vk_nil : vcSs Γ n [] ρ μ QS = QS .next ρ μ := rfl
theorem vk_cons {s ss} : vcSs Γ n (s :: ss) ρ μ QS = vcS Γ n s ρ μ fun fl ρ₁ μ₁ => match fl with
    | .next => vcSs Γ n ss ρ₁ μ₁ QS
    | .cont => QS .cont ρ₁ μ₁
    | .brk => QS .brk ρ₁ μ₁
    | .ret p => QS (.ret p) ρ₁ μ₁ := rfl
end
end Mine

open PySem PySem.Calls PyProof.Rows PySem.W
set_option maxRecDepth 100000
set_option backward.match.sparseCases false
namespace Mine

structure Fm where
  env : Env
  names : List Str
  st : List Nat
  W : List Addr
  F : List Addr

structure FmOk (Γ : Gl) (Φ : Fm) : Prop where
  kind : Φ.env.scope.kind = .function
  glob : Φ.env.globals = mainGlobals
  blt : Φ.env.builtins = builtinsNs
  nd : Φ.names.Nodup
  sub : ∀ a ∈ Φ.W, a ∈ Φ.F
  loc : Φ.env.locals ∈ Φ.W
  store : ∀ i ∈ Φ.st, ∀ x, Φ.names[i]? = some x → Φ.env.kindOf x = some .local ∨ (Φ.env.kindOf x = some .cell ∧ ∃ c, Φ.env.cells.lookup x = some c ∧ c ∈ Φ.W)
  cells : ∀ x, Φ.env.kindOf x = some .cell ∨ Φ.env.kindOf x = some .free → ∃ c, Φ.env.cells.lookup x = some c
  apart : ∀ x c, Φ.env.cells.lookup x = some c → c ≠ Φ.env.locals
  inj : ∀ x y c, Φ.env.cells.lookup x = some c → Φ.env.cells.lookup y = some c → x = y

noncomputable def NameAt (h : Heap) (env : Env) (x : Str) (v : Value) : Prop :=
  (env.kindOf x = some .local ∧ ∃ m, h.Ns env.locals m ∧ m x = some v) ∨
  ((env.kindOf x = some .cell ∨ env.kindOf x = some .free) ∧ ∃ c, env.cells.lookup x = some c ∧ h.IsCell c (some v))

structure FR (Φ : Fm) (ρ : Rho) (μ : Mu) (s : Shared) : Prop where
  len : ρ.length = Φ.names.length
  ns : ∃ m, s.heap.Ns Φ.env.locals m
  cells : ∀ x c, Φ.env.cells.lookup x = some c → μ c = none ∧ ∃ v, s.heap.IsCell c v
  val : ∀ i x p, Φ.names[i]? = some x → getS ρ i = some p → ∃ v, NameAt s.heap Φ.env x v ∧ VR (im Φ.F μ s.heap) v p

noncomputable def FlR (i : Im) : Flow → FP → Prop
  | .next, .next => True
  | .brk, .brk => True
  | .cont, .cont => True
  | .ret v, .ret p => VR i v p
  | _, _ => False

noncomputable def TE (Γ : Gl) (n : Nat) (Φ : Fm) (ρ : Rho) (μ : Mu) (t : Sem Value) (Q : PV → Mu → Prop) : Prop :=
  ∀ A s, Room n A → GS Γ Φ.F μ s → FR Φ ρ μ s → wpAny (model Γ.prog Γ.w) A t (Post Γ Φ.F s μ Q) (fun _ _ => False) s
noncomputable def TB (Γ : Gl) (n : Nat) (Φ : Fm) (ρ : Rho) (μ : Mu) (t : Sem Bool) (Q : Bool → Mu → Prop) : Prop :=
  ∀ A s, Room n A → GS Γ Φ.F μ s → FR Φ ρ μ s → wpAny (model Γ.prog Γ.w) A t (PostB Γ Φ.F s μ Q) (fun _ _ => False) s
inductive PostS (Γ : Gl) (Φ : Fm) (s : Shared) (μ : Mu) (Q : FP → Rho → Mu → Prop) (f : Flow) (s' : Shared) : Prop
  | mk (fp : FP) (ρ' : Rho) (μ' : Mu) : Q fp ρ' μ' → GS Γ Φ.F μ' s' → Step Φ.W s μ s' μ' → FR Φ ρ' μ' s' → FlR (im Φ.F μ' s'.heap) f fp → PostS Γ Φ s μ Q f s'
noncomputable def TS (Γ : Gl) (n : Nat) (Φ : Fm) (ρ : Rho) (μ : Mu) (t : Sem Flow) (Q : FP → Rho → Mu → Prop) : Prop :=
  ∀ A s, Room n A → GS Γ Φ.F μ s → FR Φ ρ μ s → wpAny (model Γ.prog Γ.w) A t (PostS Γ Φ s μ Q) (fun _ _ => False) s

section
variable {Γ : Gl} {n : Nat} {Φ : Fm} {ρ : Rho} {μ μ₁ : Mu} {s s₁ s' : Shared} {A : Around} {F : List Addr}

theorem FR.step (R : FR Φ ρ μ s) (ok : FmOk Γ Φ) (G : GS Γ Φ.F μ s) (x : Step [] s μ s₁ μ₁) : FR Φ ρ μ₁ s₁ := by
  have keepL : ∀ o, s.heap.get? Φ.env.locals = some o → s₁.heap.get? Φ.env.locals = some o := fun o e =>
    x.keep _ o e (by rw [(G.live _ (ok.sub _ ok.loc)).2]; rfl) (by simp)
  have keepC : ∀ y c, Φ.env.cells.lookup y = some c → ∀ v, s.heap.IsCell c v → s₁.heap.IsCell c v := fun y c hc v ⟨o, e, d⟩ =>
    ⟨o, x.keep _ o e (by rw [(R.cells y c hc).1]; rfl) (by simp), d⟩
  refine ⟨R.len, ?_, fun y c hc => ⟨?_, ?_⟩, fun i y p hy hp => ?_⟩
  · obtain ⟨m, o, es, ep, e, r⟩ := R.ns
    exact ⟨m, o, es, ep, keepL o e, r⟩
  · cases q : μ₁ c with
    | none => rfl
    | some m =>
      obtain ⟨h1, v, o, e, _⟩ := R.cells y c hc
      rcases x.fresh c m q with ⟨m', z⟩ | z
      · rw [h1] at z; cases z
      · rw [e] at z; cases z
  · obtain ⟨_, v, hv⟩ := R.cells y c hc
    exact ⟨v, keepC y c hc v hv⟩
  · obtain ⟨v, hv, hr⟩ := R.val i y p hy hp
    refine ⟨v, ?_, hr.mono x.toIm0⟩
    rcases hv with ⟨k, m, ⟨o, es, ep, e, r⟩, mv⟩ | ⟨k, c, hc, hv⟩
    · exact .inl ⟨k, m, ⟨o, es, ep, keepL o e, r⟩, mv⟩
    · exact .inr ⟨k, c, hc, keepC y c hc _ hv⟩

theorem Post.trans {Q : PV → Mu → Prop} {v : Value} (x : Step [] s μ s₁ μ₁) (h : Post Γ F s₁ μ₁ Q v s') : Post Γ F s μ Q v s' := by
  obtain ⟨p, μ', a, b, c, d⟩ := h
  exact ⟨p, μ', a, b, x.trans c, d⟩
theorem PostB.trans {Q : Bool → Mu → Prop} {v : Bool} (x : Step [] s μ s₁ μ₁) (h : PostB Γ F s₁ μ₁ Q v s') : PostB Γ F s μ Q v s' := by
  obtain ⟨μ', a, b, c⟩ := h
  exact ⟨μ', a, b, x.trans c⟩
theorem PostS.trans {Q : FP → Rho → Mu → Prop} {v : Flow} (x : Step Φ.W s μ s₁ μ₁) (h : PostS Γ Φ s₁ μ₁ Q v s') : PostS Γ Φ s μ Q v s' := by
  obtain ⟨p, ρ', μ', a, b, c, d, e⟩ := h
  exact ⟨p, ρ', μ', a, b, x.trans c, d, e⟩
theorem Post.here {Q : PV → Mu → Prop} {v : Value} {p : PV} {tk : Nat} (G : GS Γ F μ s) (hq : Q p μ) (hv : VR (im F μ s.heap) v p) : Post Γ F s μ Q v { s with toks := tk } :=
  ⟨p, μ, hq, G.of_ext (fun _ _ e => e), Step.of_ext (fun _ _ e => e), hv⟩
theorem Post.here' {Q : PV → Mu → Prop} {v : Value} {p : PV} (G : GS Γ F μ s) (hq : Q p μ) (hv : VR (im F μ s.heap) v p) : Post Γ F s μ Q v s :=
  Post.here (tk := s.toks) G hq hv
theorem Post.pushed {Q : PV → Mu → Prop} {p : PV} {o : Obj} {tk : Nat} (G : GS Γ F μ s) (hq : Q p μ) (hf : o.isFreed = false)
    (hv : ∀ i : Im, i s.heap.objs.size o → (∀ a o, im F μ s.heap a o → i a o) → VR i (.ref s.heap.objs.size) p) : Post Γ F s μ Q (.ref s.heap.objs.size) { s with heap := s.heap.push o, toks := tk } := by
  have he : ∀ b o', s.heap.get? b = some o' → (s.heap.push o).get? b = some o' := fun b o' e => Heap.get?_push_of_some _ e
  have x : Step [] s μ { s with heap := s.heap.push o, toks := tk } μ := Step.of_ext he
  exact ⟨p, μ, hq, G.of_ext he, x, hv _ ⟨Heap.get?_push_size _ hf, G.fresh (none_size _), G.notF (none_size _)⟩ x.toIm0⟩
theorem Post.made {Q : PV → Mu → Prop} {o : Obj} {m : MO} {tk : Nat} (G : GS Γ F μ s) (hq : ∀ a, μ a = none → Q (.ref a) (μ.set a m))
    (hm : ∀ i : Im, (∀ a o, im F μ s.heap a o → i a o) → MOR Γ i (s.heap.push o) s.heap.objs.size m) : Post Γ F s μ Q (.ref s.heap.objs.size) { s with heap := s.heap.push o, toks := tk } := by
  have he : ∀ b o', s.heap.get? b = some o' → (s.heap.push o).get? b = some o' := fun b o' e => Heap.get?_push_of_some _ e
  exact ⟨_, _, hq _ (G.fresh (none_size _)), G.alloc (none_size _) he hm, Step.alloc (none_size _) (G.fresh (none_size _)) he, .ref _⟩
theorem Post.newL {Q : PV → Mu → Prop} {vs : List Value} {l : List PV} {tk : Nat} (G : GS Γ F μ s) (hq : newL l μ Q) (hv : VRs (im F μ s.heap) vs l) :
    Post Γ F s μ Q (.ref s.heap.objs.size) { s with heap := s.heap.push { cls := .type "list", data := .seq vs.toArray }, toks := tk } := by
  rcases hq.2 with h | h
  · exact Post.pushed G h rfl fun i hi hm => .lst hi (hv.mono hm)
  · exact Post.made G h fun i hm => ⟨vs, 0, Heap.get?_push_size _ rfl, hv.mono hm⟩

theorem TE.wp (h : TE Γ n Φ ρ μ t Q) (hA : Room n A) (G : GS Γ Φ.F μ s) (R : FR Φ ρ μ s) (ok : FmOk Γ Φ) {K : Value → Shared → Prop}
    (hK : ∀ v s₁ p μ₁, Q p μ₁ → GS Γ Φ.F μ₁ s₁ → Step [] s μ s₁ μ₁ → FR Φ ρ μ₁ s₁ → VR (im Φ.F μ₁ s₁.heap) v p → K v s₁) : wpAny (model Γ.prog Γ.w) A t K (fun _ _ => False) s :=
  wpAny_mono (h A s hA G R) (fun v s₁ ⟨p, μ₁, hq, G₁, x, hv⟩ => hK v s₁ p μ₁ hq G₁ x (R.step ok G x) hv) fun _ _ e => e
theorem TB.wp (h : TB Γ n Φ ρ μ t Q) (hA : Room n A) (G : GS Γ Φ.F μ s) (R : FR Φ ρ μ s) (ok : FmOk Γ Φ) {K : Bool → Shared → Prop}
    (hK : ∀ v s₁ μ₁, Q v μ₁ → GS Γ Φ.F μ₁ s₁ → Step [] s μ s₁ μ₁ → FR Φ ρ μ₁ s₁ → K v s₁) : wpAny (model Γ.prog Γ.w) A t K (fun _ _ => False) s :=
  wpAny_mono (h A s hA G R) (fun v s₁ ⟨μ₁, hq, G₁, x⟩ => hK v s₁ μ₁ hq G₁ x (R.step ok G x)) fun _ _ e => e
end

section
variable {Γ : Gl} {n : Nat} {Φ : Fm} {ρ : Rho} {μ : Mu} {Q : PV → Mu → Prop} (ok : FmOk Γ Φ)
include ok

theorem te_int {i : Int} {k pos} (h : Q (.int i) μ) : TE Γ n Φ ρ μ (eval (.Constant (.int i) k pos) Φ.env) Q := fun A s hA G R =>
  wpAny_Constant_int (Post.here G h (.int _ _))
theorem te_str {x : Str} {k pos} (h : Q (.str x) μ) : TE Γ n Φ ρ μ (eval (.Constant (.str x) k pos) Φ.env) Q := fun A s hA G R =>
  wpAny_Constant_str (Post.here G h (.str _ _))
theorem te_bool {b : Bool} {k pos} (h : Q (.bool b) μ) : TE Γ n Φ ρ μ (eval (.Constant (.bool b) k pos) Φ.env) Q := fun A s hA G R =>
  Constant_bool (Post.here' G h (.bool _))
theorem te_none {k pos} (h : Q .none μ) : TE Γ n Φ ρ μ (eval (.Constant .none k pos) Φ.env) Q := fun A s hA G R =>
  Constant_none (Post.here' G h .none)
theorem te_name {i : Nat} {x : Str} {p : PV} {pos} (hx : Φ.names[i]? = some x) (hp : getS ρ i = some p) (hd : (x == ("__debug__" : Str)) = false) (hc : (x == ("__classdict__" : Str)) = false) (h : Q p μ) :
    TE Γ n Φ ρ μ (eval (.Name x pos) Φ.env) Q := fun A s hA G R => by
  obtain ⟨v, hv, hr⟩ := R.val i x p hx hp
  have e := Post.here' (Q := Q) G h hr
  rcases hv with ⟨k, m, hn, mv⟩ | ⟨k | k, c, hc', hv⟩
  · exact wpAny_Name (wpAny_loadName_local ok.kind k hn mv e) hd
  · exact wpAny_Name (wpAny_loadName_cell ok.kind k hc' hv e) hd
  · exact wpAny_Name (wpAny_loadName_free ok.kind k hc' hv e hc) hd
end
end Mine

open PySem PySem.Calls PyProof.Rows PySem.W
set_option maxRecDepth 100000
set_option linter.unusedVariables false
set_option linter.unusedSectionVars false
set_option backward.match.sparseCases false
namespace Mine

theorem big_line : big ≤ sizeLine := by rw [sizeLine_eq]; decide

theorem VR.tup_inv {i : Im} {v : Value} {l : List PV} (h : VR i v (.tup l)) : ∃ a vs n, v = .ref a ∧ i a { cls := .type "tuple", data := .seq vs.toArray n } ∧ VRs i vs l := by
  cases h with
  | tup q r => exact ⟨_, _, _, rfl, q, r⟩
theorem VR.lst_inv {i : Im} {v : Value} {l : List PV} (h : VR i v (.lst l)) : ∃ a vs n, v = .ref a ∧ i a (listOf vs.toArray n) ∧ VRs i vs l := by
  cases h with
  | lst q r => exact ⟨_, _, _, rfl, q, r⟩
theorem VR.int_inv {i : Im} {v : Value} {k : Int} (h : VR i v (.int k)) : ∃ t, v = .int k t := by
  cases h; exact ⟨_, rfl⟩
theorem VR.str_inv {i : Im} {v : Value} {k : Str} (h : VR i v (.str k)) : ∃ t, v = .str k t := by
  cases h; exact ⟨_, rfl⟩
theorem VR.bool_inv {i : Im} {v : Value} {k : Bool} (h : VR i v (.bool k)) : v = .bool k := by
  cases h; rfl
theorem VR.none_inv {i : Im} {v : Value} (h : VR i v .none) : v = .none := by
  cases h; rfl
theorem VR.ref_inv {i : Im} {v : Value} {a : Addr} (h : VR i v (.ref a)) : v = .ref a := by
  cases h; rfl
theorem VR.obj_inv {i : Im} {v : Value} {o : Obj} (h : VR i v (.obj o)) : ∃ a, v = .ref a ∧ i a o := by
  cases h with
  | obj q => exact ⟨_, rfl, q⟩

mutual
noncomputable def pvPy : PV → PyData
  | .none => .none
  | .int i => .int i
  | .str x => .str x
  | .tup l => .tuple (pvPys l)
  | .lst l => .list (pvPys l)
  | _ => .none
noncomputable def pvPys : List PV → List PyData
  | [] => []
  | p :: l => pvPy p :: pvPys l
end

theorem VR.reads {h : Heap} {i : Im} (hi : ∀ a o, i a o → h.get? a = some o) {v p} (x : VR i v p) : pvData p = true → ∃ as, Reads h v (pvPy p) as :=
  VR.rec (motive_1 := fun v p _ => pvData p = true → ∃ as, Reads h v (pvPy p) as) (motive_2 := fun vs l _ => pvDatas l = true → ∃ as, ReadsAll h vs (pvPys l) as)
    (fun _ => ⟨_, Reads.none⟩) (fun _ hk => ff hk) (fun i t _ => ⟨_, Reads.int i t⟩) (fun x t _ => ⟨_, Reads.str x t⟩)
    (fun q _ r hk => by
      obtain ⟨as, z⟩ := r hk
      exact ⟨as, reads_tuple_at (hi _ _ q) rfl rfl (by simpa using z)⟩)
    (fun q _ r hk => by
      obtain ⟨as, z⟩ := r hk
      exact ⟨_, reads_list_at (hi _ _ q) rfl rfl (by simpa using z)⟩)
    (fun _ hk => ff hk) (fun _ hk => ff hk) (fun _ => ⟨_, ReadsAll.nil⟩)
    (fun _ _ a b hk => by
      have hk := Bool.and_eq_true_iff.mp hk
      obtain ⟨as, z⟩ := a hk.1
      obtain ⟨bs, y⟩ := b hk.2
      exact ⟨_, ReadsAll.cons z y⟩) x
theorem VRs.reads {h : Heap} {i : Im} (hi : ∀ a o, i a o → h.get? a = some o) {vs l} (x : VRs i vs l) (hk : pvDatas l = true) : ∃ as, ReadsAll h vs (pvPys l) as := by
  induction l generalizing vs with
  | nil => cases x; exact ⟨_, ReadsAll.nil⟩
  | cons p l ih =>
    cases x with
    | cons a b =>
      have hk := Bool.and_eq_true_iff.mp hk
      obtain ⟨as, z⟩ := a.reads hi hk.1
      obtain ⟨bs, y⟩ := ih b hk.2
      exact ⟨_, ReadsAll.cons z y⟩
theorem pv_lays : (∀ p, pvData p = true → (pvPy p).canLay0 = true ∧ (pvPy p).depth ≤ pvDepth p) ∧ ∀ l, pvDatas l = true → PyData.canLayAll0 (pvPys l) = true ∧ PyData.depthAll (pvPys l) ≤ pvDepths l := by
  have c : ∀ (p : PV) (l : List PV), (pvData p = true → (pvPy p).canLay0 = true ∧ (pvPy p).depth ≤ pvDepth p) → (pvDatas l = true → PyData.canLayAll0 (pvPys l) = true ∧ PyData.depthAll (pvPys l) ≤ pvDepths l) →
      pvDatas (p :: l) = true → PyData.canLayAll0 (pvPys (p :: l)) = true ∧ PyData.depthAll (pvPys (p :: l)) ≤ pvDepths (p :: l) := fun p l a b h => by
    have h := Bool.and_eq_true_iff.mp h
    obtain ⟨a1, a2⟩ := a h.1
    obtain ⟨b1, b2⟩ := b h.2
    exact ⟨Bool.and_eq_true_iff.mpr ⟨a1, b1⟩, Nat.max_le.mpr ⟨Nat.le_trans a2 (Nat.le_max_left ..), Nat.le_trans b2 (Nat.le_max_right ..)⟩⟩
  have z : ∀ p, pvData p = true → (pvPy p).canLay0 = true ∧ (pvPy p).depth ≤ pvDepth p := fun p =>
    PV.rec (motive_1 := fun p => pvData p = true → (pvPy p).canLay0 = true ∧ (pvPy p).depth ≤ pvDepth p) (motive_2 := fun l => pvDatas l = true → PyData.canLayAll0 (pvPys l) = true ∧ PyData.depthAll (pvPys l) ≤ pvDepths l)
      (fun _ => ⟨rfl, Nat.le_refl _⟩) (fun _ h => ff h) (fun _ _ => ⟨rfl, Nat.le_refl _⟩) (fun _ h => ⟨h, Nat.le_refl _⟩) (fun _ ih h => ⟨(ih h).1, Nat.succ_le_succ (ih h).2⟩) (fun _ ih h => ⟨(ih h).1, Nat.succ_le_succ (ih h).2⟩) (fun _ h => ff h) (fun _ h => ff h)
      (fun _ => ⟨rfl, Nat.le_refl _⟩) c p
  refine ⟨z, fun l => ?_⟩
  induction l with
  | nil => exact fun _ => ⟨rfl, Nat.le_refl _⟩
  | cons p l ih => exact c p l (z p) ih
theorem pv_lay : ∀ p, pvData p = true → (pvPy p).canLay0 = true ∧ (pvPy p).depth ≤ pvDepth p := pv_lays.1
theorem pvs_lay : ∀ l, pvDatas l = true → PyData.canLayAll0 (pvPys l) = true ∧ PyData.depthAll (pvPys l) ≤ pvDepths l := pv_lays.2
theorem str_beq (x y : Str) : (x == y) = decide (x = y) := by
  by_cases h : x = y
  · subst h; simp
  · rw [decide_eq_false h]; exact beq_false_of_ne h
theorem pv_eqv (p : PV) : ∀ q, pvData p = true → pvData q = true → PyData.eqv (pvPy p) (pvPy q) = pvEq p q :=
  PV.rec (motive_1 := fun p => ∀ q, pvData p = true → pvData q = true → PyData.eqv (pvPy p) (pvPy q) = pvEq p q) (motive_2 := fun l => ∀ m, pvDatas l = true → pvDatas m = true → PyData.eqvAll (pvPys l) (pvPys m) = pvEqs l m)
    (fun q _ k => by cases q <;> first | rfl | exact ff k) (fun _ _ h _ => ff h) (fun _ q _ k => by cases q <;> first | rfl | exact ff k) (fun _ q _ k => by cases q <;> first | rfl | exact ff k)
    (fun l ih q h k => by cases q <;> first | exact ih _ h k | rfl | exact ff k) (fun l ih q h k => by cases q <;> first | exact ih _ h k | rfl | exact ff k) (fun _ _ h _ => ff h) (fun _ _ h _ => ff h)
    (fun m _ _ => by cases m <;> rfl)
    (fun p l a b m h k => by
      cases m with
      | nil => rfl
      | cons q m =>
        have h := Bool.and_eq_true_iff.mp h
        have k := Bool.and_eq_true_iff.mp k
        show (PyData.eqv (pvPy p) (pvPy q) && PyData.eqvAll (pvPys l) (pvPys m)) = (pvEq p q && pvEqs l m)
        rw [a q h.1 k.1, b m h.2 k.2]) p
end Mine

open PySem PySem.Calls PyProof.Rows PySem.W
set_option maxRecDepth 100000
set_option linter.unusedVariables false
set_option linter.unusedSectionVars false
set_option backward.match.sparseCases false
namespace Mine

theorem list_ne_len (l : Addr) (items : Array Value) (n : Nat) (b : Addr) (items2 : Array Value) (n2 : Nat) (hc0 : (items.size != items2.size) = true) :
    Meets (Builtin.«list.__ne__» ⟨[.ref l, .ref b], []⟩) (fun _ R s => s.heap.get? l = some { cls := .type "list", dict := none, data := .seq items n, slots := #[] } ∧ s.heap.get? b = some { cls := .type "list", dict := none, data := .seq items2 n2, slots := #[] } ∧ R (.ok (.ret (Value.bool (CmpOp.NotEq == CmpOp.NotEq)))) { s with heap := s.heap, toks := s.toks }) :=
  .of_wp fun prog w A R s h => by obtain ⟨hp, g, d, tk, os⟩ := s; obtain ⟨hl, hb, h⟩ := h; have f1 := AutoSeq1.idx_int; have f2 := AutoSeq1.sub_tuple_tuple; have f3 := AutoSeq1.sub_list_list; have f4 := AutoSeq1.sub_tuple_list; have f5 := AutoSeq1.sub_list_tuple; wp_walk using wpAny_loadPart' hl, wpAny_loadPart' hb; exact ⟨_, rfl, h⟩

theorem Room.cl {n : Nat} {A : Around} (h : Room n A) : A.units + 64 < cLine := by have := h.2.2; omega
theorem Room.cl0 {n : Nat} {A : Around} (h : Room n A) : A.units < cLine := by have := h.2.2; omega

theorem str_beq_list (x y : Str) : (x.cps.toList == y.cps.toList) = (x == y) := by
  rw [str_beq]
  by_cases h : x = y
  · subst h; simp
  · rw [decide_eq_false h]
    apply beq_false_of_ne
    intro e
    apply h
    obtain ⟨a⟩ := x
    obtain ⟨b⟩ := y
    congr
    exact Array.toList_inj.mp e

section
variable {Γ : Gl} {F : List Addr} {μ : Mu} {s : Shared} {A : Around} {n : Nat}

theorem im_get {a : Addr} {o : Obj} (h : im F μ s.heap a o) : s.heap.get? a = some o := h.1
theorem deref_lst {v : Value} {p : PV} {l : List PV} (G : GS Γ F μ s) (hv : VR (im F μ s.heap) v p) (e : deref μ p = .lst l) :
    ∃ a vs n, v = .ref a ∧ IsL s.heap a vs.toArray n ∧ VRs (im F μ s.heap) vs l := by
  cases p with
  | ref a =>
    simp only [deref] at e
    cases h : μ a with
    | none => rw [h] at e; cases e
    | some m =>
      rw [h] at e
      cases m with
      | list l' =>
        cases e
        obtain ⟨vs, n, q, r⟩ := G.mo a _ h
        exact ⟨a, vs, n, hv.ref_inv, q, r⟩
      | _ => cases e
  | lst l' =>
    cases e
    obtain ⟨a, vs, n, rfl, q, r⟩ := hv.lst_inv
    exact ⟨a, vs, n, rfl, q.1, r⟩
  | _ => cases e
theorem deref_tup {v : Value} {p : PV} {l : List PV} (G : GS Γ F μ s) (hv : VR (im F μ s.heap) v p) (e : deref μ p = .tup l) :
    ∃ a vs n, v = .ref a ∧ IsT s.heap a vs.toArray n ∧ VRs (im F μ s.heap) vs l := by
  cases p with
  | ref a =>
    simp only [deref] at e
    cases h : μ a with
    | none => rw [h] at e; cases e
    | some m => rw [h] at e; cases m <;> cases e
  | tup l' =>
    cases e
    obtain ⟨a, vs, n, rfl, q, r⟩ := hv.tup_inv
    exact ⟨a, vs, n, rfl, q.1, r⟩
  | _ => cases e
theorem deref_reads {v : Value} {p : PV} (G : GS Γ F μ s) (hv : VR (im F μ s.heap) v p) (hd : pvData (deref μ p) = true) : ∃ as, Reads s.heap v (pvPy (deref μ p)) as := by
  cases h : deref μ p with
  | lst l =>
    rw [h] at hd
    obtain ⟨a, vs, n, rfl, q, r⟩ := deref_lst G hv h
    obtain ⟨as, z⟩ := r.reads (fun _ _ e => e.1) (by simpa [pvData] using hd)
    rw [pvPy]
    exact ⟨_, reads_list_at q rfl rfl (by simpa using z)⟩
  | ref a => rw [h] at hd; simp [pvData] at hd
  | _ =>
    have e : p = deref μ p := by
      cases p with
      | ref a =>
        simp only [deref] at h
        cases g : μ a with
        | none => rw [g] at h; cases h
        | some m => rw [g] at h; cases m <;> cases h
      | _ => rfl
    rw [← h, ← e]
    rw [← e] at hd
    exact hv.reads (fun _ _ e => e.1) hd

theorem shaped_of {p : PV} (h : dataOk p) : SeqAt.shaped (pvPy p) = true := by
  have q := pv_lay p h.1
  unfold SeqAt.shaped
  rw [q.1, Bool.true_and]
  have := h.2
  exact decide_eq_true (by have := q.2; omega)

inductive EqI (k : Bool → Prop) : PV → PV → Prop
  | int (a b : Int) : k (a == b) → EqI k (.int a) (.int b)
  | str (a b : Str) : k (a == b) → EqI k (.str a) (.str b)
  | nil (l : List PV) : k l.isEmpty → EqI k (.lst l) (.lst [])
  | data (p q : PV) : dataOk p → dataOk q → k (pvEq p q) → EqI k p q
theorem eqN_inv {p q : PV} {k : Bool → Prop} (h : eqN p q k) : EqI k p q := .data _ _ h.1 h.2.1 h.2.2
theorem eqVi_inv {a : Int} {q : PV} {k : Bool → Prop} (h : eqVi a k q) : EqI k (.int a) q := by
  cases q <;> first | exact eqN_inv h | exact .int _ _ h
theorem eqVs_inv {a : Str} {q : PV} {k : Bool → Prop} (h : eqVs a k q) : EqI k (.str a) q := by
  cases q <;> first | exact eqN_inv h | exact .str _ _ h
theorem eqVm_inv {l m : List PV} {k : Bool → Prop} (h : eqVm l k m) : EqI k (.lst l) (.lst m) := by
  cases m <;> first | exact eqN_inv h | exact .nil _ h
theorem eqVl_inv {l : List PV} {q : PV} {k : Bool → Prop} (h : eqVl l k q) : EqI k (.lst l) q := by
  cases q <;> first | exact eqN_inv h | exact eqVm_inv h
set_option tactic.hygienic true in
theorem eqV_inv {p q : PV} {k : Bool → Prop} (h : eqV p q k) : EqI k p q := by
  cases p <;> first | exact eqN_inv h | exact eqVi_inv h | exact eqVs_inv h | exact eqVl_inv h
theorem deref_ref {a : Addr} : deref μ (.ref a) = .ref a ∨ ∃ l, deref μ (.ref a) = .lst l := by
  rw [dr_ref]
  cases μ a with
  | none => exact .inl rfl
  | some m => cases m <;> first | exact .inr ⟨_, rfl⟩ | exact .inl rfl
set_option tactic.hygienic true in
theorem deref_int {p : PV} {a : Int} (e : deref μ p = .int a) : p = .int a := by
  cases p <;> first | exact e | skip
  rename_i b
  rcases deref_ref (μ := μ) (a := b) with h | ⟨l, h⟩ <;> rw [h] at e <;> cases e
set_option tactic.hygienic true in
theorem deref_str {p : PV} {a : Str} (e : deref μ p = .str a) : p = .str a := by
  cases p <;> first | exact e | skip
  rename_i b
  rcases deref_ref (μ := μ) (a := b) with h | ⟨l, h⟩ <;> rw [h] at e <;> cases e
theorem eq_sem {v u : Value} {p q : PV} {k : Bool → Prop} {K : Value → Shared → Prop} (hA : Room n A) (G : GS Γ F μ s) (hv : VR (im F μ s.heap) v p) (hu : VR (im F μ s.heap) u q)
    (h : eqV (deref μ p) (deref μ q) k) (hK : ∀ b, k b → K (.bool b) s) : wpAny (model Γ.prog Γ.w) A (compareOp .Eq v u) K (fun _ _ => False) s := by
  have data : dataOk (deref μ p) → dataOk (deref μ q) → k (pvEq (deref μ p) (deref μ q)) → wpAny (model Γ.prog Γ.w) A (compareOp .Eq v u) K (fun _ _ => False) s := by
    intro h1 h2 h3
    obtain ⟨as, ra⟩ := deref_reads G hv h1.1
    obtain ⟨bs, rb⟩ := deref_reads G hu h2.1
    exact eq_dataH ra rb (shaped_of h1) (shaped_of h2) hA.cl (by rw [pv_eqv _ _ h1.1 h2.1]; exact hK _ h3)
  have z := eqV_inv h
  generalize e1 : deref μ p = p' at z data
  generalize e2 : deref μ q = q' at z data
  cases z with
  | int a b h =>
    obtain ⟨t, rfl⟩ := (deref_int e1 ▸ hv).int_inv
    obtain ⟨t', rfl⟩ := (deref_int e2 ▸ hu).int_inv
    exact P.eq_int (hK _ h)
  | str a b h =>
    obtain ⟨t, rfl⟩ := (deref_str e1 ▸ hv).str_inv
    obtain ⟨t', rfl⟩ := (deref_str e2 ▸ hu).str_inv
    exact P.eq_str (by rw [str_beq_list]; exact hK _ h)
  | nil l h =>
    cases l with
    | nil => exact data ⟨rfl, by decide⟩ ⟨rfl, by decide⟩ h
    | cons x l =>
      obtain ⟨a, vs, m, rfl, q1, r1⟩ := deref_lst G hv e1
      obtain ⟨b, ws, m', rfl, q2, r2⟩ := deref_lst G hu e2
      refine P.eq_list_lengths q1 q2 ?_ hA.cl0 (hK _ h)
      have a1 := r1.length
      have a2 := r2.length
      simp [a1, a2]
  | data _ _ h1 h2 h3 => exact data h1 h2 h3
theorem ne_sem {v u : Value} {p q : PV} {k : Bool → Prop} {K : Value → Shared → Prop} (hA : Room n A) (G : GS Γ F μ s) (hv : VR (im F μ s.heap) v p) (hu : VR (im F μ s.heap) u q)
    (h : eqV (deref μ p) (deref μ q) fun b => k (!b)) (hK : ∀ b, k b → K (.bool b) s) : wpAny (model Γ.prog Γ.w) A (compareOp .NotEq v u) K (fun _ _ => False) s := by
  have data : dataOk (deref μ p) → dataOk (deref μ q) → k (!pvEq (deref μ p) (deref μ q)) → wpAny (model Γ.prog Γ.w) A (compareOp .NotEq v u) K (fun _ _ => False) s := by
    intro h1 h2 h3
    obtain ⟨as, ra⟩ := deref_reads G hv h1.1
    obtain ⟨bs, rb⟩ := deref_reads G hu h2.1
    exact ne_dataH ra rb (shaped_of h1) (shaped_of h2) hA.cl (by rw [pv_eqv _ _ h1.1 h2.1]; exact hK _ h3)
  have z := eqV_inv h
  generalize e1 : deref μ p = p' at z data
  generalize e2 : deref μ q = q' at z data
  cases z with
  | int a b h =>
    obtain ⟨t, rfl⟩ := (deref_int e1 ▸ hv).int_inv
    obtain ⟨t', rfl⟩ := (deref_int e2 ▸ hu).int_inv
    exact P.ne_int (hK _ h)
  | str a b h =>
    obtain ⟨t, rfl⟩ := (deref_str e1 ▸ hv).str_inv
    obtain ⟨t', rfl⟩ := (deref_str e2 ▸ hu).str_inv
    exact P.ne_str (by show K (.bool (!(a.cps.toList == b.cps.toList))) s; rw [str_beq_list]; exact hK _ h)
  | nil l h =>
    cases l with
    | nil => exact data ⟨rfl, by decide⟩ ⟨rfl, by decide⟩ h
    | cons x l =>
      obtain ⟨a, vs, m, rfl, q1, r1⟩ := deref_lst G hv e1
      obtain ⟨b, ws, m', rfl, q2, r2⟩ := deref_lst G hu e2
      have a1 := r1.length
      have a2 := r2.length
      exact richCompare_meets_room (op := .NotEq) ⟨_, q1, rfl⟩ ⟨_, q2, rfl⟩ PySem.F.slot_list_ne PySem.F.entry_list_ne (PySem.F.args_list_ne_2 _ _) (list_ne_len a vs.toArray m b ws.toArray m' (by simp [a1, a2]))
        ⟨q1, q2, show Value.bool (CmpOp.NotEq == CmpOp.NotEq) ≠ Value.notImplemented ∧ K (Value.bool (CmpOp.NotEq == CmpOp.NotEq)) s from ⟨(fun x => nomatch x), hK _ h⟩⟩ hA.cl0
  | data _ _ h1 h2 h3 => exact data h1 h2 h3

theorem pvEqs_any (p : PV) (hp : pvData p = true) : ∀ l : List PV, pvDatas l = true → ((pvPys l).any fun y => PyData.eqv y (pvPy p)) = l.any fun x => pvEq x p
  | [], _ => rfl
  | x :: l, h => by
    simp only [pvDatas, Bool.and_eq_true] at h
    simp only [pvPys, List.any_cons]
    rw [pv_eqv x p h.1 hp, pvEqs_any p hp l h.2]

set_option tactic.hygienic true in
theorem cmp_sem {op : CmpOp} {v u : Value} {p q : PV} {k : Bool → Prop} {K : Value → Shared → Prop} (hA : Room n A) (G : GS Γ F μ s) (hv : VR (im F μ s.heap) v p) (hu : VR (im F μ s.heap) u q)
    (h : cmpV op p q μ k) (hK : ∀ b, k b → K (.bool b) s) : wpAny (model Γ.prog Γ.w) A (compareOp op v u) K (fun _ _ => False) s := by
  cases op with
  | Lt =>
    cases p <;> first | exact h.elim | skip
    cases q <;> first | exact h.elim | skip
    obtain ⟨t, rfl⟩ := hv.int_inv
    obtain ⟨t', rfl⟩ := hu.int_inv
    exact P.lt_int (hK _ h)
  | LtE =>
    cases p <;> first | exact h.elim | skip
    cases q <;> first | exact h.elim | skip
    obtain ⟨t, rfl⟩ := hv.int_inv
    obtain ⟨t', rfl⟩ := hu.int_inv
    exact P.le_int (hK _ h)
  | Gt =>
    cases p <;> first | exact h.elim | skip
    cases q <;> first | exact h.elim | skip
    obtain ⟨t, rfl⟩ := hv.int_inv
    obtain ⟨t', rfl⟩ := hu.int_inv
    exact P.gt_int (hK _ h)
  | GtE =>
    cases p <;> first | exact h.elim | skip
    cases q <;> first | exact h.elim | skip
    obtain ⟨t, rfl⟩ := hv.int_inv
    obtain ⟨t', rfl⟩ := hu.int_inv
    exact P.ge_int (hK _ h)
  | Eq => exact eq_sem hA G hv hu h hK
  | NotEq => exact ne_sem hA G hv hu h hK
  | Is =>
    cases q <;> first | exact h.elim | skip
    have e := hu.none_inv
    subst e
    cases p <;> first | exact h.elim | skip
    · have e := hv.none_inv; subst e
      exact is_none_none (hK _ h)
    · obtain ⟨a, _, _, rfl, _⟩ := hv.tup_inv
      exact is_ref_none (hK _ h)
    · obtain ⟨a, _, _, rfl, _⟩ := hv.lst_inv
      exact is_ref_none (hK _ h)
    · have e := hv.ref_inv; subst e
      exact is_ref_none (hK _ h)
  | In =>
    rw [cv_in] at h
    cases e : deref μ q <;> rw [e] at h <;> first | exact False.elim h | skip
    · rename_i l
      obtain ⟨h1, h2, h3⟩ := h
      obtain ⟨as, ra⟩ := deref_reads (p := q) G hu (by rw [e]; exact h2.1)
      rw [e, pvPy] at ra
      obtain ⟨bs, rb⟩ := hv.reads (fun _ _ e => e.1) h1.1
      have hd : pvDatas l = true := by simpa [pvData] using h2.1
      have l1 := pvs_lay l hd
      have l2 := pv_lay p h1.1
      refine SeqAt.in_list_reads ra rb l1.1 l2.1 ?_ (by rw [pvEqs_any p h1.1 l hd]; exact hK _ h3)
      have := hA.cl
      have := h1.2
      have := Nat.min_le_right (PyData.depthAll (pvPys l)) (pvPy p).depth
      have := l2.2
      omega
  | _ => exact h.elim

theorem bin_sem {op : Operator} {v u : Value} {p q : PV} {Q : PV → Mu → Prop} (hA : Room n A) (G : GS Γ F μ s) (hv : VR (im F μ s.heap) v p) (hu : VR (im F μ s.heap) u q)
    (h : binV op p q μ Q) : wpAny (model Γ.prog Γ.w) A (binaryOp op v u) (Post Γ F s μ Q) (fun _ _ => False) s := by
  have hb := big_line
  cases op <;> cases p <;> first | exact h.elim | skip
  · cases q <;> first | exact h.elim | skip
    obtain ⟨t, rfl⟩ := hv.int_inv
    obtain ⟨t', rfl⟩ := hu.int_inv
    exact P.add_int (Post.here G h (.int _ _))
  · cases q <;> first | exact h.elim | skip
    obtain ⟨a, vs, m, rfl, q1, r1⟩ := hv.tup_inv
    obtain ⟨b, ws, m', rfl, q2, r2⟩ := hu.tup_inv
    obtain ⟨h1, h2⟩ := h
    have a1 := r1.length
    have a2 := r2.length
    cases vs with
    | nil =>
      cases r1
      exact concat_meets ⟨_, q1.1, rfl⟩ ⟨_, q2.1, rfl⟩ noFill_tuple_add seq_tuple_add PySem.F.slot_tuple_add PySem.F.entry_tuple_add (PySem.F.args_tuple_add_2 _ _) (AutoSeq1.tuple___add___tuple_tuple_0 a _ m b _ m' rfl) ⟨q1.1, q2.1, Post.here' G h2 hu⟩
    | cons x vs =>
      cases ws with
      | nil =>
        cases r2
        rw [List.append_nil] at h2
        exact concat_meets ⟨_, q1.1, rfl⟩ ⟨_, q2.1, rfl⟩ noFill_tuple_add seq_tuple_add PySem.F.slot_tuple_add PySem.F.entry_tuple_add (PySem.F.args_tuple_add_2 _ _) (AutoSeq1.tuple___add___tuple_tuple_1 a _ m b _ m' (by simp) rfl) ⟨q1.1, q2.1, Post.here' G h2 hv⟩
      | cons y ws =>
        refine P.add_tuple q1.1 q2.1 (by simp) (by simp) ?_ (by simp only [List.size_toArray]; omega)
        have e : ((x :: vs).toArray ++ (y :: ws).toArray) = ((x :: vs) ++ (y :: ws)).toArray := by simp
        rw [e]
        exact Post.pushed (tk := s.toks) G h2 rfl fun i hi hm => .tup hi ((r1.append r2).mono hm)
  · cases q <;> first | exact h.elim | skip
    obtain ⟨a, vs, m, rfl, q1, r1⟩ := hv.lst_inv
    obtain ⟨b, ws, m', rfl, q2, r2⟩ := hu.lst_inv
    obtain ⟨h1, h2⟩ := h
    have a1 := r1.length
    have a2 := r2.length
    refine P.add_list q1.1 q2.1 ?_ (by simp only [List.size_toArray]; omega)
    have e : (vs.toArray ++ ws.toArray) = (vs ++ ws).toArray := by simp
    rw [e]
    exact Post.pushed (tk := s.toks) G h2 rfl fun i hi hm => .lst hi ((r1.append r2).mono hm)
  · cases q <;> first | exact h.elim | skip
    obtain ⟨t, rfl⟩ := hv.int_inv
    obtain ⟨t', rfl⟩ := hu.int_inv
    exact P.sub_int (Post.here G h (.int _ _))
  · cases q <;> first | exact h.elim | skip
    obtain ⟨t, rfl⟩ := hv.int_inv
    obtain ⟨t', rfl⟩ := hu.int_inv
    exact P.mul_int (Post.here G h.2 (.int _ _)) h.1
  · cases q <;> first | exact h.elim | skip
    obtain ⟨t, rfl⟩ := hv.int_inv
    obtain ⟨t', rfl⟩ := hu.int_inv
    exact mod_int' h.1 (Post.here G h.2 (.int _ _))

theorem truth_sem {v : Value} {p : PV} {k : Bool → Prop} {K : Bool → Shared → Prop} (hv : VR (im F μ s.heap) v p) (h : truthV p k) (hK : ∀ b, k b → K b s) :
    wpAny (model Γ.prog Γ.w) A (truthy v) K (fun _ _ => False) s := by
  cases p <;> first | exact h.elim | skip
  · have e := hv.none_inv; subst e; exact truthy_none (hK _ h)
  · have e := hv.bool_inv; subst e; exact wpAny_truthy_bool (hK _ h)
  · obtain ⟨t, rfl⟩ := hv.int_inv; exact P.truthy_int (hK _ h)
end
end Mine

open PySem PySem.Calls PyProof.Rows PySem.W
set_option maxRecDepth 100000
set_option linter.unusedVariables false
set_option linter.unusedSectionVars false
set_option backward.match.sparseCases false
namespace Mine

inductive PostL (Γ : Gl) (F : List Addr) (s : Shared) (μ : Mu) (k : Nat) (Q : List PV → Mu → Prop) (vs : List Value) (s' : Shared) : Prop
  | mk (ps : List PV) (μ' : Mu) : Q ps μ' → ps.length = k → GS Γ F μ' s' → Step [] s μ s' μ' → VRs (im F μ' s'.heap) vs ps → PostL Γ F s μ k Q vs s'
noncomputable def TL (Γ : Gl) (n : Nat) (Φ : Fm) (ρ : Rho) (μ : Mu) (k : Nat) (t : Sem (List Value)) (Q : List PV → Mu → Prop) : Prop :=
  ∀ A s, Room n A → GS Γ Φ.F μ s → FR Φ ρ μ s → wpAny (model Γ.prog Γ.w) A t (PostL Γ Φ.F s μ k Q) (fun _ _ => False) s

section
variable {Γ : Gl} {n : Nat} {Φ : Fm} {ρ : Rho} {μ : Mu} {Q : PV → Mu → Prop} {QB : Bool → Mu → Prop} {A : Around} {s : Shared}

theorem TL.wp {QL : List PV → Mu → Prop} {k : Nat} (h : TL Γ n Φ ρ μ k t QL) (hA : Room n A) (G : GS Γ Φ.F μ s) (R : FR Φ ρ μ s) (ok : FmOk Γ Φ) {K : List Value → Shared → Prop}
    (hK : ∀ v s₁ p μ₁, QL p μ₁ → p.length = k → GS Γ Φ.F μ₁ s₁ → Step [] s μ s₁ μ₁ → FR Φ ρ μ₁ s₁ → VRs (im Φ.F μ₁ s₁.heap) v p → K v s₁) : wpAny (model Γ.prog Γ.w) A t K (fun _ _ => False) s :=
  wpAny_mono (h A s hA G R) (fun v s₁ ⟨p, μ₁, hq, hl, G₁, x, hv⟩ => hK v s₁ p μ₁ hq hl G₁ x (R.step ok G x) hv) fun _ _ e => e
theorem wp_trans {t : Sem Value} {s₁ : Shared} {μ₁ : Mu} {F : List Addr} (x : Step [] s μ s₁ μ₁) (h : wpAny (model Γ.prog Γ.w) A t (Post Γ F s₁ μ₁ Q) (fun _ _ => False) s₁) :
    wpAny (model Γ.prog Γ.w) A t (Post Γ F s μ Q) (fun _ _ => False) s₁ := wpAny_mono h (fun _ _ P => P.trans x) fun _ _ e => e
theorem wp_transB {t : Sem Bool} {s₁ : Shared} {μ₁ : Mu} {F : List Addr} (x : Step [] s μ s₁ μ₁) (h : wpAny (model Γ.prog Γ.w) A t (PostB Γ F s₁ μ₁ QB) (fun _ _ => False) s₁) :
    wpAny (model Γ.prog Γ.w) A t (PostB Γ F s μ QB) (fun _ _ => False) s₁ := wpAny_mono h (fun _ _ P => P.trans x) fun _ _ e => e
theorem PostB.here {b : Bool} {F : List Addr} (G : GS Γ F μ s) (hq : QB b μ) : PostB Γ F s μ QB b s := ⟨μ, hq, G, Step.refl⟩

variable (ok : FmOk Γ Φ)
include ok

theorem te_bin {op l r pos} (h : TE Γ n Φ ρ μ (eval l Φ.env) fun p μ₁ => TE Γ n Φ ρ μ₁ (eval r Φ.env) fun q μ₂ => binV op p q μ₂ Q) : TE Γ n Φ ρ μ (eval (.BinOp l op r pos) Φ.env) Q := fun A s hA G R =>
  wpAny_BinOp (h.wp hA G R ok fun v s₁ p μ₁ h₁ G₁ x R₁ hv => h₁.wp hA G₁ R₁ ok fun u s₂ q μ₂ h₂ G₂ y R₂ hu =>
    wp_trans (x.trans y) (bin_sem hA G₂ (hv.mono y.toIm0) hu h₂))
theorem te_neg {e pos} (h : TE Γ n Φ ρ μ (eval e Φ.env) fun p μ₁ => match p with | .int i => Q (.int (-i)) μ₁ | _ => False) : TE Γ n Φ ρ μ (eval (.UnaryOp .USub e pos) Φ.env) Q := fun A s hA G R =>
  wpAny_UnaryOp (h.wp hA G R ok fun v s₁ p μ₁ h₁ G₁ x R₁ hv => by
    cases p <;> first | exact h₁.elim | skip
    obtain ⟨t, rfl⟩ := hv.int_inv
    exact P.neg_int (Post.trans x (Post.here G₁ h₁ (.int _ _))))
theorem te_cmp {op l r pos} (hm : behindInMarks op r = false) (h : TE Γ n Φ ρ μ (eval l Φ.env) fun p μ₁ => TE Γ n Φ ρ μ₁ (eval r Φ.env) fun q μ₂ => cmpV op p q μ₂ fun b => Q (.bool b) μ₂) :
    TE Γ n Φ ρ μ (eval (.Compare l [op] [r] pos) Φ.env) Q := fun A s hA G R =>
  wpAny_Compare1 (h.wp hA G R ok fun v s₁ p μ₁ h₁ G₁ x R₁ hv => h₁.wp hA G₁ R₁ ok fun u s₂ q μ₂ h₂ G₂ y R₂ hu =>
    cmp_sem hA G₂ (hv.mono y.toIm0) hu h₂ fun b hb => Post.trans (x.trans y) (Post.here' G₂ hb (.bool b))) hm
theorem tb_cmp {op l r pos whole} (hm : behindInMarks op r = false) (h : TE Γ n Φ ρ μ (eval l Φ.env) fun p μ₁ => TE Γ n Φ ρ μ₁ (eval r Φ.env) fun q μ₂ => cmpV op p q μ₂ fun b => QB b μ₂) :
    TB Γ n Φ ρ μ (isTrue (.Compare l [op] [r] pos) Φ.env whole) QB := fun A s hA G R =>
  wpAny_isTrue_Compare1 (h.wp hA G R ok fun v s₁ p μ₁ h₁ G₁ x R₁ hv => h₁.wp hA G₁ R₁ ok fun u s₂ q μ₂ h₂ G₂ y R₂ hu =>
    cmp_sem hA G₂ (hv.mono y.toIm0) hu h₂ fun b hb => wpAny_truthy_bool (PostB.trans (x.trans y) (PostB.here G₂ hb))) hm
theorem te_and {a b pos} (h : TE Γ n Φ ρ μ (eval a Φ.env) fun p μ₁ => truthV p fun c => if c then TE Γ n Φ ρ μ₁ (eval b Φ.env) Q else Q p μ₁) :
    TE Γ n Φ ρ μ (eval (.BoolOp .And [a, b] pos) Φ.env) Q := fun A s hA G R =>
  BoolOp_and (h.wp hA G R ok fun v s₁ p μ₁ h₁ G₁ x R₁ hv => truth_sem hv h₁ fun c hc => by
    cases c with
    | false => exact Post.trans x (Post.here' G₁ hc hv)
    | true => exact BoolOp_one (TE.wp hc hA G₁ R₁ ok fun u s₂ q μ₂ h₂ G₂ y R₂ hu => Post.trans (x.trans y) (Post.here' G₂ h₂ hu)))
theorem te_or {a b pos} (h : TE Γ n Φ ρ μ (eval a Φ.env) fun p μ₁ => truthV p fun c => if c then Q p μ₁ else TE Γ n Φ ρ μ₁ (eval b Φ.env) Q) :
    TE Γ n Φ ρ μ (eval (.BoolOp .Or [a, b] pos) Φ.env) Q := fun A s hA G R =>
  BoolOp_or (h.wp hA G R ok fun v s₁ p μ₁ h₁ G₁ x R₁ hv => truth_sem hv h₁ fun c hc => by
    cases c with
    | true => exact Post.trans x (Post.here' G₁ hc hv)
    | false => exact BoolOp_one (TE.wp hc hA G₁ R₁ ok fun u s₂ q μ₂ h₂ G₂ y R₂ hu => Post.trans (x.trans y) (Post.here' G₂ h₂ hu)))
theorem te_not {a pos} (h : TE Γ n Φ ρ μ (eval a Φ.env) fun p μ₁ => truthV p fun c => Q (.bool (!c)) μ₁) : TE Γ n Φ ρ μ (eval (.UnaryOp .Not a pos) Φ.env) Q := fun A s hA G R =>
  wpAny_UnaryOp (h.wp hA G R ok fun v s₁ p μ₁ h₁ G₁ x R₁ hv => not_of (truth_sem hv h₁ fun c hc => Post.trans x (Post.here' G₁ hc (.bool _))))
theorem te_ite {t a b pos} (h : TB Γ n Φ ρ μ (isTrue t Φ.env (eval t Φ.env)) fun c μ₁ => if c then TE Γ n Φ ρ μ₁ (eval a Φ.env) Q else TE Γ n Φ ρ μ₁ (eval b Φ.env) Q) :
    TE Γ n Φ ρ μ (eval (.IfExp t a b pos) Φ.env) Q := fun A s hA G R =>
  wpAny_IfExp (h.wp hA G R ok fun c s₁ μ₁ h₁ G₁ x R₁ => by
    cases c with
    | true => exact wp_trans x (TE.wp (t := eval a Φ.env) (Q := Q) h₁ hA G₁ R₁ ok fun u s₂ q μ₂ h₂ G₂ y R₂ hu => Post.trans y (Post.here' G₂ h₂ hu))
    | false => exact wp_trans x (TE.wp (t := eval b Φ.env) (Q := Q) h₁ hA G₁ R₁ ok fun u s₂ q μ₂ h₂ G₂ y R₂ hu => Post.trans y (Post.here' G₂ h₂ hu)))
theorem tb_plain {e : Expr} {whole : Sem Value} (he : isTrue e Φ.env whole = (do let v ← whole; standAt e.pos; holding [v] (truthy v))) (h : TE Γ n Φ ρ μ whole fun p μ₁ => truthV p fun b => QB b μ₁) :
    TB Γ n Φ ρ μ (isTrue e Φ.env whole) QB := fun A s hA G R =>
  wpAny_isTrue_value (h.wp hA G R ok fun v s₁ p μ₁ h₁ G₁ x R₁ hv => truth_sem hv h₁ fun c hc => PostB.trans x (PostB.here G₁ hc)) he
theorem tb_not {a pos whole} (h : TB Γ n Φ ρ μ (isTrue a Φ.env (eval a Φ.env)) fun b μ₁ => QB (!b) μ₁) : TB Γ n Φ ρ μ (isTrue (.UnaryOp .Not a pos) Φ.env whole) QB := fun A s hA G R =>
  isTrue_not (h.wp hA G R ok fun c s₁ μ₁ h₁ G₁ x R₁ => PostB.trans x (PostB.here G₁ h₁))
theorem tb_and {a b pos whole} (h : TB Γ n Φ ρ μ (isTrue a Φ.env (eval a Φ.env)) fun c μ₁ => if c then TB Γ n Φ ρ μ₁ (isTrue b Φ.env (eval b Φ.env)) QB else QB false μ₁) :
    TB Γ n Φ ρ μ (isTrue (.BoolOp .And [a, b] pos) Φ.env whole) QB := fun A s hA G R =>
  isTrue_and (h.wp hA G R ok fun c s₁ μ₁ h₁ G₁ x R₁ => by
    cases c with
    | false => exact PostB.trans x (PostB.here G₁ h₁)
    | true => exact isTrue_and (TB.wp h₁ hA G₁ R₁ ok fun d s₂ μ₂ h₂ G₂ y R₂ => by
        cases d with
        | false => exact PostB.trans (x.trans y) (PostB.here G₂ h₂)
        | true => exact isTrue_and_nil (PostB.trans (x.trans y) (PostB.here G₂ h₂))))
theorem tb_or {a b pos whole} (h : TB Γ n Φ ρ μ (isTrue a Φ.env (eval a Φ.env)) fun c μ₁ => if c then QB true μ₁ else TB Γ n Φ ρ μ₁ (isTrue b Φ.env (eval b Φ.env)) QB) :
    TB Γ n Φ ρ μ (isTrue (.BoolOp .Or [a, b] pos) Φ.env whole) QB := fun A s hA G R =>
  isTrue_or (h.wp hA G R ok fun c s₁ μ₁ h₁ G₁ x R₁ => by
    cases c with
    | true => exact PostB.trans x (PostB.here G₁ h₁)
    | false => exact isTrue_or (TB.wp h₁ hA G₁ R₁ ok fun d s₂ μ₂ h₂ G₂ y R₂ => by
        cases d with
        | true => exact PostB.trans (x.trans y) (PostB.here G₂ h₂)
        | false => exact isTrue_or_nil (PostB.trans (x.trans y) (PostB.here G₂ h₂))))
theorem tb_ite {t a b pos whole} (h : TB Γ n Φ ρ μ (isTrue t Φ.env (eval t Φ.env)) fun c μ₁ => if c then TB Γ n Φ ρ μ₁ (isTrue a Φ.env (eval a Φ.env)) QB else TB Γ n Φ ρ μ₁ (isTrue b Φ.env (eval b Φ.env)) QB) :
    TB Γ n Φ ρ μ (isTrue (.IfExp t a b pos) Φ.env whole) QB := fun A s hA G R =>
  isTrue_IfExp (h.wp hA G R ok fun c s₁ μ₁ h₁ G₁ x R₁ => by
    cases c with
    | true => exact TB.wp (t := isTrue a Φ.env (eval a Φ.env)) (Q := QB) h₁ hA G₁ R₁ ok fun u s₂ μ₂ h₂ G₂ y R₂ => PostB.trans (x.trans y) (PostB.here G₂ h₂)
    | false => exact TB.wp (t := isTrue b Φ.env (eval b Φ.env)) (Q := QB) h₁ hA G₁ R₁ ok fun u s₂ μ₂ h₂ G₂ y R₂ => PostB.trans (x.trans y) (PostB.here G₂ h₂))

noncomputable def TC (Γ : Gl) (n : Nat) (Φ : Fm) (ρ : Rho) (μ : Mu) (p : PV) (ops : List CmpOp) (es : List Expr) (Q : Bool → Mu → Prop) : Prop :=
  ∀ A s v pos, Room n A → GS Γ Φ.F μ s → FR Φ ρ μ s → VR (im Φ.F μ s.heap) v p → wpAny (model Γ.prog Γ.w) A (testChain pos v ops (evalEach es Φ.env)) (PostB Γ Φ.F s μ Q) (fun _ _ => False) s
theorem tc_last {p : PV} {op : CmpOp} {e : Expr} (h : TE Γ n Φ ρ μ (eval e Φ.env) fun q μ₁ => cmpV op p q μ₁ fun b => QB b μ₁) : TC Γ n Φ ρ μ p [op] [e] QB := fun A s v pos hA G R hv =>
  test_last (h.wp hA G R ok fun u s₁ q μ₁ h₁ G₁ x R₁ hu => cmp_sem hA G₁ (hv.mono x.toIm0) hu h₁ fun b hb => wpAny_truthy_bool (PostB.trans x (PostB.here G₁ hb)))
theorem tc_link {p : PV} {op op' : CmpOp} {ops : List CmpOp} {e e' : Expr} {es : List Expr}
    (h : TE Γ n Φ ρ μ (eval e Φ.env) fun q μ₁ => cmpV op p q μ₁ fun b => if b then TC Γ n Φ ρ μ₁ q (op' :: ops) (e' :: es) QB else QB false μ₁) : TC Γ n Φ ρ μ p (op :: op' :: ops) (e :: e' :: es) QB := fun A s v pos hA G R hv =>
  test_link (h.wp hA G R ok fun u s₁ q μ₁ h₁ G₁ x R₁ hu => cmp_sem hA G₁ (hv.mono x.toIm0) hu h₁ fun b hb => wpAny_truthy_bool (by
    cases b with
    | false => exact PostB.trans x (PostB.here G₁ hb)
    | true => exact wp_transB x (hb A s₁ u pos hA G₁ R₁ hu)))
theorem tb_chain {a op1 op2 ops e1 e2 es pos whole} (hm : lastMarks (op1 :: op2 :: ops) (e1 :: e2 :: es) = false)
    (h : TE Γ n Φ ρ μ (eval a Φ.env) fun p μ₁ => TC Γ n Φ ρ μ₁ p (op1 :: op2 :: ops) (e1 :: e2 :: es) QB) : TB Γ n Φ ρ μ (isTrue (.Compare a (op1 :: op2 :: ops) (e1 :: e2 :: es) pos) Φ.env whole) QB := fun A s hA G R =>
  isTrue_chain (h.wp hA G R ok fun v s₁ p μ₁ h₁ G₁ x R₁ hv => wp_transB x (h₁ A s₁ v pos hA G₁ R₁ hv)) hm

theorem tl_nil {QL : List PV → Mu → Prop} (h : QL [] μ) : TL Γ n Φ ρ μ 0 (spliced []) QL := fun A s hA G R => spliced_nil ⟨[], μ, h, rfl, G, Step.refl, .nil⟩
theorem tl_cons {QL : List PV → Mu → Prop} {k : Nat} {t : Sem Value} {ts : List (Bool × Sem Value)} (h : TE Γ n Φ ρ μ t fun p μ₁ => TL Γ n Φ ρ μ₁ k (spliced ts) fun ps μ₂ => QL (p :: ps) μ₂) :
    TL Γ n Φ ρ μ (k + 1) (spliced ((false, t) :: ts)) QL := fun A s hA G R =>
  spliced_cons (h.wp hA G R ok fun v s₁ p μ₁ h₁ G₁ x R₁ hv => TL.wp h₁ hA G₁ R₁ ok fun vs s₂ ps μ₂ h₂ hl G₂ y R₂ hvs =>
    ⟨p :: ps, μ₂, h₂, by simp [hl], G₂, x.trans y, .cons (hv.mono y.toIm0) hvs⟩)
theorem te_tup {es k pos k'} (hk : k ≤ 1000) (h : TL Γ n Φ ρ μ k (spliced (backTo pos (starEach es Φ.env))) fun ps μ₁ => Q (.tup ps) μ₁) : TE Γ n Φ ρ μ (eval (.Tuple es k' pos) Φ.env) Q := fun A s hA G R =>
  Tuple_ (h.wp hA G R ok fun vs s₁ ps μ₁ h₁ hl G₁ x R₁ hv => wpAny_newTuple (Post.trans x (Post.pushed (tk := s₁.toks) G₁ h₁ rfl fun i hi hm => .tup hi (hv.mono hm)))
    (by rw [hv.length, hl, sizeLine_eq]; omega))
theorem te_lst {es k pos} (hk : k ≤ 1000) (h : TL Γ n Φ ρ μ k (spliced (backTo pos (starEach es Φ.env))) fun ps μ₁ => newL ps μ₁ Q) : TE Γ n Φ ρ μ (eval (.List es pos) Φ.env) Q := fun A s hA G R =>
  List_ (h.wp hA G R ok fun vs s₁ ps μ₁ h₁ hl G₁ x R₁ hv => wpAny_newList (Post.trans x (Post.newL (tk := s₁.toks) G₁ h₁ hv))
    (by rw [hv.length, hl, sizeLine_eq]; omega))
end
end Mine

open PySem PySem.Calls PyProof.Rows PySem.W
set_option maxRecDepth 100000
set_option linter.unusedVariables false
set_option linter.unusedSectionVars false
set_option backward.match.sparseCases false
namespace Mine

theorem nth_eq : ∀ (l : List PV) (i : Nat), nth l i = l[i]?
  | [], _ => by simp [nth]
  | _ :: _, 0 => by simp [nth]
  | _ :: r, i + 1 => by simpa [nth] using nth_eq r i

theorem itemAt_seq {l : List PV} {j : Int} {p : PV} (h : itemAt l j = some p) : ∃ k : Nat, seqIndex? j l.length = some k ∧ l[k]? = some p ∧ k < l.length ∧ (0 ≤ j → j.toNat = k) ∧ (j < 0 → (j + l.length).toNat = k ∧ -(l.length : Int) ≤ j) := by
  unfold itemAt at h
  split at h
  · rename_i h0
    rw [nth_eq] at h
    have hl := (List.getElem?_eq_some_iff.mp h).1
    refine ⟨j.toNat, ?_, h, hl, fun _ => rfl, fun h1 => by omega⟩
    unfold seqIndex?
    dsimp only
    rw [if_neg (by omega : ¬ j < 0)]
    rw [if_pos (by simp; omega)]
  · rename_i h0
    split at h
    · rename_i h1
      rw [nth_eq] at h
      have hl := (List.getElem?_eq_some_iff.mp h).1
      refine ⟨_, ?_, h, hl, fun h2 => absurd h2 h0, fun _ => ⟨by congr 1; omega, by omega⟩⟩
      unfold seqIndex?
      dsimp only
      rw [if_pos (by omega : j < 0)]
      rw [if_pos (by simp; omega)]
      congr 2; omega
    · cases h

theorem lookS_kvr {κ : Type} [DecidableEq κ] {i : Im} {x : κ} {p : PV} {kvs : List (κ × Value)} {es : List (κ × PV)} (h : KVR i kvs es) (hl : lookS x es = some p) : ∃ v, valueAt kvs x = some v ∧ VR i v p := by
  induction h with
  | nil => cases hl
  | @cons k v' p' vs l q r ih =>
    by_cases e : k = x
    · have hl : (if k = x then some p' else lookS x l) = some p := hl
      rw [if_pos e] at hl
      cases hl
      exact ⟨_, by simp [valueAt, e], q⟩
    · have hl : (if k = x then some p' else lookS x l) = some p := hl
      rw [if_neg e] at hl
      obtain ⟨v, h1, h2⟩ := ih hl
      refine ⟨v, ?_, h2⟩
      unfold valueAt at h1 ⊢
      rw [List.find?_cons_of_neg (by simpa using e)]
      exact h1
theorem kvr_map {κ : Type} [DecidableEq κ] {i : Im} {x : κ} {v : Value} {p : PV} (hv : VR i v p) {kvs : List (κ × Value)} {es : List (κ × PV)} (hr : KVR i kvs es) (hn : (es.map (·.1)).Nodup) (h : kvs.any (fun kv => kv.1 = x) = true) :
    KVR i (kvs.map (fun kv => if kv.1 = x then (kv.1, v) else kv)) (putS x p es) := by
  have e2 : ∀ {k : κ} {kvs : List (κ × Value)} {es : List (κ × PV)}, KVR i kvs es → k ∉ es.map (·.1) → (kvs.map fun kv => if kv.1 = k then (kv.1, v) else kv) = kvs := by
    intro k kvs es hr
    induction hr with
    | nil => intro _; rfl
    | cons q' r' ih =>
      intro hm
      simp only [List.map_cons, List.mem_cons, not_or] at hm
      rw [List.map_cons, ih hm.2, if_neg (fun z => hm.1 z.symm)]
  induction hr with
  | nil => cases h
  | @cons k _ p' vs l q r ih =>
    simp only [List.map_cons, List.nodup_cons] at hn
    show KVR i _ (if k = x then (k, p) :: l else (k, p') :: putS x p l)
    by_cases e : k = x
    · subst e
      rw [if_pos rfl, List.map_cons, e2 r hn.1]
      simp only [if_true]
      exact .cons hv r
    · rw [if_neg e, List.map_cons, if_neg e]
      refine .cons q (ih hn.2 ?_)
      simpa [e] using h
theorem kvr_keys {κ : Type} {i : Im} {kvs : List (κ × Value)} {es : List (κ × PV)} (h : KVR i kvs es) : kvs.map (·.1) = es.map (·.1) := by
  induction h with
  | nil => rfl
  | cons q r ih => exact congrArg (_ :: ·) ih
theorem kvr_append {κ : Type} {i : Im} {k : κ} {v : Value} {p : PV} (hv : VR i v p) : ∀ {kvs : List (κ × Value)} {es : List (κ × PV)}, KVR i kvs es → KVR i (kvs ++ [(k, v)]) (es ++ [(k, p)])
  | _, _, .nil => .cons hv .nil
  | _, _, .cons q r => .cons q (kvr_append hv r)
theorem putS_new {κ : Type} [DecidableEq κ] {x : κ} {p : PV} : ∀ {es : List (κ × PV)}, x ∉ es.map (·.1) → putS x p es = es ++ [(x, p)]
  | [], _ => rfl
  | (k, q) :: es, h => by
    simp only [List.map_cons, List.mem_cons, not_or] at h
    unfold putS
    rw [if_neg (fun e => h.1 e.symm), putS_new h.2]; rfl
theorem kvr_stored {κ : Type} [DecidableEq κ] {i : Im} {x : κ} {v : Value} {p : PV} (hv : VR i v p) {kvs : List (κ × Value)} {es : List (κ × PV)} (r : KVR i kvs es) (hn : (kvs.map (·.1)).Nodup) : KVR i (stored kvs x v) (putS x p es) := by
  unfold stored
  split
  · rename_i h
    exact kvr_map hv r (kvr_keys r ▸ hn) h
  · rename_i h
    rw [putS_new]
    · exact kvr_append hv r
    · rw [← kvr_keys r]
      intro hm
      apply h
      obtain ⟨kv, h1, h2⟩ := List.mem_map.mp hm
      exact List.any_eq_true.mpr ⟨kv, h1, by simpa using h2⟩

section
variable {Γ : Gl} {n : Nat} {F : List Addr} {μ : Mu} {Q : PV → Mu → Prop} {A : Around} {s : Shared}

set_option tactic.hygienic true in
theorem subscripted_plain {e : Expr} (he : ∀ lo hi p, e ≠ .Slice lo hi none p) (o i : Value) : subscripted e false o i = operate [o, i] (getItem o i) := by
  cases e <;> first | rfl | skip
  rename_i lo hi st p
  cases st with
  | none => exact absurd rfl (he lo hi p)
  | some _ => rfl

theorem sub_sem {value slice : Expr} {v u : Value} {p q : PV} (he : ∀ lo hi p, slice ≠ .Slice lo hi none p) (G : GS Γ F μ s) (hv : VR (im F μ s.heap) v p) (hu : VR (im F μ s.heap) u q)
    (h : subV p q μ fun r => Q r μ) : wpAny (model Γ.prog Γ.w) A (subscriptTail value slice v u) (Post Γ F s μ Q) (fun _ _ => False) s := by
  have lst : ∀ {l a vs m j t}, IsL s.heap a (List.toArray vs) m → VRs (im F μ s.heap) vs l → (j.natAbs ≤ big ∧ ∃ r, itemAt l j = some r ∧ Q r μ) →
      wpAny (model Γ.prog Γ.w) A (subscriptTail value slice (.ref a) (.int j t)) (Post Γ F s μ Q) (fun _ _ => False) s := by
    intro l a vs m j t hl hr ⟨hz, r, h1, h2⟩
    unfold big at hz
    obtain ⟨k, e1, e2, e3, e4, e5⟩ := itemAt_seq h1
    obtain ⟨y, hy, hyr⟩ := hr.get e2
    have hlen := hr.length
    have fin : Post Γ F s μ Q y s := Post.here' G h2 hyr
    refine tail_any (Heap.IsList.typeIs hl.isList) slot_list_getitem.lookup ?_ (subscripted_plain he _ _)
    by_cases h0 : 0 ≤ j
    · exact wpAny_getItem_list hl.isList h0 (by have := e4 h0; omega) (by rw [e4 h0]; simpa using hy) fin
    · have := e5 (by omega)
      exact wpAny_getItem_list_neg hl.isList (by omega) (by simp [hlen]; omega) (by omega) (by simp only [List.size_toArray, hlen]; rw [this.1]; simpa using hy) fin
  cases h with
  | tup hz h1 h2 =>
    obtain ⟨a, vs, m, rfl, q1, r1⟩ := hv.tup_inv
    obtain ⟨t, rfl⟩ := hu.int_inv
    unfold big at hz
    obtain ⟨k, e1, e2, e3, e4, e5⟩ := itemAt_seq h1
    obtain ⟨y, hy, hyr⟩ := r1.get e2
    have hlen := r1.length
    have hlt := Heap.lt_size q1.1
    refine tail_any (T := "tuple") ⟨_, q1.1, rfl⟩ PySem.F.slot_tuple_getitem.lookup ?_ (subscripted_plain he _ _)
    refine P.getItem_tuple q1.1 (by omega) (by omega) (by simp only [List.size_toArray, hlen]; exact e1) (by simpa using hy) (Post.here' G h2 hyr)
  | lst hz h1 h2 =>
    obtain ⟨a, vs, m, rfl, q1, r1⟩ := hv.lst_inv
    obtain ⟨t, rfl⟩ := hu.int_inv
    exact lst q1.1 r1 ⟨hz, _, h1, h2⟩
  | list hm hz h1 h2 =>
    have e := hv.ref_inv
    subst e
    obtain ⟨t, rfl⟩ := hu.int_inv
    obtain ⟨vs, k, q1, r1⟩ := G.mo _ _ hm
    exact lst q1 r1 ⟨hz, _, h1, h2⟩
  | idict hm h1 h2 =>
    have e := hv.ref_inv
    subst e
    obtain ⟨t, rfl⟩ := hu.int_inv
    obtain ⟨kvs, q1, r1⟩ := G.mo _ _ hm
    obtain ⟨y, hy, hyr⟩ := lookS_kvr r1 h1
    exact tail_any q1.typeIs slot_dict_getitem.lookup (wpAny_getItem_of (intKind_is _ _ _ _) q1.mapOf hy (Post.here G h2 hyr)) (subscripted_plain he _ _)
  | imap hm h1 h2 =>
    have e := hv.ref_inv
    subst e
    obtain ⟨t, rfl⟩ := hu.int_inv
    obtain ⟨kvs, q1, r1⟩ := G.mo _ _ hm
    obtain ⟨y, hy, hyr⟩ := lookS_kvr r1 h1
    exact tail_any q1.typeIs slot_dict_getitem.lookup (wpAny_getItem_of (intKind_is _ _ _ _) q1.mapOf hy (Post.here G h2 hyr)) (subscripted_plain he _ _)
  | sdict hm h1 h2 =>
    have e := hv.ref_inv
    subst e
    obtain ⟨t, rfl⟩ := hu.str_inv
    obtain ⟨kvs, q1, r1⟩ := G.mo _ _ hm
    obtain ⟨y, hy, hyr⟩ := lookS_kvr r1 h1
    exact tail_any q1.typeIs slot_dict_getitem.lookup (wpAny_getItem_of (strKind_is _ _ _ _) q1.mapOf hy (Post.here G h2 hyr)) (subscripted_plain he _ _)
end
end Mine

open PySem PySem.Calls PyProof.Rows PySem.W
set_option maxRecDepth 100000
set_option linter.unusedVariables false
set_option linter.unusedSectionVars false
set_option backward.match.sparseCases false
namespace Mine

inductive PostU (Γ : Gl) (F : List Addr) (s : Shared) (μ : Mu) (Q : Mu → Prop) (s' : Shared) : Prop
  | mk (μ' : Mu) : Q μ' → GS Γ F μ' s' → Step [] s μ s' μ' → PostU Γ F s μ Q s'

theorem lookS_putS {x y : Str} {p : PV} : ∀ es : List (Str × PV), lookS y (putS x p es) = if y = x then some p else lookS y es
  | [] => by
    by_cases h : y = x
    · subst h; simp [putS, lookS]
    · simp [putS, lookS, h, Ne.symm h]
  | (k, q) :: es => by
    unfold putS
    by_cases h : k = x
    · subst h
      rw [if_pos rfl]
      by_cases h2 : y = k
      · subst h2; simp [lookS]
      · simp [lookS, h2, Ne.symm h2]
    · rw [if_neg h]
      unfold lookS
      by_cases h2 : k = y
      · subst h2; simp [h]
      · rw [if_neg h2, lookS_putS es, if_neg h2]

theorem putS_length {x : Str} {p : PV} : ∀ es : List (Str × PV), (putS x p es).length = if (lookS x es).isSome then es.length else es.length + 1
  | [] => by simp [putS, lookS]
  | (k, q) :: es => by
    unfold putS lookS
    by_cases h : k = x
    · simp [h]
    · rw [if_neg h, if_neg h, List.length_cons, putS_length es]
      split <;> simp

theorem wp_nsSetZ {prog : Program} {w : World} {A : Around} {E : Value → Shared → Prop} {s : Shared} {a : Addr} {m : Str → Option Value} {N : Nat} {name : Str} {v : Value} {Q : Unit → Shared → Prop} (hn : Nz s.heap a m N) (hN : N ≤ 100)
    (hQ : ∀ h', Nz h' a (fun x => if x = name then some v else m x) (if (m name).isSome then N else N + 1) → Heap.SameBut a s.heap h' → (∃ o, h'.get? a = some o ∧ o.data.pastItsLine = none) → Q () { s with heap := h', toks := s.toks + 1 }) :
    wpAny (model prog w) A (nsSet a name v) Q E s := by
  obtain ⟨o, es, ep, ho, hd, hk, hm, hz⟩ := hn
  have hany : es.any (·.refKey) = false := by
    rw [Array.any_eq_false']; intro e he; obtain ⟨n, t, h⟩ := hk e he; simp [DictEntry.refKey, h]
  have key : ∃ es' ep', (s.heap.update a (Obj.putName name (PyData.keyHash w.params name) (.str name s.toks) v)).get? a = some { o with data := .dict es' ep' } ∧ StrKeys es' ∧ (∀ x, nsFind es' x = if x = name then some v else m x) ∧ es'.size = if (m name).isSome then N else N + 1 := by
    obtain ⟨c, d, dt, sl⟩ := o
    subst hd
    have hf := hm name
    cases hi : es.findIdx? (·.key.isStr name) with
    | some i =>
      refine ⟨es.modify i fun e => ⟨e.hash, e.key, v⟩, ep, Heap.get?_update_self _ ho (by simp only [Obj.putName_eq, Obj.putNameByArray, hi]; rfl) |>.trans (by simp only [Obj.putName_eq, Obj.putNameByArray, hi]), hk.modify _ _, fun x => ?_, ?_⟩
      · rw [← hm]; exact findBy_modify (fun n v => v.isStr n) Value.isStr_inj es name x v i hi
      · have : (m name).isSome = true := by
          rw [← hf]
          unfold nsFind findBy
          rw [Option.isSome_map, Array.find?_isSome]
          obtain ⟨hlt, hp, _⟩ := Array.findIdx?_eq_some_iff_getElem.mp hi
          exact ⟨_, Array.getElem_mem hlt, hp⟩
        rw [if_pos this, Array.size_modify, hz]
    | none =>
      refine ⟨es.push ⟨PyData.keyHash w.params name, .str name s.toks, v⟩, ep + 1, Heap.get?_update_self _ ho (by simp only [Obj.putName_eq, Obj.putNameByArray, hi]; rfl) |>.trans (by simp only [Obj.putName_eq, Obj.putNameByArray, hi]), hk.push _ _ _ _, fun x => ?_, ?_⟩
      · rw [← hm]
        exact findBy_push (fun n v => v.isStr n) es name x _ _ v (fun y => by
          show (name == y) = decide (y = name)
          by_cases h : y = name
          · subst h; simp
          · have : ¬ name = y := fun e => h e.symm
            simp [h, this]) hi
      · have : (m name).isSome = false := by
          rw [← hf]
          unfold nsFind findBy
          rw [Option.isSome_map, Option.isSome_eq_false_iff, Option.isNone_iff_eq_none, Array.find?_eq_none]
          intro e he hh
          rw [Array.findIdx?_eq_none_iff] at hi
          have z := hi e he
          exact absurd (z.symm.trans hh) Bool.false_ne_true
        rw [this, Array.size_push, hz]; rfl
  obtain ⟨es', ep', g1, g2, g3, g4⟩ := key
  unfold nsSet
  refine wpAny_bind (wpAny_bind (wpAny_askSetting (wpAny_pure ?_)))
  refine wpAny_bind (wpAny_mkText (wpAny_bind (wpAny_loadPart ho ?_)))
  rw [hd]
  dsimp only
  rw [aRefKeyMayBeTheName_at, hany, Bool.and_false]
  refine wpAny_updatePart ho ?_
  exact hQ _ ⟨_, es', ep', g1, rfl, g2, g3, g4⟩ (Heap.SameBut.update ..) ⟨_, g1, pastItsLine_dict (by rw [g4, sizeLine_eq]; split <;> omega)⟩

theorem lookIn_ns {h : Heap} {d : Addr} {m : Str → Option Value} (hn : h.Ns d m) : ∃ od, h.get? d = some od ∧ ∀ x, lookIn x od = some (m x) := by
  obtain ⟨o, es, ep, e, hd, hk, hf⟩ := hn
  refine ⟨o, e, fun x => ?_⟩
  unfold lookIn
  rw [hd]
  dsimp only
  rw [← hf x]
  unfold nsFind findBy
  rw [← Array.find?_toList]
  cases q : List.find? (fun e => e.key.isStr x) es.toList with
  | some e => rfl
  | none =>
    rw [if_neg]
    · rfl
    · intro h
      obtain ⟨e, he, hr⟩ := List.any_eq_true.mp h
      obtain ⟨n, t, ek⟩ := hk e (Array.mem_toList_iff.mp he)
      rw [DictEntry.refKey, ek] at hr
      cases hr

section
variable {Γ : Gl} {n : Nat} {F : List Addr} {μ : Mu} {Q : PV → Mu → Prop} {QU : Mu → Prop} {A : Around} {s : Shared}

theorem inst_at {x C d : Addr} {sl : Array (Option Value)} {od : Obj} (hx : im F μ s.heap x ⟨.ref C, some d, .plain, sl⟩) (hd : s.heap.get? d = some od) :
    InstAt s.heap x ⟨.ref C, some d, .plain, sl⟩ C (some od) := ⟨hx.1, rfl, rfl, hd⟩
theorem GS.K (G : GS Γ F μ s) : Γ.K.In s.heap := Γ.X.keeps G.keep

theorem handed_of {i : Im} {v : Value} {p : PV} (h : VR i v p) : handedIn v = true := by cases h <;> rfl

theorem attr_sem {v : Value} {p : PV} {k : Nat} {x : Str} {ex : Bool} (hx : attrNames[k]? = some x) (G : GS Γ F μ s) (hv : VR (im F μ s.heap) v p) (h : attrV p k μ fun r => Q r μ) :
    wpAny (model Γ.prog Γ.w) A (getAttr v x ex) (Post Γ F s μ Q) (fun _ _ => False) s := by
  cases h with
  | mk h0 hm hx' h1 h2 =>
  rw [hx] at hx'
  cases hx'
  obtain ⟨a, rfl, ha⟩ := hv.obj_inv
  obtain ⟨m, hn, hr⟩ := G.mo _ _ hm
  have z := hr x
  rw [h1] at z
  obtain ⟨y, my, hy⟩ := z
  obtain ⟨od, e, hl⟩ := lookIn_ns hn.ns
  have K := Γ.cls _ k h0 x hx
  obtain ⟨attr, k1, k2⟩ := K.look
  exact get_value G.K (inst_at ha e) (plainGet_of K.get).1 (findObj_own K.dict k1 k2 (by rw [hl, my])) (handed_of hy) (Post.here G h2 hy)

set_option tactic.hygienic true in
theorem setAttr_sem {v u : Value} {p r : PV} {k : Nat} {x : Str} (hx : attrNames[k]? = some x) (G : GS Γ F μ s) (hv : VR (im F μ s.heap) v p) (hu : VR (im F μ s.heap) u r) (h : setAttrV p k r μ QU) :
    wpAny (model Γ.prog Γ.w) A (setAttr v x u) (fun _ => PostU Γ F s μ QU) (fun _ _ => False) s := by
  cases h with
  | mk h0 hm hx' hz h =>
  rename_i C d sl es x'
  rw [hx] at hx'
  cases hx'
  obtain ⟨a, rfl, ha⟩ := hv.obj_inv
  obtain ⟨m, hn, hr⟩ := G.mo _ _ hm
  obtain ⟨od, e, hl⟩ := lookIn_ns hn.ns
  have K := Γ.cls _ k h0 x hx
  have I := inst_at ha e
  refine set_plain G.K I K.set (osa_open (s := { s with toks := s.toks + 1 }) G.K I K.over K.taker fun b => ?_)
  obtain ⟨cd, hc, hd'⟩ := any_some K.dict
  have X' : Γ.K.In ({ s with toks := s.toks + 1 } : Shared).heap := G.K
  refine wpAny_bind (wpAny_pure (wpAny_bind (wpAny_bind (wpAny_loadPart ha.1 (wpAny_bind ((looks_clsIn X' hc).here ?_))))))
  rw [hd']
  refine wpAny_pure (a := some _) (wpAny_bind (wpAny_pure (wpAny_bind ?_)))
  refine wp_nsSetZ (s := { s with toks := s.toks + 1 }) hn hz fun h' hn' hs ⟨ob, hob, hbl⟩ => ?_
  refine wpAny_bind (wpAny_lookBehind hob hbl (wpAny_pure ?_))
  have hlen : (putS x r es).length = if (m x).isSome then es.length else es.length + 1 := by
    rw [putS_length]
    have z := hr x
    cases q : lookS x es with
    | none => rw [q] at z; dsimp only at z; rw [z]; rfl
    | some p => rw [q] at z; obtain ⟨y, e1, _⟩ := z; rw [e1]; rfl
  refine ⟨_, h, G.upd hm hs fun i hi => ⟨_, by rw [hlen]; exact hn', fun y => ?_⟩, Step.upd hm hs ⟨_, hob⟩⟩
  rw [lookS_putS]
  by_cases hy : y = x
  · subst hy
    simp only [if_true]
    exact ⟨u, rfl, hu.mono hi⟩
  · simp only [if_neg hy]
    exact (hr.mono hi) y

set_option tactic.hygienic true in
theorem setItem_sem {v u w : Value} {p q r : PV} (G : GS Γ F μ s) (hv : VR (im F μ s.heap) v p) (hw : VR (im F μ s.heap) w q) (hu : VR (im F μ s.heap) u r) (h : setItemV p q r μ QU) :
    wpAny (model Γ.prog Γ.w) A (setItem v w u) (fun _ => PostU Γ F s μ QU) (fun _ _ => False) s := by
  have hb := big_line
  cases h with
  | list hm hk hlt hz h =>
      rename_i a l j k
      have e := hv.ref_inv; subst e
      obtain ⟨t, rfl⟩ := hw.int_inv
      obtain ⟨vs, m, q1, r1⟩ := G.mo a _ hm
      have hlen := r1.length
      have hz2 : l.length ≤ 2 ^ 62 := Nat.le_trans hz (by decide)
      have fin : ∀ k' : Nat, k' = k → PostU Γ F s μ QU { s with heap := s.heap.update a (Obj.mapSeq (·.setIfInBounds k' u)) } := by
        rintro k' rfl
        refine ⟨_, h, G.upd (tk := s.toks) hm (Heap.SameBut.update ..) fun i hi => ⟨vs.set k' u, m, ?_, VRs.set (hu.mono hi) (r1.mono hi) _⟩, Step.upd (tk := s.toks) hm (Heap.SameBut.update ..) ⟨_, PySem.IsL.update q1 (fun xs => xs.setIfInBounds k' u)⟩⟩
        have z := PySem.IsL.update q1 (fun xs => xs.setIfInBounds k' u)
        have e1 : vs.toArray.setIfInBounds k' u = (vs.set k' u).toArray := by simp
        rw [e1] at z
        simpa using z
      by_cases h0 : 0 ≤ j
      · rw [if_pos h0] at hk
        exact ki_setAt q1 h0 (by omega) (by simp only [List.size_toArray]; omega) (fin _ (by omega))
      · rw [if_neg h0] at hk
        exact ki_setBack q1 (by omega) (by simp only [List.size_toArray]; omega) (by omega) (fin _ (by simp only [List.size_toArray]; omega))
  | idict hm hz h =>
      rename_i a es j
      have e := hv.ref_inv; subst e
      obtain ⟨t, rfl⟩ := hw.int_inv
      obtain ⟨kvs, q1, r1⟩ := G.mo a _ hm
      have hl : kvs.length = es.length := by have := congrArg List.length (kvr_keys r1); simpa using this
      refine wpAny_setItem_pairs (intKind_is _ _ _ _) q1 (fun h' hd hs => ?_) (by omega)
      obtain ⟨_, _, _, _, _, _, _, _, hn⟩ := q1
      exact ⟨_, h, G.upd hm hs fun i hi => ⟨_, hd, kvr_stored (hu.mono hi) (r1.mono hi) hn⟩, Step.upd hm hs (by obtain ⟨o, _, _, e, _⟩ := hd; exact ⟨o, e⟩)⟩
  | sdict hm hz h =>
      rename_i a es x
      have e := hv.ref_inv; subst e
      obtain ⟨t, rfl⟩ := hw.str_inv
      obtain ⟨kvs, q1, r1⟩ := G.mo a _ hm
      have hl : kvs.length = es.length := by have := congrArg List.length (kvr_keys r1); simpa using this
      refine wpAny_setItem_pairs (strKind_is _ _ _ _) q1 (fun h' hd hs => ?_) (by omega)
      obtain ⟨_, _, _, _, _, _, _, _, hn⟩ := q1
      exact ⟨_, h, G.upd hm hs fun i hi => ⟨_, hd, kvr_stored (hu.mono hi) (r1.mono hi) hn⟩, Step.upd hm hs (by obtain ⟨o, _, _, e, _⟩ := hd; exact ⟨o, e⟩)⟩
end
end Mine

open PySem PySem.Calls PyProof.Rows PySem.W
set_option maxRecDepth 100000
set_option linter.unusedVariables false
set_option linter.unusedSectionVars false
set_option backward.match.sparseCases false
namespace Mine

noncomputable def plainBase : Expr → Bool
  | .Call (.Name _ _) [] [] _ => false
  | _ => true
set_option tactic.hygienic true in
theorem base_plain {o : Expr} (h : plainBase o = true) (attr : Str) (env : Env) (t : Sem Value) : attributeBase o attr env t = t := by
  cases o <;> first | rfl | skip
  rename_i f as ks _
  cases f <;> first | rfl | skip
  cases as <;> first | rfl | skip
  cases ks <;> first | rfl | exact ff h

noncomputable def plainArgs : List Expr → Bool
  | [] => true
  | .Starred _ _ :: _ => false
  | _ :: r => plainArgs r
theorem star_plain {env : Env} {pos : Pos} : ∀ {es : List Expr}, plainArgs es = true → backTo pos (starEach es env) = (es.map fun e => (false, eval e env))
  | [], _ => rfl
  | e :: r, h => by
    have h' : plainArgs r = true := by cases e <;> first | exact h | exact ff h
    have ih := star_plain (env := env) (pos := pos) h'
    have e1 : backTo pos (starEach (e :: r) env) = (false, eval e env) :: backTo pos (starEach r env) := by
      cases e <;> first | rfl | exact ff h
    rw [e1, ih]; rfl
theorem any_plain {env : Env} : ∀ {es : List Expr}, ((es.map fun e => ((false, eval e env) : Bool × Sem Value)).any (·.1)) = false
  | [] => rfl
  | e :: r => by simpa using any_plain (env := env) (es := r)
theorem all_plain {env : Env} : ∀ {es : List Expr}, ((es.map fun e => ((false, eval e env) : Bool × Sem Value)).all fun x => !x.1) = true
  | [] => rfl
  | e :: r => by simpa using all_plain (env := env) (es := r)

section
variable {Γ : Gl} {n : Nat} {Φ : Fm} {ρ : Rho} {μ : Mu} {Q : PV → Mu → Prop} {A : Around} {s : Shared} (ok : FmOk Γ Φ)
include ok

theorem te_sub {value slice pos} (he : ∀ lo hi p, slice ≠ .Slice lo hi none p) (h : TE Γ n Φ ρ μ (eval value Φ.env) fun p μ₁ => TE Γ n Φ ρ μ₁ (eval slice Φ.env) fun q μ₂ => subV p q μ₂ fun r => Q r μ₂) :
    TE Γ n Φ ρ μ (eval (.Subscript value slice pos) Φ.env) Q := fun A s hA G R =>
  Subscript_ (h.wp hA G R ok fun v s₁ p μ₁ h₁ G₁ x R₁ hv => h₁.wp hA G₁ R₁ ok fun u s₂ q μ₂ h₂ G₂ y R₂ hu =>
    wp_trans (x.trans y) (sub_sem he G₂ (hv.mono y.toIm0) hu h₂))

theorem te_attr {value pos k x} (hb : plainBase value = true) (hx : attrNames[k]? = some x) (h : TE Γ n Φ ρ μ (eval value Φ.env) fun p μ₁ => attrV p k μ₁ fun r => Q r μ₁) :
    TE Γ n Φ ρ μ (eval (.Attribute value x pos) Φ.env) Q := fun A s hA G R => by
  rw [arm_eval_Attribute, base_plain hb]
  refine wpAny_bind (h.wp hA G R ok fun v s₁ p μ₁ h₁ G₁ y R₁ hv => wpAny_bind (wpAny_standAt (wpAny_bind (wpAny_holding (wpAny_mono (wp_trans y (attr_sem hx G₁ hv h₁)) (fun r s₂ h₂ => ?_) fun _ _ e => e)))))
  exact wpAny_bind (wpAny_letTemporaryGo (wpAny_pure h₂))

theorem slice_sem {value : Expr} {lo hi : Option Expr} {p' : Pos} {v vl vu : Value} {p : PV} {l : List PV} {a b : Option Int} {r : List PV} (G : GS Γ Φ.F μ s) (hv : VR (im Φ.F μ s.heap) v p) (e : deref μ p = .lst l)
    (pl : IsPart vl a) (pu : IsPart vu b) (hz : l.length ≤ big) (hr : ∀ vs : List Value, vs.length = l.length → ∀ i, VRs i vs l → VRs i (slicePick vs.toArray a b none).toList r) (h : newL r μ Q) :
    wpAny (model Γ.prog Γ.w) A (subscriptTail value (.Slice lo hi none p') v (.ref s.heap.objs.size)) (Post Γ Φ.F s μ Q) (fun _ _ => False) { s with heap := s.heap.push { cls := .type "slice", data := .fields #[vl, vu, .none] } } := by
  obtain ⟨x, vs, m, rfl, q1, r1⟩ := deref_lst G hv e
  have he : ∀ b o', s.heap.get? b = some o' → (s.heap.push { cls := .type "slice", data := .fields #[vl, vu, .none] }).get? b = some o' := fun b o' e => Heap.get?_push_of_some _ e
  have y : Step [] s μ { s with heap := s.heap.push { cls := .type "slice", data := .fields #[vl, vu, .none] }, toks := s.toks } μ := Step.of_ext he
  have G' := GS.of_ext (tk := s.toks) G he
  have l1 := r1.length
  have hb := big_line
  refine tail_any (T := "list") ⟨_, IsL.push q1 _, rfl⟩ slot_list_getitem.lookup (wpAny_getItem_list_slice (IsL.push q1 _).isList (Heap.IsSliceOf.new ..) pl pu .none (by simp) ?_ (by simp only [List.size_toArray]; omega)) (by rfl)
  refine Post.trans y ?_
  have z := Post.newL (vs := (slicePick vs.toArray a b none).toList) (tk := s.toks) G' h (hr vs l1 _ (r1.mono y.toIm0))
  simpa using z

set_option tactic.hygienic true in
theorem te_slice_to {value hi pos p'} (h : TE Γ n Φ ρ μ (eval value Φ.env) fun p μ₁ => TE Γ n Φ ρ μ₁ (eval hi Φ.env) fun q μ₂ => sliceV p none (some q) μ₂ Q) :
    TE Γ n Φ ρ μ (eval (.Subscript value (.Slice none (some hi) none p') pos) Φ.env) Q := fun A s hA G R =>
  Subscript_ (h.wp hA G R ok fun v s₁ p μ₁ h₁ G₁ x R₁ hv => wpAny_Slice (wpAny_pure (h₁.wp hA G₁ R₁ ok fun u s₂ q μ₂ h₂ G₂ y R₂ hu => wpAny_pure (by
    cases h₂ with
    | hi e1 hz h0 h3 =>
      rename_i l b
      obtain ⟨t, rfl⟩ := hu.int_inv
      exact wpAny_mono (slice_sem ok (s := s₂) G₂ (hv.mono y.toIm0) e1 .none (.int b t) hz (fun vs hl i r => by
        have eb : b = (b.toNat : Int) := by omega
        rw [eb, slicePick_upto']
        simpa [← eb] using r.take b.toNat) h3) (fun _ _ P => P.trans (x.trans y)) fun _ _ e => e))))
set_option tactic.hygienic true in
theorem te_slice_from {value lo pos p'} (h : TE Γ n Φ ρ μ (eval value Φ.env) fun p μ₁ => TE Γ n Φ ρ μ₁ (eval lo Φ.env) fun q μ₂ => sliceV p (some q) none μ₂ Q) :
    TE Γ n Φ ρ μ (eval (.Subscript value (.Slice (some lo) none none p') pos) Φ.env) Q := fun A s hA G R =>
  Subscript_ (h.wp hA G R ok fun v s₁ p μ₁ h₁ G₁ x R₁ hv => wpAny_Slice (h₁.wp hA G₁ R₁ ok fun u s₂ q μ₂ h₂ G₂ y R₂ hu => wpAny_pure (wpAny_pure (by
    cases h₂ with
    | lo e1 hz h0 h3 =>
      rename_i l b
      obtain ⟨t, rfl⟩ := hu.int_inv
      exact wpAny_mono (slice_sem ok (s := s₂) G₂ (hv.mono y.toIm0) e1 (.int b t) .none hz (fun vs hl i r => by
        have eb : b = (b.toNat : Int) := by omega
        rw [eb, slicePick_from']
        simpa [← eb] using r.drop b.toNat) h3) (fun _ _ P => P.trans (x.trans y)) fun _ _ e => e))))

set_option tactic.hygienic true in
theorem te_append {o e apos pos} (hb' : plainBase o = true) (hs : plainArgs [e] = true) (hline : (apos.endLine == pos.line) = true)
    (h : TE Γ n Φ ρ μ (eval o Φ.env) fun p μ₁ => listRef p μ₁ ∧ TE Γ n Φ ρ μ₁ (eval e Φ.env) fun q μ₂ => appendV p q μ₂ Q) :
    TE Γ n Φ ρ μ (eval (.Call (.Attribute o "append" apos) [e] [] pos) Φ.env) Q := fun A s hA G R => by
  have hb := big_line
  have hst := star_plain (env := Φ.env) (pos := pos) hs
  refine wpAny_Call_method (base_plain hb' _ _ _) (by rw [hst]; rfl) hline PySem.F.plainAttrs_list PySem.F.slot_list_append PySem.F.type_list_append ?_
  rw [hst]
  refine h.wp hA G R ok fun v s₁ p μ₁ h₁ G₁ x R₁ hv => ?_
  obtain ⟨h₀, h₁⟩ := h₁
  cases h₀ with
  | mk hm =>
  rename_i a l
  have e := hv.ref_inv; subst e
  obtain ⟨vs, m, q1, r1⟩ := G₁.mo a _ hm
  refine ⟨⟨_, q1, rfl⟩, fun b e => by cases e; exact ⟨_, q1, rfl⟩, ?_⟩
  refine P.append_list (h₁.wp hA G₁ R₁ ok fun u s₂ q μ₂ h₂ G₂ y R₂ hu => ?_)
  cases h₂ with
  | mk hm hz h₂ =>
  rename_i l
  obtain ⟨vs, m, q1, r1⟩ := G₂.mo a _ hm
  have hlen := r1.length
  refine ⟨vs.toArray, m, by simp only [List.size_toArray]; omega, q1, _, _, h₂, G₂.upd (tk := s₂.toks) hm (Heap.SameBut.update ..) fun i hi => ⟨vs ++ [u], (if (vs ++ [u]).toArray.size == vs.toArray.size then m else m + 1), ?_, (r1.mono hi).append (.one (hu.mono hi))⟩,
    (x.trans y).trans (Step.upd (tk := s₂.toks) hm (Heap.SameBut.update ..) ⟨_, PySem.IsL.update q1 (fun xs => xs.push u)⟩), .none⟩
  have z := PySem.IsL.update q1 (fun xs => xs.push u)
  have e1 : vs.toArray.push u = (vs ++ [u]).toArray := by simp
  rw [e1] at z
  exact z
set_option tactic.hygienic true in
theorem te_pop {o apos pos} (hb' : plainBase o = true) (hline : (apos.endLine == pos.line) = true)
    (h : TE Γ n Φ ρ μ (eval o Φ.env) fun p μ₁ => popV p μ₁ Q) :
    TE Γ n Φ ρ μ (eval (.Call (.Attribute o "pop" apos) [] [] pos) Φ.env) Q := fun A s hA G R => by
  have hb := big_line
  refine wpAny_Call_method (base_plain hb' _ _ _) rfl hline PySem.F.plainAttrs_list PySem.F.slot_list_pop PySem.F.type_list_pop ?_
  refine h.wp hA G R ok fun v s₁ p μ₁ h₁ G₁ x R₁ hv => ?_
  cases h₁ with
  | mk hm hz h₁ =>
  rename_i a l' r
  have e := hv.ref_inv; subst e
  obtain ⟨vs, m, q1, r1⟩ := G₁.mo a _ hm
  have hlen := r1.length
  refine ⟨⟨_, q1, rfl⟩, fun b e => by cases e; exact ⟨_, q1, rfl⟩, ?_⟩
  obtain ⟨y, hy, hyr⟩ := r1.get (i := l'.length) (p := r) (by simp)
  rw [List.length_append, List.length_singleton] at hlen
  have e0 : vs.toArray.size - 1 = l'.length := by simp only [List.size_toArray]; omega
  refine P.pop_list q1 (by rw [e0]; simpa using hy) ?_ (by simp only [List.size_toArray, hlen]; omega)
  rw [e0]
  refine ⟨_, _, h₁, G₁.upd (tk := s₁.toks) hm (Heap.SameBut.update ..) fun i hi => ⟨vs.take l'.length, (if (vs.take l'.length).toArray.size == vs.toArray.size then m else m + 1), ?_, ?_⟩, x.trans (Step.upd (tk := s₁.toks) hm (Heap.SameBut.update ..) ⟨_, PySem.IsL.update q1 (fun xs => xs.eraseIdxIfInBounds l'.length)⟩), ?_⟩
  · have z := PySem.IsL.update q1 (fun xs => xs.eraseIdxIfInBounds l'.length)
    have e1 : vs.toArray.eraseIdxIfInBounds l'.length = (vs.take l'.length).toArray := by
      rw [Array.eraseIdxIfInBounds, dif_pos (by simp only [List.size_toArray]; omega)]
      apply Array.toList_inj.mp
      rw [Array.toList_eraseIdx]
      simp only
      rw [List.eraseIdx_eq_take_drop_succ, List.drop_of_length_le (by omega), List.append_nil]
    rw [e1] at z
    exact z
  · have z := (r1.mono hi).take l'.length
    simpa using z
  · exact hyr.mono (Step.toIm0 (Step.upd (W := []) (tk := s₁.toks) hm (Heap.SameBut.update ..) ⟨_, PySem.IsL.update q1 (fun xs => xs.eraseIdxIfInBounds l'.length)⟩))
end
end Mine

open PySem PySem.Calls PyProof.Rows PySem.W
set_option maxRecDepth 100000
set_option linter.unusedVariables false
set_option linter.unusedSectionVars false
set_option backward.match.sparseCases false
namespace Mine

noncomputable def callee : BI → Value
  | .len => .builtin "len"
  | .min => .builtin "min"
  | .max => .builtin "max"
  | .sum => .builtin "sum"
  | .sorted => .builtin "sorted"
  | .list => .type "list"
  | .tuple => .type "tuple"
  | .all => .builtin "all"

section
variable {Γ : Gl} {n : Nat} {F : List Addr} {ρ : Rho} {μ : Mu} {Q : PV → Mu → Prop} {A : Around} {s : Shared}

theorem Post.grow {h' : Heap} {tk : Nat} {v : Value} {p : PV} (G : GS Γ F μ s) (he : ∀ b o, s.heap.get? b = some o → h'.get? b = some o) (hq : Q p μ)
    (hv : ∀ i : Im, (∀ a o, s.heap.get? a = none → h'.get? a = some o → i a o) → (∀ a o, im F μ s.heap a o → i a o) → VR i v p) : Post Γ F s μ Q v { s with heap := h', toks := tk } := by
  have x : Step [] s μ { s with heap := h', toks := tk } μ := Step.of_ext he
  exact ⟨p, μ, hq, G.of_ext he, x, hv _ (fun a o h1 h2 => ⟨h2, G.fresh h1, G.notF h1⟩) x.toIm0⟩
theorem Post.growL {h' : Heap} {tk : Nat} {D : Addr} {vs : List Value} {l : List PV} {c : Nat} (G : GS Γ F μ s) (he : ∀ b o, s.heap.get? b = some o → h'.get? b = some o) (hD : s.heap.get? D = none)
    (ho : h'.get? D = some (W.listOf vs.toArray c)) (hq : Mine.newL l μ Q) (hv : VRs (im F μ s.heap) vs l) : Post Γ F s μ Q (.ref D) { s with heap := h', toks := tk } := by
  rcases hq.2 with h | h
  · exact Post.grow G he h fun i h1 h2 => .lst (h1 _ _ hD ho) (hv.mono h2)
  · exact ⟨_, _, h D (G.fresh hD), G.alloc hD he fun i hm => ⟨vs, c, ho, hv.mono hm⟩, Step.alloc hD (G.fresh hD) he, .ref _⟩

theorem deref_tup_eq {p : PV} {l : List PV} (e : deref μ p = .tup l) : p = .tup l := by
  cases p with
  | ref a =>
    simp only [deref] at e
    cases hm : μ a with
    | none => rw [hm] at e; cases e
    | some m => rw [hm] at e; cases m <;> cases e
  | _ => exact e
theorem intsP_cons {p : PV} {l : List PV} {ns : List Int} (h : intsP (p :: l) = some ns) : ∃ i ms, p = .int i ∧ intsP l = some ms ∧ ns = i :: ms := by
  cases p with
  | int i =>
    have h : (intsP l).map (i :: ·) = some ns := h
    cases q : intsP l with
    | none => rw [q] at h; cases h
    | some ms => rw [q] at h; cases h; exact ⟨_, _, rfl, rfl, rfl⟩
  | _ => exact nn h
theorem ints_are {i : Im} {vs l} (h : VRs i vs l) : ∀ {ns}, intsP l = some ns → IntsAre vs ns :=
  VRs.ind (C := fun vs l => ∀ {ns}, intsP l = some ns → IntsAre vs ns) (fun h => by cases h; exact .nil) (fun q r ih => fun h => by
    obtain ⟨k, ms, rfl, h2, rfl⟩ := intsP_cons h
    obtain ⟨t, rfl⟩ := q.int_inv
    exact .cons _ _ (ih h2)) h
theorem ints_back {i : Im} {vs ns} (h : IntsAre vs ns) : VRs i vs (ns.map PV.int) := by
  induction h with
  | nil => exact .nil
  | cons k t r ih => exact .cons (.int k t) ih
theorem intsP_len : ∀ {l ns}, intsP l = some ns → l.length = ns.length
  | [], ns, h => by simp only [intsP] at h; cases h; rfl
  | p :: l, ns, h => by
    obtain ⟨k, ms, rfl, h2, rfl⟩ := intsP_cons h
    simp [intsP_len h2]

theorem insI_perm (a : Int) : ∀ l, (insI a l).Perm (a :: l)
  | [] => .refl _
  | b :: r => by
    unfold insI
    split
    · exact .refl _
    · exact ((insI_perm a r).cons b).trans (.swap a b r)
theorem sortI_perm : ∀ l, (sortI l).Perm l
  | [] => .refl _
  | a :: r => (insI_perm a (sortI r)).trans ((sortI_perm r).cons a)
theorem insI_sorted (a : Int) : ∀ l, l.Pairwise (· ≤ ·) → (insI a l).Pairwise (· ≤ ·)
  | [], _ => List.pairwise_singleton ..
  | b :: r, h => by
    unfold insI
    split
    · rename_i hab
      refine List.pairwise_cons.mpr ⟨fun x hx => ?_, h⟩
      rcases List.mem_cons.mp hx with rfl | hx
      · exact hab
      · exact Int.le_trans hab ((List.pairwise_cons.mp h).1 x hx)
    · rename_i hab
      refine List.pairwise_cons.mpr ⟨fun x hx => ?_, insI_sorted a r (List.pairwise_cons.mp h).2⟩
      rcases List.mem_cons.mp ((insI_perm a r).mem_iff.mp hx) with rfl | hx
      · omega
      · exact (List.pairwise_cons.mp h).1 x hx
theorem sortI_sorted : ∀ l, (sortI l).Pairwise (· ≤ ·)
  | [] => .nil
  | a :: r => insI_sorted a _ (sortI_sorted r)
theorem sorted_eq {a b : List Int} (p : a.Perm b) (h1 : a.Pairwise (· ≤ ·)) (h2 : b.Pairwise (· ≤ ·)) : a = b :=
  List.Perm.eq_of_pairwise (fun x y _ _ h h' => Int.le_antisymm h h') h1 h2 p

theorem bools_are {i : Im} {vs l} (h : VRs i vs l) : ∀ {bs}, boolsP l = some bs → LSm.BoolsAre vs bs :=
  VRs.ind (C := fun vs l => ∀ {bs}, boolsP l = some bs → LSm.BoolsAre vs bs) (fun h => by cases h; exact .nil) (fun {v vs p l} q r ih => fun {bs} h => by
    cases p <;> first | cases h | skip
    rename_i b
    have h : (boolsP l).map (b :: ·) = some bs := h
    cases q' : boolsP l with
    | none => rw [q'] at h; cases h
    | some ms =>
      rw [q'] at h; cases h
      have e := q.bool_inv
      subst e
      exact .cons _ (ih q')) h

theorem minI_le : ∀ (a : Int) r, minI a r ≤ a ∧ (∀ x ∈ r, minI a r ≤ x) ∧ (minI a r = a ∨ minI a r ∈ r)
  | a, [] => by simp [minI]
  | a, b :: r => by
    unfold minI
    obtain ⟨h1, h2, h3⟩ := minI_le (if b < a then b else a) r
    split at h1 <;> rename_i hc <;> simp only [hc, if_true, if_false] at h2 h3 ⊢
    · refine ⟨by omega, fun x hx => ?_, ?_⟩
      · rcases List.mem_cons.mp hx with rfl | hx
        · exact h1
        · exact h2 x hx
      · rcases h3 with h3 | h3 <;> simp [h3]
    · refine ⟨h1, fun x hx => ?_, ?_⟩
      · rcases List.mem_cons.mp hx with rfl | hx
        · omega
        · exact h2 x hx
      · rcases h3 with h3 | h3 <;> simp [h3]

theorem vrs1 {i : Im} {vs : List Value} {ps : List PV} {K : PV → Prop} (hv : VRs i vs ps) (h : match (generalizing := false) ps with | [p] => K p | _ => False) : ∃ v p, vs = [v] ∧ ps = [p] ∧ VR i v p ∧ K p := by
  cases hv with
  | nil => exact False.elim h
  | cons q r =>
    cases r with
    | nil => exact ⟨_, _, rfl, rfl, q, h⟩
    | cons _ _ => exact False.elim h
theorem vrs_one {i : Im} {vs : List Value} {p : PV} (hv : VRs i vs [p]) : ∃ v, vs = [v] ∧ VR i v p := by
  cases hv with
  | cons q r => cases r; exact ⟨_, rfl, q⟩
theorem vrs_two {i : Im} {vs : List Value} {p q : PV} (hv : VRs i vs [p, q]) : ∃ v w, vs = [v, w] ∧ VR i v p ∧ VR i w q := by
  cases hv with
  | cons a r => cases r with
    | cons b r => cases r; exact ⟨_, _, rfl, a, b⟩
inductive BiI (μ : Mu) (K : PV → Mu → Prop) : BI → List PV → Prop
  | lenL (p : PV) (l : List PV) : deref μ p = .lst l → l.length ≤ big → K (.int l.length) μ → BiI μ K .len [p]
  | lenT (p : PV) (l : List PV) : deref μ p = .tup l → l.length ≤ big → K (.int l.length) μ → BiI μ K .len [p]
  | min2 (a b : Int) : K (.int (if b < a then b else a)) μ → BiI μ K .min [.int a, .int b]
  | max2 (a b : Int) : K (.int (if a < b then b else a)) μ → BiI μ K .max [.int a, .int b]
  | minT (l : List PV) (a : Int) (r : List Int) : intsP l = some (a :: r) → K (.int (minI a r)) μ → BiI μ K .min [.tup l]
  | sum (l : List PV) (ns : List Int) : intsP l = some ns → K (.int ns.sum) μ → BiI μ K .sum [.lst l]
  | sorted (l : List PV) (ns : List Int) : intsP l = some ns → l.length ≤ 60 → newL ((sortI ns).map PV.int) μ K → BiI μ K .sorted [.lst l]
  | all (l : List PV) (bs : List Bool) : boolsP l = some bs → K (.bool (bs.all id)) μ → BiI μ K .all [.lst l]
  | list (p : PV) (l : List PV) : deref μ p = .lst l → newL l μ K → BiI μ K .list [p]
  | tupL (p : PV) (l : List PV) : deref μ p = .lst l → l.length ≤ big → K (.tup l) μ → BiI μ K .tuple [p]
  | tupT (p : PV) (l : List PV) : deref μ p = .tup l → K (.tup l) μ → BiI μ K .tuple [p]
theorem ff' {P : Prop} (h : False) : P := h.elim
theorem onO_inv {α : Type} {o : Option α} {f : α → Prop} (h : onO o f) : ∃ x, o = some x ∧ f x := by
  cases o with
  | none => exact h.elim
  | some x => exact ⟨x, rfl, h⟩
theorem oneA_eq {ps : List PV} {p : PV} (h : oneA ps = some p) : ps = [p] := by
  cases ps with
  | nil => cases h
  | cons q r => cases r with
    | nil => cases h; rfl
    | cons _ _ => cases h
theorem lsA_eq {p : PV} {l : List PV} (h : lsA p = some l) : p = .lst l := by
  cases p <;> first | (cases h; done) | (cases h; rfl)
theorem tupA_eq {p : PV} {l : List PV} (h : tupA p = some l) : p = .tup l := by
  cases p <;> first | (cases h; done) | (cases h; rfl)
theorem intA_eq {p : PV} {l : Int} (h : intA p = some l) : p = .int l := by
  cases p <;> first | (cases h; done) | (cases h; rfl)
theorem int2_eq {ps : List PV} {x : Int × Int} (h : int2 ps = some x) : ps = [.int x.1, .int x.2] := by
  cases ps with
  | nil => cases h
  | cons p r =>
    have h : (match oneA r with | none => none | some q => match intA p with | none => none | some a => match intA q with | none => none | some b => some (a, b)) = some x := h
    cases e : oneA r with
    | none => rw [e] at h; cases h
    | some q =>
      cases e1 : intA p with
      | none => rw [e, e1] at h; cases h
      | some a =>
        cases e2 : intA q with
        | none => rw [e, e1] at h; dsimp only at h; rw [e2] at h; cases h
        | some b =>
          rw [e, e1] at h; dsimp only at h; rw [e2] at h; cases h
          rw [oneA_eq e, intA_eq e1, intA_eq e2]
theorem twoA_eq {ps : List PV} {x : PV × PV} (h : twoA ps = some x) : ps = [x.1, x.2] := by
  cases ps with
  | nil => cases h
  | cons p r =>
    have h : (match oneA r with | none => none | some q => some (p, q)) = some x := h
    cases e : oneA r with
    | none => rw [e] at h; cases h
    | some q => rw [e] at h; cases h; rw [oneA_eq e]
theorem biI {b : BI} {ps : List PV} (h : biV b ps μ Q) : BiI μ Q b ps := by
  cases b with
  | len =>
    obtain ⟨p, e, h⟩ := onO_inv h
    rw [oneA_eq e]
    cases e : deref μ p <;> rw [e] at h <;> first | exact h.elim | exact .lenL _ _ e h.1 h.2 | exact .lenT _ _ e h.1 h.2
  | list =>
    obtain ⟨p, e, h⟩ := onO_inv h
    rw [oneA_eq e]
    cases e : deref μ p <;> rw [e] at h <;> first | exact h.elim | exact .list _ _ e h
  | tuple =>
    obtain ⟨p, e, h⟩ := onO_inv h
    rw [oneA_eq e]
    cases e : deref μ p <;> rw [e] at h <;> first | exact h.elim | exact .tupL _ _ e h.1 h.2 | exact .tupT _ _ e h.2
  | max =>
    obtain ⟨x, e, h⟩ := onO_inv h
    rw [int2_eq e]
    exact .max2 _ _ h
  | min =>
    have h : (match int2 ps with | some x => Q (.int (if x.2 < x.1 then x.2 else x.1)) μ | none => onO (oneA ps) fun p => onO (tupA p) fun l => match intsP l with | some (a :: r) => l.length ≤ big ∧ Q (.int (minI a r)) μ | _ => False) := h
    cases e : int2 ps with
    | some x => rw [e] at h; rw [int2_eq e]; exact .min2 _ _ h
    | none =>
      rw [e] at h
      obtain ⟨p, e1, h⟩ := onO_inv h
      obtain ⟨l, e2, h⟩ := onO_inv h
      rw [oneA_eq e1, tupA_eq e2]
      cases e : intsP l with
      | none => rw [e] at h; exact h.elim
      | some ar =>
        cases ar with
        | nil => rw [e] at h; exact h.elim
        | cons a r => rw [e] at h; exact .minT _ _ _ e h.2
  | sum =>
    obtain ⟨p, e, h⟩ := onO_inv h
    obtain ⟨l, e2, ns, h1, _, h3⟩ := onO_inv h
    rw [oneA_eq e, lsA_eq e2]
    exact .sum _ _ h1 h3
  | sorted =>
    obtain ⟨p, e, h⟩ := onO_inv h
    obtain ⟨l, e2, ns, h1, h2, h3⟩ := onO_inv h
    rw [oneA_eq e, lsA_eq e2]
    exact .sorted _ _ h1 h2 h3
  | all =>
    obtain ⟨p, e, h⟩ := onO_inv h
    obtain ⟨l, e2, ns, h1, _, h3⟩ := onO_inv h
    rw [oneA_eq e, lsA_eq e2]
    exact .all _ _ h1 h3
theorem bs_lenL {v : Value} {p : PV} {l : List PV} (G : GS Γ F μ s) (q : VR (im F μ s.heap) v p) (e : deref μ p = .lst l) (hz : l.length ≤ big) (h : Q (.int l.length) μ) :
    wpAny (model Γ.prog Γ.w) A (call (callee .len) [v]) (Post Γ F s μ Q) (fun _ _ => False) s := by
  have hb : big = 100000 := rfl
  obtain ⟨a, xs, m, rfl, q1, r1⟩ := deref_lst G q e
  have hl := r1.length
  refine len_list q1.isList (by simp only [List.size_toArray]; omega) ?_
  have e2 : (xs.toArray.size : Int) = (l.length : Int) := by simp [hl]
  rw [e2]
  exact Post.here G h (.int _ _)
theorem bs_lenT {v : Value} {p : PV} {l : List PV} (G : GS Γ F μ s) (q : VR (im F μ s.heap) v p) (e : deref μ p = .tup l) (hz : l.length ≤ big) (h : Q (.int l.length) μ) :
    wpAny (model Γ.prog Γ.w) A (call (callee .len) [v]) (Post Γ F s μ Q) (fun _ _ => False) s := by
  have hb : big = 100000 := rfl
  obtain ⟨a, xs, m, rfl, q1, r1⟩ := deref_tup G q e
  have hl := r1.length
  refine P.len_tuple q1 (by simp only [List.size_toArray]; omega) ?_
  have e2 : (xs.toArray.size : Int) = (l.length : Int) := by simp [hl]
  rw [e2]
  exact Post.here G h (.int _ _)
theorem bs_minT {v : Value} {l : List PV} {a : Int} {r : List Int} (hA : Room n A) (G : GS Γ F μ s) (q : VR (im F μ s.heap) v (.tup l)) (hns : intsP l = some (a :: r)) (h : Q (.int (minI a r)) μ) :
    wpAny (model Γ.prog Γ.w) A (call (callee .min) [v]) (Post Γ F s μ Q) (fun _ _ => False) s := by
  obtain ⟨t, xs, m, rfl, q1, r1⟩ := q.tup_inv
  have hi := ints_are r1 hns
  obtain ⟨ys, hx⟩ := hi.allInts.items
  have hT : s.heap.IsTuple t (intItems ys) := hx ▸ ⟨_, q1.1, rfl, m, rfl⟩
  have hlt := Heap.lt_size q1.1
  have hnl := hi.length
  have e1 : a :: r = ys.toList.map (·.1) := by
    rw [← nums_intItems, ← hx]
    exact (show numsOf xs.toArray.toList = a :: r from hi.numsOf).symm
  have hys : ys.size = (a :: r).length := by rw [e1]; simp
  have hsz : 0 < ys.size := by rw [hys]; simp
  have hsz' : (intItems ys).size = ys.size := by simp [intItems]
  refine call_min_walk (wpAny_pyIter_tuple hT ?_)
  refine ⟨_, [_, t], [_], _, _, _, _, rfl, Walks.tuple (A := A.in1) hA.1 _ t (Nat.ne_of_lt hlt) (intItems ys),
    ⟨⟨_, Heap.get?_push_size _ rfl, rfl, rfl⟩, hT.push _⟩, fun c hc => ?_, by rw [hsz']; exact hsz, CmpOf.ints_lt (numAt ys) (fun _ _ => intItems_at), fun v h' tk hP hk => ?_⟩
  · show c < (s.heap.push _).objs.size
    rw [Heap.size_push]
    rcases List.mem_cons.mp hc with rfl | hc
    · exact Nat.lt_succ_self _
    · rcases List.mem_cons.mp hc with rfl | hc
      · exact Nat.lt_succ_of_lt hlt
      · cases hc
  · obtain ⟨t', rfl⟩ := intItems_at hP
    refine Post.grow G (LSm.kept_iter hk) h fun i _ _ => ?_
    rw [hsz']
    obtain ⟨k1, k2⟩ := argBest_lt (numAt ys) (ys.size - 1)
    have hmem : numAt ys (argBest (fun i j => decide (numAt ys i < numAt ys j)) (ys.size - 1)) ∈ a :: r := by
      rw [e1, numAt_eq]; exact getD_mem (by rw [List.length_map, Array.length_toList]; omega)
    have hle : ∀ x ∈ a :: r, numAt ys (argBest (fun i j => decide (numAt ys i < numAt ys j)) (ys.size - 1)) ≤ x := fun x hx => by
      rw [e1] at hx
      obtain ⟨j, hj, rfl⟩ := List.getElem_of_mem hx
      rw [List.length_map, Array.length_toList] at hj
      have z := k2 j (by omega)
      refine Int.le_trans z ?_
      rw [numAt_eq, List.getD_eq_getElem?_getD, List.getElem?_eq_getElem (by rw [List.length_map, Array.length_toList]; exact hj)]
      exact Int.le_refl _
    obtain ⟨g1, g2, g3⟩ := minI_le a r
    have e3 : numAt ys (argBest (fun i j => decide (numAt ys i < numAt ys j)) (ys.size - 1)) = minI a r := by
      apply Int.le_antisymm
      · rcases g3 with g3 | g3
        · rw [g3]; exact hle a (by simp)
        · exact hle _ (by simp [g3])
      · rcases List.mem_cons.mp hmem with g | g
        · rw [g]; exact g1
        · exact g2 _ g
    rw [e3]
    exact .int _ _
theorem bs_sum {v : Value} {l : List PV} {ns : List Int} (hA : Room n A) (G : GS Γ F μ s) (q : VR (im F μ s.heap) v (.lst l)) (h1 : intsP l = some ns) (h3 : Q (.int ns.sum) μ) :
    wpAny (model Γ.prog Γ.w) A (call (callee .sum) [v]) (Post Γ F s μ Q) (fun _ _ => False) s := by
  obtain ⟨a, xs, m, rfl, q1, r1⟩ := q.lst_inv
  have hi := ints_are r1 h1
  obtain ⟨ys, hx⟩ := hi.allInts.items
  have hl' : s.heap.IsList a (intItems ys) := hx ▸ (IsL.isList q1.1)
  refine sum_intListG hA.1 hl' fun h' tk t' hk => ?_
  have e1 : ns = ys.toList.map (·.1) := by
    rw [← nums_intItems, ← hx]
    exact (show numsOf xs.toArray.toList = ns from hi.numsOf).symm
  have e2 : preSum (numAt ys) ys.size = ns.sum := by
    rw [preSum_eq, List.take_of_length_le (by simp), e1]
  rw [e2]
  exact Post.grow G hk h3 fun i _ _ => .int _ _
theorem bs_sorted {v : Value} {l : List PV} {ns : List Int} (hA : Room n A) (G : GS Γ F μ s) (q : VR (im F μ s.heap) v (.lst l)) (h1 : intsP l = some ns) (h2 : l.length ≤ 60) (h3 : newL ((sortI ns).map PV.int) μ Q) :
    wpAny (model Γ.prog Γ.w) A (call (callee .sorted) [v]) (Post Γ F s μ Q) (fun _ _ => False) s := by
  obtain ⟨a, xs, m, rfl, q1, r1⟩ := q.lst_inv
  have hi := ints_are r1 h1
  have hl := r1.length
  refine sorted_ints (IsL.isList q1.1) hi (by omega) fun out ns' a1 a2 a3 => ?_
  obtain ⟨e, he⟩ := sortedAll_at s.heap xs out
  have en : ns' = sortI ns := sorted_eq (a2.trans (sortI_perm ns).symm) a3 (sortI_sorted ns)
  subst en
  refine Post.growL (tk := s.toks) (vs := out.toList) (c := e) G (fun b o => sortedAll_old) ?_ (by rw [Array.toArray_toList]; exact he) h3 (ints_back a1)
  cases q : s.heap.get? (s.heap.objs.size + 1) with
  | none => rfl
  | some o => exact absurd (Heap.lt_size q) (Nat.not_lt.mpr (Nat.le_succ _))
theorem bs_all {v : Value} {l : List PV} {bs : List Bool} (hA : Room n A) (G : GS Γ F μ s) (q : VR (im F μ s.heap) v (.lst l)) (h1 : boolsP l = some bs) (h3 : Q (.bool (bs.all id)) μ) :
    wpAny (model Γ.prog Γ.w) A (call (callee .all) [v]) (Post Γ F s μ Q) (fun _ _ => False) s := by
  obtain ⟨a, xs, m, rfl, q1, r1⟩ := q.lst_inv
  have hb := bools_are r1 h1
  have hlt := Heap.lt_size q1.1
  refine call_all_walk (wpAny_pyIter_list (IsL.isList q1.1) ?_)
  refine ⟨s.heap.objs.size, [s.heap.objs.size, a], [s.heap.objs.size], xs.toArray.size, _, _, fun i => (bs[i]?).getD true, rfl, Walks.list (A := A.in1) hA.1 _ a (Nat.ne_of_lt hlt) xs.toArray,
    ⟨⟨_, Heap.get?_push_size _ rfl, rfl, rfl⟩, (IsL.isList q1.1).push _⟩, fun i v s' Q' E' hP hQ => ?_, fun h' tk hk => ?_⟩
  · obtain ⟨b, e, rfl⟩ := hb.get i v (by simpa using hP)
    simp only [e, Option.getD_some] at hQ
    exact wpAny_truthy_bool hQ
  · have e : ((List.range xs.toArray.size).all fun i => (bs[i]?).getD true) = bs.all id := by
      rw [List.size_toArray, hb.length]; exact LSm.range_all bs
    rw [e]
    exact Post.grow G (LSm.kept_iter hk) h3 fun i _ _ => .bool _
theorem bs_list {v : Value} {p : PV} {l : List PV} (hA : Room n A) (G : GS Γ F μ s) (q : VR (im F μ s.heap) v p) (e : deref μ p = .lst l) (h : newL l μ Q) :
    wpAny (model Γ.prog Γ.w) A (call (callee .list) [v]) (Post Γ F s μ Q) (fun _ _ => False) s := by
  have hbl := big_line
  have hb : big = 100000 := rfl
  obtain ⟨a, xs, m, rfl, q1, r1⟩ := deref_lst G q e
  have hl := r1.length
  have hz := h.1
  refine call_list_seq (hsz := by simp only [List.size_toArray]; omega) a (.inl rfl) q1 rfl rfl fun h' c' hk hD => ?_
  exact Post.growL (tk := s.toks) G hk (none_size _) hD h r1
theorem bs_tupL {v : Value} {p : PV} {l : List PV} (hA : Room n A) (G : GS Γ F μ s) (q : VR (im F μ s.heap) v p) (e : deref μ p = .lst l) (hz : l.length ≤ big) (h : Q (.tup l) μ) :
    wpAny (model Γ.prog Γ.w) A (call (callee .tuple) [v]) (Post Γ F s μ Q) (fun _ _ => False) s := by
  have hbl := big_line
  have hb : big = 100000 := rfl
  obtain ⟨a, xs, m, rfl, q1, r1⟩ := deref_lst G q e
  have hl := r1.length
  refine call_tuple_list q1.isList (fun h' hk => ?_) (by simp only [List.size_toArray]; omega)
  refine Post.grow (tk := s.toks) G (fun b o e => Heap.get?_push_of_some _ (hk b o e)) h fun i i1 i2 => ?_
  refine .tup (n := 0) (i1 _ _ ?_ (Heap.get?_push_size _ rfl)) (r1.mono i2)
  cases q : s.heap.get? h'.objs.size with
  | none => rfl
  | some o => have := hk _ _ q; rw [none_size] at this; cases this
theorem bs_tupT {v : Value} {p : PV} {l : List PV} (hA : Room n A) (G : GS Γ F μ s) (q : VR (im F μ s.heap) v p) (e : deref μ p = .tup l) (h : Q (.tup l) μ) :
    wpAny (model Γ.prog Γ.w) A (call (callee .tuple) [v]) (Post Γ F s μ Q) (fun _ _ => False) s := by
  obtain ⟨a, xs, m, rfl, q1, r1⟩ := deref_tup G q e
  exact call_tuple_same (t := a) ⟨_, q1, rfl, m, rfl⟩ (Post.here' G h (deref_tup_eq e ▸ q))
theorem bi_sem {b : BI} {vs : List Value} {ps : List PV} (hA : Room n A) (G : GS Γ F μ s) (hv : VRs (im F μ s.heap) vs ps) (h : biV b ps μ Q) :
    wpAny (model Γ.prog Γ.w) A (call (callee b) vs) (Post Γ F s μ Q) (fun _ _ => False) s := by
  have z := biI h
  clear h
  cases z with
  | lenL p l e hz h => obtain ⟨v, rfl, q⟩ := vrs_one hv; exact bs_lenL G q e hz h
  | lenT p l e hz h => obtain ⟨v, rfl, q⟩ := vrs_one hv; exact bs_lenT G q e hz h
  | min2 a b h =>
    obtain ⟨v, w, rfl, q, q2⟩ := vrs_two hv
    obtain ⟨t, rfl⟩ := q.int_inv
    obtain ⟨t', rfl⟩ := q2.int_inv
    refine min_two_ints hA.1 fun h' tk hk => Post.grow G hk h fun i _ _ => ?_
    by_cases hc : b < a
    · rw [if_pos hc, if_pos hc]; exact .int _ _
    · rw [if_neg hc, if_neg hc]; exact .int _ _
  | max2 a b h =>
    obtain ⟨v, w, rfl, q, q2⟩ := vrs_two hv
    obtain ⟨t, rfl⟩ := q.int_inv
    obtain ⟨t', rfl⟩ := q2.int_inv
    refine max_two_ints hA.1 fun h' tk hk => Post.grow G hk h fun i _ _ => ?_
    by_cases hc : a < b
    · rw [if_pos hc, if_pos hc]; exact .int _ _
    · rw [if_neg hc, if_neg hc]; exact .int _ _
  | minT l a r e h => obtain ⟨v, rfl, q⟩ := vrs_one hv; exact bs_minT hA G q e h
  | sum l ns e h => obtain ⟨v, rfl, q⟩ := vrs_one hv; exact bs_sum hA G q e h
  | sorted l ns e h2 h => obtain ⟨v, rfl, q⟩ := vrs_one hv; exact bs_sorted hA G q e h2 h
  | all l bs e h => obtain ⟨v, rfl, q⟩ := vrs_one hv; exact bs_all hA G q e h
  | list p l e h => obtain ⟨v, rfl, q⟩ := vrs_one hv; exact bs_list hA G q e h
  | tupL p l e hz h => obtain ⟨v, rfl, q⟩ := vrs_one hv; exact bs_tupL hA G q e hz h
  | tupT p l e h => obtain ⟨v, rfl, q⟩ := vrs_one hv; exact bs_tupT hA G q e h
end
end Mine

open PySem PySem.Calls PyProof.Rows PySem.W
set_option maxRecDepth 100000
set_option linter.unusedVariables false
set_option linter.unusedSectionVars false
set_option backward.match.sparseCases false
namespace Mine

noncomputable def calleeOk (Γ : Gl) (f : Value) : Prop := ∀ h, Γ.K.In h → ∃ k, (k = Keeper.frame ∨ k = Keeper.machine ∨ k = Keeper.boundFrame) ∧ Looks (model Γ.prog Γ.w) h (keeperOf f) k
theorem calleeOk_fn {Γ : Gl} {a : Addr} (h : keepIn Γ.K (.ref a) = true) : calleeOk Γ (.ref a) := fun h' X => keeps_K h h' X
theorem calleeOk_bi {Γ : Gl} (b : BI) : calleeOk Γ (callee b) := fun h X => ⟨.machine, .inr (.inl rfl), Looks.of_pure (by cases b <;> rfl)⟩
noncomputable def GN (Γ : Gl) (x : Str) (v : Value) : Prop := Γ.mg x = some v ∨ (Γ.mg x = none ∧ Γ.mb x = some v)

theorem CallT.mono {Γ : Gl} {n : Nat} {f : Value} {args : List PV} {μ : Mu} {Q Q' : PV → Mu → Prop} (h : CallT Γ n f args μ Q) (hq : ∀ p μ', Q p μ' → Q' p μ') : CallT Γ n f args μ Q' := fun A F s vs hA G hv =>
  codeAny_mono (h A F s vs hA G hv) fun r s' z => by
    rcases r with e | (v | _ | _ | _) <;> first | exact z | skip
    obtain ⟨p, μ', a, b1, b2, b3⟩ := z
    exact ⟨p, μ', hq _ _ a, b1, b2, b3⟩

section
variable {Γ : Gl} {n : Nat} {Φ : Fm} {ρ : Rho} {μ : Mu} {Q : PV → Mu → Prop} {A : Around} {s : Shared}

theorem CallT.wp {f : Value} {args : List PV} {F : List Addr} {vs : List Value} (h : CallT Γ n f args μ Q) (hA : Room n A) (G : GS Γ F μ s) (hv : VRs (im F μ s.heap) vs args) :
    wpAny (model Γ.prog Γ.w) A (call f vs) (Post Γ F s μ Q) (fun _ _ => False) s :=
  wpAny_call (codeAny_mono (h A F s vs hA G hv) fun r s' z => by rcases r with e | (v | _ | _ | _) <;> exact z)

theorem FmOk.inF {F' : List Addr} (ok : FmOk Γ Φ) (h : ∀ a ∈ Φ.F, a ∈ F') : FmOk Γ { Φ with F := F' } :=
  ⟨ok.kind, ok.glob, ok.blt, ok.nd, fun a ha => h a (ok.sub a ha), ok.loc, ok.store, ok.cells, ok.apart, ok.inj⟩
theorem im_less {F F' : List Addr} {h : Heap} (hf : ∀ a ∈ F, a ∈ F') : ∀ a o, im F' μ h a o → im F μ h a o := fun a o ⟨e, m, f⟩ => ⟨e, m, fun z => f (hf a z)⟩
theorem GS.less {F F' : List Addr} (G : GS Γ F' μ s) (hf : ∀ a ∈ F, a ∈ F') : GS Γ F μ s :=
  ⟨G.keep, fun b o e => ⟨(G.off b o e).1, fun z => (G.off b o e).2 (hf b z)⟩, fun a h => G.live a (hf a h), fun a m e => (G.mo a m e).mono (im_less hf) fun o q => q, G.gens, G.os⟩

theorem GS.more {h' : Heap} {tk : Nat} {F : List Addr} {D : Addr} {o : Obj} (G : GS Γ F μ s) (hf : s.heap.get? D = none) (he : ∀ b o, s.heap.get? b = some o → h'.get? b = some o) (hD : h'.get? D = some o) :
    GS Γ (D :: F) μ { s with heap := h', toks := tk } := by
  have hne : ∀ b o, s.heap.get? b = some o → b ≠ D := fun b o e => by rintro rfl; rw [hf] at e; cases e
  refine ⟨fun b o e => he b o (G.keep b o e), fun b o e => ⟨(G.off b o e).1, fun z => ?_⟩, fun a h => ?_, fun a m e => (G.mo a m e).mono (fun a o ⟨q, r, t⟩ => ⟨he a o q, r, fun z => ?_⟩) fun o q => he a o q, G.gens, G.os⟩
  · rcases List.mem_cons.mp z with rfl | z
    · exact hne _ o (G.keep _ o e) rfl
    · exact (G.off b o e).2 z
  · rcases List.mem_cons.mp h with rfl | h
    · exact ⟨⟨o, hD⟩, G.fresh hf⟩
    · exact ⟨let ⟨o, e⟩ := (G.live a h).1; ⟨o, he a o e⟩, (G.live a h).2⟩
  · rcases List.mem_cons.mp z with rfl | z
    · exact hne _ o q rfl
    · exact t z

theorem evalArgs_nilH {M : Model} {A : Around} {E : Value → Shared → Prop} {s : Shared} {f : Value} {Q : Args → Shared → Prop} (h : wpAny M A (spliced []) (fun vs s' => Q ⟨vs, []⟩ s') E s) : wpAny M A (evalArgs f true [] []) Q E s := by
  unfold evalArgs
  show wpAny M A (spliced [] >>= _) Q E s
  refine wpAny_bind (wpAny_mono h (fun vs s' h' => ?_) fun _ _ x => x)
  refine wpAny_bind (wpAny_pure ?_)
  refine wpAny_holding ?_
  exact wpAny_bind (wpAny_pure (wpAny_bind (wpAny_pure (wpAny_pure h'))))
variable (ok : FmOk Γ Φ)
include ok
theorem name_global {x : Str} {v : Value} {pos : Pos} {K : Value → Shared → Prop} (hk : Φ.env.kindOf x = some .globalImplicit) (hd : (x == ("__debug__" : Str)) = false) (hg : GN Γ x v) (G : GS Γ Φ.F μ s) (h : K v s) :
    wpAny (model Γ.prog Γ.w) A (eval (.Name x pos) Φ.env) K (fun _ _ => False) s := by
  have hG : s.heap.Ns Φ.env.globals Γ.mg := by rw [ok.glob]; exact Γ.G.at' fun o e => G.keep _ o e
  have hB : s.heap.Ns Φ.env.builtins Γ.mb := by rw [ok.blt]; exact Γ.B.at' fun o e => G.keep _ o e
  rcases hg with hg | ⟨h1, h2⟩
  · exact Name_function_global ok.kind hk (loadGlobal_global hG hg h) hd
  · exact Name_function_global ok.kind hk (loadGlobal_builtin hG h1 hB h2 h) hd

theorem callWith_T {f : Value} {first : List Value} {pf : List PV} {es : List Expr} {pos : Pos} {k : Nat} (hs : plainArgs es = true) (hc : calleeOk Γ f) (hA : Room n A) (G : GS Γ Φ.F μ s) (R : FR Φ ρ μ s) (hfst : VRs (im Φ.F μ s.heap) first pf)
    (h : TL Γ n Φ ρ μ k (spliced (backTo pos (starEach es Φ.env))) fun ps μ₁ => ∀ s' vs, GS Γ Φ.F μ₁ s' → VRs (im Φ.F μ₁ s'.heap) vs (pf ++ ps) → wpAny (model Γ.prog Γ.w) A (call f vs) (Post Γ Φ.F s' μ₁ Q) (fun _ _ => False) s') :
    wpAny (model Γ.prog Γ.w) A (callWith pos f first (backTo pos (starEach es Φ.env)) []) (Post Γ Φ.F s μ Q) (fun _ _ => False) s := by
  have hst := star_plain (env := Φ.env) (pos := pos) hs
  rw [hst] at h ⊢
  refine callWith_of (P := Γ.K.In) (by rw [any_plain]; rfl) hc ?_
  have fin : wpAny (model Γ.prog Γ.w) A (spliced (es.map fun e => (false, eval e Φ.env))) (fun vs s' => Γ.K.In s'.heap ∧ wpAny (model Γ.prog Γ.w) A (call f (first ++ vs)) (Post Γ Φ.F s μ Q) (fun _ _ => False) s') (fun _ _ => False) s :=
    h.wp hA G R ok fun vs s₁ ps μ₁ h₁ hl G₁ x R₁ hv => ⟨G₁.K, wp_trans x (h₁ s₁ _ G₁ ((hfst.mono x.toIm0).append hv))⟩
  cases es with
  | nil => exact evalArgs_nilH fin
  | cons e es => exact evalArgs_plain fin

theorem te_call {x : Str} {f : Value} {np pos : Pos} {es : List Expr} {k : Nat} (hk : Φ.env.kindOf x = some .globalImplicit) (hd : (x == ("__debug__" : Str)) = false) (hg : GN Γ x f) (hs : plainArgs es = true) (hc : calleeOk Γ f)
    (h : TL Γ n Φ ρ μ k (spliced (backTo pos (starEach es Φ.env))) fun ps μ₁ => CallT Γ n f ps μ₁ Q) : TE Γ n Φ ρ μ (eval (.Call (.Name x np) es [] pos) Φ.env) Q := fun A s hA G R =>
  wpAny_Call_ofName (name_global ok hk hd hg G (callWith_T ok hs hc hA G R .nil fun A' s' hA' G' R' =>
    wpAny_mono (h A' s' hA' G' R') (fun vs s₁ ⟨ps, μ₁, h₁, r1, r2, r3, r4⟩ => ⟨ps, μ₁, fun s₂ vs₂ G₂ hv₂ => CallT.wp h₁ hA G₂ hv₂, r1, r2, r3, r4⟩) fun _ _ e => e))
theorem te_bi {b : BI} {x : Str} {np pos : Pos} {es : List Expr} {k : Nat} (hk : Φ.env.kindOf x = some .globalImplicit) (hd : (x == ("__debug__" : Str)) = false) (hg : GN Γ x (callee b)) (hs : plainArgs es = true)
    (h : TL Γ n Φ ρ μ k (spliced (backTo pos (starEach es Φ.env))) fun ps μ₁ => biV b ps μ₁ Q) : TE Γ n Φ ρ μ (eval (.Call (.Name x np) es [] pos) Φ.env) Q := fun A s hA G R =>
  wpAny_Call_ofName (name_global ok hk hd hg G (callWith_T ok hs (calleeOk_bi b) hA G R .nil fun A' s' hA' G' R' =>
    wpAny_mono (h A' s' hA' G' R') (fun vs s₁ ⟨ps, μ₁, h₁, r1, r2, r3, r4⟩ => ⟨ps, μ₁, fun s₂ vs₂ G₂ hv₂ => bi_sem hA G₂ hv₂ h₁, r1, r2, r3, r4⟩) fun _ _ e => e))

theorem te_dict0 {pos} (h : ∀ a, μ a = none → Q (.ref a) (μ.set a (.idict []))) : TE Γ n Φ ρ μ (eval (.Dict [] [] pos) Φ.env) Q := fun A s hA G R => by
  exact wpAny_Dict_empty (Post.made (tk := s.toks) G h fun i hi => ⟨[], Heap.DictOf.new s.heap, .nil⟩)

set_option tactic.hygienic true in
theorem te_meth {o : Expr} {x : Str} {k : Nat} {es : List Expr} {apos pos : Pos} {m : Nat} (hx : methNames[k]? = some x) (hb : plainBase o = true) (hs : plainArgs es = true) (hlen : decide (es.length < 30) = true) (hline : (apos.endLine == pos.line) = true)
    (h : TE Γ n Φ ρ μ (eval o Φ.env) fun p μ₁ => methP k x p μ₁ fun f => TL Γ n Φ ρ μ₁ m (spliced (backTo pos (starEach es Φ.env))) fun ps μ₂ => CallT Γ n (.ref f) (p :: ps) μ₂ Q) : TE Γ n Φ ρ μ (eval (.Call (.Attribute o x apos) es [] pos) Φ.env) Q := fun A s hA G R => by
  rw [arm_eval_Call, base_plain hb]
  refine wpAny_bind (h.wp hA G R ok fun v s₁ p μ₁ h₁ G₁ y R₁ hv => wpAny_bind (wpAny_standAt ?_))
  obtain ⟨C, d, sl, f, as, rfl, hf, hm, h0, h₁⟩ := h₁
  obtain ⟨a, rfl, ha⟩ := hv.obj_inv
  obtain ⟨mm, hn, hr⟩ := G₁.mo d _ hm
  have z := hr x
  rw [h0] at z
  dsimp only at z
  obtain ⟨od, e, hl⟩ := lookIn_ns hn.ns
  have K := Γ.mth C k f hf x hx
  have hst := star_plain (env := Φ.env) (pos := pos) hs
  have hform : methodCallForm (es.length + ([] : List Keyword).length) (backTo pos (starEach es Φ.env)) (backToKw pos (keywordEach [] Φ.env)) = true := by
    unfold methodCallForm
    rw [hst, all_plain]
    have := of_decide_eq_true hlen
    simp only [List.length_nil, Nat.add_zero, Bool.true_and]
    show (true && decide (es.length + 0 < 30)) = true
    simpa using this
  have hpos : methodCallPos true o Φ.env apos pos = pure pos := by unfold methodCallPos; simp [hline]
  unfold methodCall
  rw [hform]
  obtain ⟨g1, g2⟩ := plainGet_of K.get
  refine wpAny_bind (wpAny_holding (method_fn G₁.K (inst_at ha e) g1 g2 K.look (beq_iff_eq.mp K.fn) (by show (lookIn x od).map (·.isSome) = some false; rw [hl, z]; rfl) ?_))
  refine wpAny_bind (wpAny_of_eq hpos ?_)
  exact wp_trans y (callWith_T ok hs (calleeOk_fn K.keep) hA G₁ R₁ (VRs.one hv) fun A' s' hA' G' R' =>
    wpAny_mono (h₁ A' s' hA' G' R') (fun vs s₁ ⟨ps, μ₁, h₁, r1, r2, r3, r4⟩ => ⟨ps, μ₁, fun s₂ vs₂ G₂ hv₂ => CallT.wp h₁ hA G₂ hv₂, r1, r2, r3, r4⟩) fun _ _ e => e)
end
end Mine

open PySem PySem.Calls PyProof.Rows PySem.W
set_option maxRecDepth 100000
set_option linter.unusedVariables false
set_option linter.unusedSectionVars false
set_option backward.match.sparseCases false
namespace Mine

inductive PostA (Γ : Gl) (Φ : Fm) (s : Shared) (μ : Mu) (K : Rho → Prop) (s' : Shared) : Prop
  | mk (ρ' : Rho) : K ρ' → GS Γ Φ.F μ s' → Step Φ.W s μ s' μ → FR Φ ρ' μ s' → PostA Γ Φ s μ K s'

theorem setS_length : ∀ (ρ : Rho) (i : Nat) (p : PV), (setS ρ i p).length = ρ.length
  | [], _, _ => by simp [setS]
  | _ :: _, 0, _ => by simp [setS]
  | x :: r, i + 1, p => by simp [setS, setS_length r i p]
theorem setS_comm : ∀ (ρ : Rho) (i j : Nat) (p q : PV), i ≠ j → setS (setS ρ i p) j q = setS (setS ρ j q) i p
  | [], _, _, _, _, _ => by simp [setS]
  | _ :: _, 0, 0, _, _, h => absurd rfl h
  | _ :: _, 0, _ + 1, _, _, _ => by simp [setS]
  | _ :: _, _ + 1, 0, _, _, _ => by simp [setS]
  | x :: r, i + 1, j + 1, p, q, h => by simp [setS, setS_comm r i j p q (fun e => h (by rw [e]))]
theorem getS_setS : ∀ (ρ : Rho) (i j : Nat) (p : PV), getS (setS ρ i p) j = if j = i ∧ i < ρ.length then some p else getS ρ j
  | [], i, j, p => by simp [setS, getS]
  | x :: r, 0, 0, p => by simp [setS, getS]
  | x :: r, 0, j + 1, p => by simp [setS, getS]
  | x :: r, i + 1, 0, p => by simp [setS, getS]
  | x :: r, i + 1, j + 1, p => by
    simp only [setS, getS, List.length_cons, Nat.add_lt_add_iff_right, Nat.add_right_cancel_iff]
    exact getS_setS r i j p

section
variable {Γ : Gl} {n : Nat} {Φ : Fm} {ρ : Rho} {μ : Mu} {A : Around} {s : Shared}

theorem GS.touch {F : List Addr} {h' : Heap} {tk : Nat} {a : Addr} (G : GS Γ F μ s) (ha : a ∈ F) (hl : ∃ o, h'.get? a = some o) (hs : Heap.SameBut a s.heap h') : GS Γ F μ { s with heap := h', toks := tk } := by
  have hne : ∀ b o, im F μ s.heap b o → b ≠ a := fun b o q e => q.2.2 (e ▸ ha)
  refine ⟨fun b o e => (hs.2 b fun z => (G.off b o e).2 (z ▸ ha)).trans (G.keep b o e), G.off, fun b hb => ⟨?_, (G.live b hb).2⟩, fun b m e => ?_, G.gens, G.os⟩
  · by_cases z : b = a
    · subst z; exact hl
    · obtain ⟨o, e⟩ := (G.live b hb).1
      exact ⟨o, (hs.2 b z).trans e⟩
  · have z : b ≠ a := fun z => by subst z; rw [(G.live b ha).2] at e; cases e
    exact (G.mo b m e).mono (fun c o q => ⟨(hs.2 c (hne c o q)).trans q.1, q.2.1, q.2.2⟩) fun o q => (hs.2 b z).trans q
theorem Step.touch {W : List Addr} {h' : Heap} {tk : Nat} {a : Addr} (ha : a ∈ W) (hl : ∃ o, h'.get? a = some o) (hs : Heap.SameBut a s.heap h') : Step W s μ { s with heap := h', toks := tk } μ :=
  ⟨fun b o e _ hb => (hs.2 b fun z => hb (z ▸ ha)).trans e, fun _ _ e => e, fun _ m e => .inl ⟨m, e⟩, fun b o e => by
    by_cases z : b = a
    · subst z; exact hl
    · exact ⟨o, (hs.2 b z).trans e⟩⟩
theorem im_touch {F : List Addr} {h' : Heap} {a : Addr} (ha : a ∈ F) (hs : Heap.SameBut a s.heap h') : ∀ b o, im F μ s.heap b o → im F μ h' b o := fun b o q =>
  ⟨(hs.2 b fun z => q.2.2 (z ▸ ha)).trans q.1, q.2.1, q.2.2⟩

theorem lookup_ne {x y : Str} {c : Addr} {l : List (Str × Addr)} (h : l.lookup x = some c) (h2 : l.lookup y = none) : x ≠ y := fun e => by subst e; rw [h] at h2; cases h2

theorem store_sem (ok : FmOk Γ Φ) {i : Nat} {x : Str} {v : Value} {p : PV} {K : Rho → Prop} (hi : i ∈ Φ.st) (hx : Φ.names[i]? = some x) (G : GS Γ Φ.F μ s) (R : FR Φ ρ μ s) (hv : VR (im Φ.F μ s.heap) v p) (hK : K (setS ρ i p)) :
    wpAny (model Γ.prog Γ.w) A (storeName Φ.env x v) (fun _ => PostA Γ Φ s μ K) (fun _ _ => False) s := by
  have uniq : ∀ j, Φ.names[j]? = some x → j = i := fun j hj => by
    obtain ⟨h1, e1⟩ := List.getElem?_eq_some_iff.mp hj
    obtain ⟨h2, e2⟩ := List.getElem?_eq_some_iff.mp hx
    rcases Nat.lt_trichotomy j i with z | z | z
    · exact absurd (e1.trans e2.symm) (List.pairwise_iff_getElem.mp ok.nd j i h1 h2 z)
    · exact z
    · exact absurd (e2.trans e1.symm) (List.pairwise_iff_getElem.mp ok.nd i j h2 h1 z)
  have hl : i < ρ.length := by rw [R.len]; exact (List.getElem?_eq_some_iff.mp hx).1
  rcases ok.store i hi x hx with hk | ⟨hk, c, hc, hcW⟩
  · obtain ⟨m, hm⟩ := R.ns
    refine wpAny_storeName_local hk hm (fun h' hn' hs => ?_) (by rw [ok.kind]; rfl)
    have hlv : ∃ o, h'.get? Φ.env.locals = some o := by obtain ⟨o, _, _, e, _⟩ := hn'; exact ⟨o, e⟩
    have hF := ok.sub _ ok.loc
    refine ⟨_, hK, G.touch hF hlv hs, Step.touch ok.loc hlv hs, (setS_length _ _ _).trans R.len, ⟨_, hn'⟩, fun y c hc => ⟨(R.cells y c hc).1, ?_⟩, fun j y q hj hq => ?_⟩
    · obtain ⟨_, w, o, e, d⟩ := R.cells y c hc
      exact ⟨w, o, (hs.2 c (ok.apart y c hc)).trans e, d⟩
    · rw [getS_setS] at hq
      by_cases hji : j = i
      · subst hji
        rw [if_pos ⟨rfl, hl⟩] at hq
        cases hq
        rw [hx] at hj; cases hj
        exact ⟨v, .inl ⟨hk, _, hn', by simp⟩, hv.mono (im_touch hF hs)⟩
      · rw [if_neg (fun z => hji z.1)] at hq
        obtain ⟨u, hu, hr⟩ := R.val j y q hj hq
        refine ⟨u, ?_, hr.mono (im_touch hF hs)⟩
        rcases hu with ⟨k, m', hm', mv⟩ | ⟨k, c, hc, o, e, d⟩
        · refine .inl ⟨k, _, hn', ?_⟩
          rw [if_neg (show ¬ y = x from fun z => hji (uniq j (z ▸ hj)))]
          obtain ⟨o1, es1, ep1, a1, b1, c1, d1⟩ := hm
          obtain ⟨o2, es2, ep2, a2, b2, c2, d2⟩ := hm'
          rw [a1] at a2; cases a2
          rw [b1] at b2; cases b2
          rw [← d1, d2]; exact mv
        · exact .inr ⟨k, c, hc, o, (hs.2 c (ok.apart y c hc)).trans e, d⟩
  · obtain ⟨_, v₀, hv₀⟩ := R.cells x c hc
    refine wpAny_storeName_cell ok.kind hk hc hv₀ fun h' hc' hs => ?_
    have hlv : ∃ o, h'.get? c = some o := by obtain ⟨o, e, _⟩ := hc'; exact ⟨o, e⟩
    have hF := ok.sub _ hcW
    have G' := G.touch (tk := s.toks) hF hlv hs
    refine ⟨_, hK, G', Step.touch (tk := s.toks) hcW hlv hs, (setS_length _ _ _).trans R.len, ?_, fun y d hd => ⟨(R.cells y d hd).1, ?_⟩, fun j y q hj hq => ?_⟩
    · obtain ⟨m, o, es, ep, e, r⟩ := R.ns
      exact ⟨m, o, es, ep, (hs.2 _ (fun z => ok.apart x c hc z.symm)).trans e, r⟩
    · by_cases z : d = c
      · subst z; exact ⟨_, hc'⟩
      · obtain ⟨_, w, o, e, b⟩ := R.cells y d hd
        exact ⟨w, o, (hs.2 d z).trans e, b⟩
    · rw [getS_setS] at hq
      by_cases hji : j = i
      · subst hji
        rw [if_pos ⟨rfl, hl⟩] at hq
        cases hq
        rw [hx] at hj; cases hj
        exact ⟨v, .inr ⟨.inl hk, c, hc, hc'⟩, hv.mono (im_touch hF hs)⟩
      · rw [if_neg (fun z => hji z.1)] at hq
        obtain ⟨u, hu, hr⟩ := R.val j y q hj hq
        refine ⟨u, ?_, hr.mono (im_touch hF hs)⟩
        rcases hu with ⟨k, m', ⟨o, es, ep, e, r⟩, mv⟩ | ⟨k, d, hd, o, e, b⟩
        · exact .inl ⟨k, m', ⟨o, es, ep, (hs.2 _ (fun z => ok.apart x c hc z.symm)).trans e, r⟩, mv⟩
        · have hne : d ≠ c := fun z => by
            subst z
            have := ok.inj x y d hc hd
            exact hji (uniq j (this ▸ hj))
          exact .inr ⟨k, d, hd, o, (hs.2 d hne).trans e, b⟩

theorem PostA.trans {s₁ : Shared} {K : Rho → Prop} {s' : Shared} (x : Step Φ.W s μ s₁ μ) (h : PostA Γ Φ s₁ μ K s') : PostA Γ Φ s μ K s' := by
  obtain ⟨ρ', a, b, c, d⟩ := h
  exact ⟨ρ', a, b, x.trans c, d⟩
theorem FR.ext {h' : Heap} {tk : Nat} (R : FR Φ ρ μ s) (ok : FmOk Γ Φ) (G : GS Γ Φ.F μ s) (he : ∀ b o, s.heap.get? b = some o → h'.get? b = some o) : FR Φ ρ μ { s with heap := h', toks := tk } :=
  R.step ok G (Step.of_ext he)

mutual
inductive TgR (Φ : Fm) : TG → Expr → Prop
  | one {i : Nat} {x : Str} {pos : Pos} : i ∈ Φ.st → Φ.names[i]? = some x → TgR Φ (.one i) (.Name x pos)
  | many {ts : List TG} {es : List Expr} {k : Nat} {pos : Pos} : TgRs Φ ts es → TgR Φ (.many ts) (.Tuple es k pos)
inductive TgRs (Φ : Fm) : List TG → List Expr → Prop
  | nil : TgRs Φ [] []
  | cons {t : TG} {ts : List TG} {e : Expr} {es : List Expr} : TgR Φ t e → TgRs Φ ts es → TgRs Φ (t :: ts) (e :: es)
end
theorem findIdx_plain {env : Env} : ∀ es : List Expr, (es.map fun e => ((false, assign e env) : Bool × (Value → Sem Unit))).findIdx? (·.1) = none
  | [] => rfl
  | e :: r => by simp [List.findIdx?_cons, findIdx_plain r]
theorem TgR.each {t : TG} {e : Expr} (h : TgR Φ t e) (es : List Expr) (env : Env) : assignEach (e :: es) env = (false, assign e env) :: assignEach es env := by
  cases h <;> rfl
theorem TgRs.each {ts es} (h : TgRs Φ ts es) (env : Env) : assignEach es env = es.map (fun e => (false, assign e env)) ∧ ts.length = es.length :=
  TgRs.rec (motive_1 := fun _ _ _ => True) (motive_2 := fun ts es _ => assignEach es env = es.map (fun e => (false, assign e env)) ∧ ts.length = es.length) (fun _ _ => trivial) (fun _ _ => trivial) ⟨rfl, rfl⟩
    (fun h _ _ ih => ⟨(h.each _ env).trans (congrArg (_ :: ·) ih.1), congrArg (· + 1) ih.2⟩) h
theorem VRs.lenPV {im : Im} {vs : List Value} {l : List PV} (h : VRs im vs l) : vs.toArray.size = l.length := by simp [h.length]

noncomputable def AsgOk (Γ : Gl) (n : Nat) (Φ : Fm) (tg : TG) (e : Expr) : Prop := ∀ {A : Around} {μ : Mu} {v : Value} {p : PV} {ρ : Rho} {s : Shared} {K : Rho → Prop}, Room n A → GS Γ Φ.F μ s → FR Φ ρ μ s → VR (im Φ.F μ s.heap) v p → bindT tg p ρ K →
    wpAny (model Γ.prog Γ.w) A (assign e Φ.env v) (fun _ => PostA Γ Φ s μ K) (fun _ _ => False) s
noncomputable def AsgsOk (Γ : Gl) (n : Nat) (Φ : Fm) (ts : List TG) (es : List Expr) : Prop := ∀ {A : Around} {μ : Mu} {vs : List Value} {ps : List PV} {ρ : Rho} {s : Shared} {K : Rho → Prop}, Room n A → GS Γ Φ.F μ s → FR Φ ρ μ s → VRs (im Φ.F μ s.heap) vs ps → bindTs ts ps ρ K →
    wpAny (model Γ.prog Γ.w) A (assignInOrder (es.map fun e => assign e Φ.env) vs) (fun _ => PostA Γ Φ s μ K) (fun _ _ => False) s
theorem unpack_of (ok : FmOk Γ Φ) {ts : List TG} {es : List Expr} (hts : TgRs Φ ts es) (hh : AsgsOk Γ n Φ ts es) (hA : Room n A) {a : Addr} {vs : List Value} {ps : List PV} {K : Rho → Prop} {k : Nat} {pos : Pos} (ht : s.heap.IsTuple a vs.toArray) (G : GS Γ Φ.F μ s) (R : FR Φ ρ μ s)
    (hv : VRs (im Φ.F μ s.heap) vs ps) (hl : ps.length = ts.length) (h : bindTs ts ps ρ K) : wpAny (model Γ.prog Γ.w) A (assign (.Tuple es k pos) Φ.env (.ref a)) (fun _ => PostA Γ Φ s μ K) (fun _ _ => False) s := by
  have he := hts.each Φ.env
  have hl2 := hv.length
  refine wpAny_assign_Tuple hA.1 ht (by rw [he.1]; simp only [List.length_map, List.size_toArray]; omega) (by rw [he.1]; exact findIdx_plain es) fun h' hx => ?_
  have em : (assignEach es Φ.env).map (·.2) = es.map fun e => assign e Φ.env := by rw [he.1, List.map_map]; rfl
  have el : vs.toArray.toList = vs := by simp
  rw [em, el]
  have hk : ∀ b o, s.heap.get? b = some o → h'.get? b = some o := fun b o e => hx b o (Nat.ne_of_lt (Heap.lt_size e)) e
  have y : Step [] s μ { s with heap := h', toks := s.toks } μ := Step.of_ext hk
  have z := hh hA (G.of_ext (tk := s.toks) hk) (R.ext (tk := s.toks) ok G hk) (hv.mono y.toIm0) h
  exact wpAny_mono z (fun _ s' P => PostA.trans y.wider P) fun _ _ e => e
theorem assigns_nil : AsgsOk Γ n Φ [] [] := by
  intro A μ vs ps ρ s K hA G R hv h
  cases hv with
  | nil =>
    rw [bindTs] at h
    exact assignInOrder_nil ⟨ρ, h, G, Step.refl, R⟩
  | cons q r => rw [bindTs] at h <;> first | exact h.elim | (intros; simp)
theorem assigns_cons (ok : FmOk Γ Φ) {t : TG} {ts : List TG} {e : Expr} {es : List Expr} (h1 : AsgOk Γ n Φ t e) (h2 : AsgsOk Γ n Φ ts es) : AsgsOk Γ n Φ (t :: ts) (e :: es) := by
  intro A μ vs ps ρ s K hA G R hv h
  cases hv with
  | nil => rw [bindTs] at h <;> first | exact h.elim | (intros; simp)
  | cons q r =>
    rw [bindTs] at h
    refine assignInOrder_cons (wpAny_mono (h1 hA G R q h) (fun _ s₁ ⟨ρ₁, h₁, G₁, x, R₁⟩ => ?_) fun _ _ e => e)
    exact wpAny_mono (h2 hA G₁ R₁ (r.mono (x.toIm ok.sub)) h₁) (fun _ s₂ P => PostA.trans x P) fun _ _ e => e
theorem assign_sem (ok : FmOk Γ Φ) {tg : TG} {e : Expr} (h : TgR Φ tg e) : AsgOk Γ n Φ tg e :=
  TgR.rec (motive_1 := fun tg e _ => AsgOk Γ n Φ tg e) (motive_2 := fun ts es _ => AsgsOk Γ n Φ ts es)
    (by intro i x pos hi hx A μ v p ρ s K hA G R hv h; exact wpAny_assign_Name (store_sem ok hi hx G R hv h))
    (fun {ts es k pos} hts ih {A μ v p ρ s K} hA G R hv h => by
      rw [bindT] at h
      cases p <;> first | exact h.elim | skip
      obtain ⟨a, vs, m, rfl, q, r⟩ := hv.tup_inv
      exact unpack_of ok hts ih hA ⟨_, q.1, rfl, m, rfl⟩ G R r h.1 h.2)
    assigns_nil (fun _ _ h1 h2 => assigns_cons ok h1 h2) h
theorem assigns_sem (ok : FmOk Γ Φ) {ts : List TG} {es : List Expr} (h : TgRs Φ ts es) : AsgsOk Γ n Φ ts es :=
  TgRs.rec (motive_1 := fun _ _ _ => True) (motive_2 := fun ts es _ => AsgsOk Γ n Φ ts es) (fun _ _ => trivial) (fun _ _ => trivial) assigns_nil (fun h1 _ _ ih => assigns_cons ok (assign_sem ok h1) ih) h
end
end Mine

open PySem PySem.Calls PyProof.Rows PySem.W
set_option maxRecDepth 100000
set_option linter.unusedVariables false
set_option linter.unusedSectionVars false
set_option backward.match.sparseCases false
namespace Mine

noncomputable def Got (e : Expr) (i : Im) (h : Heap) (v : Value) (p : PV) : Prop := VR i v p ∨ (∃ elts k pos, e = .Tuple elts k pos) ∧ ∃ T vals ps, v = .ref T ∧ p = .tup ps ∧ h.IsTuple T (List.toArray vals) ∧ VRs i vals ps

structure WalkP (Γ : Gl) (A : Around) (e : Expr) (I : Addr) (own src : List Addr) (items : List PV) (im₀ : Im) (St : Nat → Heap → Prop) : Prop where
  frame : ∀ i h h', St i h → (∀ b ∈ own ++ src, ∀ o, h.get? b = some o → h'.get? b = some o) → St i h'
  item : ∀ i (s : Shared) (Q : Value → Shared → Prop) (p : PV), nth items i = some p → St i s.heap →
    (∀ v h' tk, St (i + 1) h' → (∀ b o, b ∉ own → s.heap.get? b = some o → h'.get? b = some o) → (∀ b ∈ own, ∃ o, h'.get? b = some o) → (∀ i : Im, (∀ a o, im₀ a o → i a o) → Got e i h' v p) → Q v { s with heap := h', toks := tk }) →
    wpAny (model Γ.prog Γ.w) A (pyNext (.ref I)) (fun r s₁ => match r with
      | none => False
      | some v => wpAny (model Γ.prog Γ.w) A (letOwnedTupleGo e (.ref I) v) (fun _ s₂ => Q v s₂) (fun _ _ => False) s₁) (fun _ _ => False) s
  done : ∀ (s : Shared) (Q : Shared → Prop), St items.length s.heap →
    (∀ h' tk, (∀ b o, b ∉ own → s.heap.get? b = some o → h'.get? b = some o) → Q { s with heap := h', toks := tk }) →
    wpAny (model Γ.prog Γ.w) A (pyNext (.ref I)) (fun r s₁ => match r with
      | none => Q s₁
      | some v => False) (fun _ _ => False) s
  self : ∀ i (s : Shared) (Q : Value → Shared → Prop), St i s.heap → Q (.ref I) s → wpAny (model Γ.prog Γ.w) A (pyIter (.ref I)) Q (fun _ _ => False) s

theorem letGo_plain {M : Model} {A : Around} {E : Value → Shared → Prop} {s : Shared} {e : Expr} {I : Addr} {o : Obj} {v : Value} {T : String} {Q : Unit → Shared → Prop} (ho : s.heap.get? I = some o) (hc : o.cls = .type T)
    (hT : ["enumerate", "zip", "dict_itemiterator", "dict_reverseitemiterator", "odict_iterator", "itertools.zip_longest", "itertools.pairwise"].contains T = false) (h : Q () s) : wpAny M A (letOwnedTupleGo e (.ref I) v) Q E s := by
  have tup : ∀ es k p, wpAny M A (letOwnedTupleGo (.Tuple es k p) (.ref I) v) Q E s := fun es k p => by
    cases v <;> first | exact wpAny_pure h | skip
    refine wpAny_bind (wpAny_load ho ?_)
    rw [hc]
    cases o.data <;> first | exact wpAny_pure h | skip
    dsimp only
    rw [hT, Bool.false_and, if_neg (by simp)]
    exact wpAny_pure h
  cases e <;> first | exact wpAny_pure h | exact tup _ _ _ | exact tup [] 0 ⟨0, 0, 0, 0⟩

section
variable {Γ : Gl} {A : Around} {e : Expr} {I a : Addr} {im₀ : Im}

theorem WalkP.ofWalks {n : Nat} {P : Nat → Value → Prop} {St : Nat → Heap → Prop} {fp : List Addr} {src : List Addr} {items : List PV} {T : String} (W : Walks Γ.prog Γ.w A I fp [I] n P St) (hfp : ∀ b ∈ fp, b ∈ [I] ++ src) (hn : n = items.length)
    (hI : ∀ i h, St i h → ∃ o, h.get? I = some o ∧ o.cls = .type T) (hT : ["enumerate", "zip", "dict_itemiterator", "dict_reverseitemiterator", "odict_iterator", "itertools.zip_longest", "itertools.pairwise"].contains T = false)
    (hP : ∀ i v p, nth items i = some p → P i v → ∀ j : Im, (∀ a o, im₀ a o → j a o) → VR j v p) : WalkP Γ A e I [I] src items im₀ St where
  frame := fun i h h' st hk => W.frame i h h' st fun b hb o e => hk b (hfp b hb) o e
  item := fun i s Q p hp st hQ => by
    have hlt : i < n := by rw [hn]; rw [nth_eq] at hp; exact (List.getElem?_eq_some_iff.mp hp).1
    refine W.item i s _ _ hlt st fun v h' tk hv st' hk => ?_
    obtain ⟨o, ho, hc⟩ := hI _ _ st'
    refine letGo_plain (s := { s with heap := h', toks := tk }) ho hc hT (hQ v h' tk st' hk (fun b hb => ?_) fun j hj => .inl (hP i v p hp hv j hj))
    obtain rfl := List.mem_singleton.mp hb
    exact ⟨o, ho⟩
  done := fun s Q st hQ => W.done s _ _ (hn ▸ st) fun h' tk hk => hQ h' tk hk
  self := fun i s Q st hQ => W.self i s Q _ st hQ

theorem WalkP.ofT {n : Nat} {Pt : Nat → Array Value → Prop} {St : Nat → Heap → Prop} {Mid : Nat → Addr → Heap → Prop} {fp wr own : List Addr} {src : List Addr} {items : List PV} {elts : List Expr} {k : Nat} {pos : Pos}
    (W : WalksT Γ.prog Γ.w A I fp wr n Pt St Mid) (hfp : ∀ b ∈ fp, b ∈ own ++ src) (hwr : ∀ b ∈ wr, b ∈ own) (hn : n = items.length) (hl : ∀ i h, St i h → ∀ b ∈ own, ∃ o, h.get? b = some o)
    (hP : ∀ i vals p, nth items i = some p → Pt i vals → ∀ j : Im, (∀ a o, im₀ a o → j a o) → ∃ ps, p = .tup ps ∧ VRs j vals.toList ps) : WalkP Γ A (.Tuple elts k pos) I own src items im₀ St where
  frame := fun i h h' st hk => W.frame i h h' st fun b hb o e => hk b (hfp b hb) o e
  item := fun i s Q p hp st hQ => by
    have hlt : i < n := by rw [hn]; rw [nth_eq] at hp; exact (List.getElem?_eq_some_iff.mp hp).1
    refine W.item i s _ _ hlt st fun T vals h' tk hv _ hT hm hk => ?_
    refine W.go elts k pos i T { s with heap := h', toks := tk } _ _ hm fun h₂ st₂ hk₂ => ?_
    refine hQ (.ref T) h₂ tk st₂ (fun b o hb e => hk₂ b o (fun z => hb (hwr b z)) (hk b o (fun z => hb (hwr b z)) e)) (hl _ _ st₂) fun j hj => ?_
    obtain ⟨ps, e, r⟩ := hP i vals p hp hv j hj
    obtain ⟨o, ho, hc⟩ := hT
    refine .inr ⟨⟨_, _, _, rfl⟩, T, vals.toList, ps, rfl, e, ⟨o, hk₂ T o (W.apart _ _ _ hm) ho, ?_⟩, r⟩
    simpa using hc
  done := fun s Q st hQ => W.done s _ _ (hn ▸ st) fun h' tk hk => hQ h' tk fun b o hb e => hk b o (fun z => hb (hwr b z)) e
  self := fun i s Q st hQ => W.self i s Q _ st hQ
end

inductive SrcAt (Γ : Gl) (F : List Addr) (s : Shared) (μ : Mu) (e : Expr) (Q : List PV → Mu → Prop) (it : Value) (s₂ : Shared) : Prop
  | mk (I : Addr) (own src : List Addr) (items : List PV) (St : Nat → Heap → Prop) (im₀ : Im) (μ₁ : Mu) : it = .ref I → Q items μ₁ → GS Γ (own ++ F) μ₁ s₂ → Step [] s μ s₂ μ₁ → St 0 s₂.heap → (∀ A' : Around, A'.handled = none → WalkP Γ A' e I own src items im₀ St) →
    (∀ a o, im₀ a o → im (own ++ F) μ₁ s₂.heap a o) → (∀ b ∈ src, (∃ o, s₂.heap.get? b = some o) ∧ ro (μ₁ b) = true ∧ b ∉ own ++ F) → (∀ b ∈ own, s.heap.get? b = none) → SrcAt Γ F s μ e Q it s₂
noncomputable def TI (Γ : Gl) (n : Nat) (Φ : Fm) (ρ : Rho) (μ : Mu) (e : Expr) (first : Sem Value) (Q : List PV → Mu → Prop) : Prop :=
  ∀ A s, Room n A → GS Γ Φ.F μ s → FR Φ ρ μ s → wpAny (model Γ.prog Γ.w) A first (fun x s₁ => wpAny (model Γ.prog Γ.w) A (pyIter x) (fun it s₂ => SrcAt Γ Φ.F s μ e Q it s₂) (fun _ _ => False) s₁) (fun _ _ => False) s

section
variable {Γ : Gl} {n : Nat} {F : List Addr} {μ μ₁ : Mu} {s s₁ : Shared} {A : Around} {Q : List PV → Mu → Prop} {e : Expr}

theorem GS.own {h' : Heap} {tk : Nat} {own : List Addr} (G : GS Γ F μ s) (hf : ∀ b ∈ own, s.heap.get? b = none) (he : ∀ b o, s.heap.get? b = some o → h'.get? b = some o) (hl : ∀ b ∈ own, ∃ o, h'.get? b = some o) :
    GS Γ (own ++ F) μ { s with heap := h', toks := tk } := by
  have hne : ∀ b o, s.heap.get? b = some o → b ∉ own := fun b o e z => by rw [hf b z] at e; cases e
  refine ⟨fun b o e => he b o (G.keep b o e), fun b o e => ⟨(G.off b o e).1, fun z => ?_⟩, fun a h => ?_, fun a m e => (G.mo a m e).mono (fun a o ⟨q, r, t⟩ => ⟨he a o q, r, fun z => ?_⟩) fun o q => he a o q, G.gens, G.os⟩
  · rcases List.mem_append.mp z with z | z
    · exact hne _ o (G.keep _ o e) z
    · exact (G.off b o e).2 z
  · rcases List.mem_append.mp h with h | h
    · exact ⟨hl a h, G.fresh (hf a h)⟩
    · exact ⟨let ⟨o, e⟩ := (G.live a h).1; ⟨o, he a o e⟩, (G.live a h).2⟩
  · rcases List.mem_append.mp z with z | z
    · exact hne _ o q z
    · exact t z
theorem im_own {h' : Heap} {own : List Addr} (hf : ∀ b ∈ own, s.heap.get? b = none) (he : ∀ b o, s.heap.get? b = some o → h'.get? b = some o) : ∀ a o, im F μ s.heap a o → im (own ++ F) μ h' a o := fun a o ⟨q, r, t⟩ => by
  refine ⟨he a o q, r, fun z => ?_⟩
  rcases List.mem_append.mp z with z | z
  · rw [hf a z] at q; cases q
  · exact t z
theorem none_of_le {h : Heap} {a : Addr} (ha : h.objs.size ≤ a) : h.get? a = none := by
  cases q : h.get? a with
  | none => rfl
  | some o => exact absurd (Heap.lt_size q) (Nat.not_lt.mpr ha)
theorem intKind_is_shape {prog : Program} {w : World} {k : Int} {v : Value} (h : (intKind prog w).is k v = true) : ∃ t, v = .int k t := Value.isInt_shape h

theorem kvr_at {i : Im} {kvs : List (Int × Value)} {es : List (Int × PV)} (h : KVR i kvs es) : ∀ {j k x}, kvs[j]? = some (k, x) → nth (es.map fun x => PV.int x.1) j = some (.int k) := by
  induction h with
  | nil => intro j k x h; cases j <;> cases h
  | cons q r ih =>
    intro j k x h
    cases j with
    | zero => cases h; rfl
    | succ j => exact ih h

theorem src_lst {v : Value} {l : List PV} (hA : Room n A) (G : GS Γ F μ s) (hv : VR (im F μ s.heap) v (.lst l)) (h : Q l μ) : wpAny (model Γ.prog Γ.w) A (pyIter v) (SrcAt Γ F s μ e Q) (fun _ _ => False) s := by
  obtain ⟨a, vs, m, rfl, q, r⟩ := hv.lst_inv
  have hlt := Heap.lt_size q.1
  have he : ∀ b o', s.heap.get? b = some o' → (s.heap.push { cls := .type "list_iterator", data := .fields #[.ref a, .int 0 0] }).get? b = some o' := fun b o' e => Heap.get?_push_of_some _ e
  have hf : ∀ b ∈ [s.heap.objs.size], s.heap.get? b = none := fun b hb => by rw [List.mem_singleton.mp hb]; exact none_size _
  refine wpAny_pyIter_list (IsL.isList q.1) ⟨s.heap.objs.size, [s.heap.objs.size], [a], l, _, im F μ s.heap, μ, rfl, h, G.own (tk := s.toks) hf he (fun b hb => by rw [List.mem_singleton.mp hb]; exact ⟨_, Heap.get?_push_size _ rfl⟩),
    Step.of_ext (tk := s.toks) he, ?_, fun A' hA' => WalkP.ofWalks (Walks.list (A := A') hA' s.heap.objs.size a (Nat.ne_of_lt hlt) vs.toArray) (by simp) (by simp [r.length]) (fun i h st => ?_) (T := "list_iterator") (by decide) fun i v p hp hv j hj => ?_, im_own hf he, fun b hb => ?_, hf⟩
  · exact ⟨⟨_, Heap.get?_push_size _ rfl, rfl, rfl⟩, (IsL.isList q.1).push _⟩
  · obtain ⟨o, ho, hc, _⟩ := st.1; exact ⟨o, ho, hc⟩
  · obtain ⟨p', e', r'⟩ := (r.mono hj).getv (i := i) (v := v) (by simpa using hv)
    rw [nth_eq, e'] at hp; cases hp; exact r'
  · rw [List.mem_singleton.mp hb]
    refine ⟨⟨_, he _ _ q.1⟩, by rw [q.2.1]; rfl, fun z => ?_⟩
    rcases List.mem_append.mp z with z | z
    · exact Nat.ne_of_lt hlt (List.mem_singleton.mp z)
    · exact q.2.2 z
theorem src_tup {v : Value} {l : List PV} (hA : Room n A) (G : GS Γ F μ s) (hv : VR (im F μ s.heap) v (.tup l)) (h : Q l μ) : wpAny (model Γ.prog Γ.w) A (pyIter v) (SrcAt Γ F s μ e Q) (fun _ _ => False) s := by
  obtain ⟨a, vs, m, rfl, q, r⟩ := hv.tup_inv
  have hT : s.heap.IsTuple a vs.toArray := ⟨_, q.1, rfl, m, rfl⟩
  have hlt := Heap.lt_size q.1
  have he : ∀ b o', s.heap.get? b = some o' → (s.heap.push { cls := .type "tuple_iterator", data := .fields #[.ref a, .int 0 0] }).get? b = some o' := fun b o' e => Heap.get?_push_of_some _ e
  have hf : ∀ b ∈ [s.heap.objs.size], s.heap.get? b = none := fun b hb => by rw [List.mem_singleton.mp hb]; exact none_size _
  refine wpAny_pyIter_tuple hT ⟨s.heap.objs.size, [s.heap.objs.size], [a], l, _, im F μ s.heap, μ, rfl, h, G.own (tk := s.toks) hf he (fun b hb => by rw [List.mem_singleton.mp hb]; exact ⟨_, Heap.get?_push_size _ rfl⟩),
    Step.of_ext (tk := s.toks) he, ?_, fun A' hA' => WalkP.ofWalks (Walks.tuple (A := A') hA' s.heap.objs.size a (Nat.ne_of_lt hlt) vs.toArray) (by simp) (by simp [r.length]) (fun i h st => ?_) (T := "tuple_iterator") (by decide) fun i v p hp hv j hj => ?_, im_own hf he, fun b hb => ?_, hf⟩
  · exact ⟨⟨_, Heap.get?_push_size _ rfl, rfl, rfl⟩, hT.push _⟩
  · obtain ⟨o, ho, hc, _⟩ := st.1; exact ⟨o, ho, hc⟩
  · obtain ⟨p', e', r'⟩ := (r.mono hj).getv (i := i) (v := v) (by simpa using hv)
    rw [nth_eq, e'] at hp; cases hp; exact r'
  · rw [List.mem_singleton.mp hb]
    refine ⟨⟨_, he _ _ q.1⟩, by rw [q.2.1]; rfl, fun z => ?_⟩
    rcases List.mem_append.mp z with z | z
    · exact Nat.ne_of_lt hlt (List.mem_singleton.mp z)
    · exact q.2.2 z
theorem src_map {d : Addr} {es : List (Int × PV)} (hA : Room n A) (G : GS Γ F μ s) (hm : μ d = some (.imap es)) (h : Q (es.map fun x => .int x.1) μ) : wpAny (model Γ.prog Γ.w) A (pyIter (.ref d)) (SrcAt Γ F s μ e Q) (fun _ _ => False) s := by
  obtain ⟨kvs, q1, r1⟩ := G.mo d _ hm
  obtain ⟨ep, q2⟩ := q1.dictAt
  have hlt := q2.lt_size
  have hl : kvs.length = es.length := by have := congrArg List.length (kvr_keys r1); simpa using this
  have hmod : (d == sysModules) = false := by
    refine beq_eq_false_iff_ne.mpr fun e => ?_
    subst e
    obtain ⟨o, ho⟩ := Γ.mods
    rw [(G.off _ _ ho).1] at hm
    cases hm
  have he : ∀ b o', s.heap.get? b = some o' → (s.heap.push { cls := .type "dict_keyiterator", data := .fields #[.ref d, .int 0 0, .int kvs.length 0, .int ep 0] }).get? b = some o' := fun b o' e => Heap.get?_push_of_some _ e
  have hf : ∀ b ∈ [s.heap.objs.size], s.heap.get? b = none := fun b hb => by rw [List.mem_singleton.mp hb]; exact none_size _
  refine wpAny_pyIter_dict hmod q2 ⟨s.heap.objs.size, [s.heap.objs.size], [d], _, _, im F μ s.heap, μ, rfl, h, G.own (tk := s.toks) hf he (fun b hb => by rw [List.mem_singleton.mp hb]; exact ⟨_, Heap.get?_push_size _ rfl⟩),
    Step.of_ext (tk := s.toks) he, ?_, fun A' hA' => WalkP.ofWalks (Walks.dictKeys (knd := intKind Γ.prog Γ.w) (A := A') hA' s.heap.objs.size d (Nat.ne_of_lt hlt) kvs ep) (by simp) (by simp [hl]) (fun i h st => ?_) (T := "dict_keyiterator") (by decide) fun i v p hp hv j hj => ?_, im_own hf he, fun b hb => ?_, hf⟩
  · exact ⟨⟨_, Heap.get?_push_size _ rfl, rfl, rfl⟩, q2.push _⟩
  · obtain ⟨o, ho, hc, _⟩ := st.1; exact ⟨o, ho, hc⟩
  · obtain ⟨k, x, hx, hk⟩ := hv
    obtain ⟨t, rfl⟩ := intKind_is_shape hk
    have z := kvr_at r1 hx
    rw [z] at hp; cases hp
    exact .int _ _
  · rw [List.mem_singleton.mp hb]
    obtain ⟨o, _, ho, _⟩ := q2
    refine ⟨⟨_, he _ _ ho⟩, by rw [hm]; rfl, fun z => ?_⟩
    rcases List.mem_append.mp z with z | z
    · exact Nat.ne_of_lt hlt (List.mem_singleton.mp z)
    · rw [(G.live d z).2] at hm; cases hm
theorem rangeP_at : ∀ (n : Nat) (a : Int) (i : Nat) (p : PV), nth (rangeP a n) i = some p → p = .int (a + i)
  | 0, a, i, p, h => by simp [rangeP, nth] at h
  | n + 1, a, 0, p, h => by simp [rangeP, nth] at h; simp [← h]
  | n + 1, a, i + 1, p, h => by
    simp only [rangeP, nth] at h
    rw [rangeP_at n (a + 1) i p h]
    congr 1; push_cast; omega
theorem rangeP_length : ∀ (n : Nat) (a : Int), (rangeP a n).length = n
  | 0, _ => rfl
  | n + 1, a => by simp [rangeP, rangeP_length n]
theorem src_range {a b : Int} {tk : Nat} {h' : Heap} {r : Addr} {t u v : Tok} (hA : Room n A) (G : GS Γ F μ s) (ha : a.natAbs ≤ big) (hb : b ≤ big) (hb' : -(big : Int) ≤ b) (he₀ : ∀ b o', s.heap.get? b = some o' → h'.get? b = some o') (hr : IsRange h' r a b 1 t u v) (h : Q (rangeP a (b - a).toNat) μ) :
    wpAny (model Γ.prog Γ.w) A (pyIter (.ref r)) (SrcAt Γ F s μ e Q) (fun _ _ => False) { s with heap := h', toks := tk } := by
  unfold big at ha hb hb'
  have hsm := small_one (a := a) (b := b) (by omega) (by omega) (by omega) (by omega)
  refine wpAny_pyIter_range (s := { s with heap := h', toks := tk }) hr hsm ?_
  rw [rangeSize_nat]
  have he : ∀ c o', s.heap.get? c = some o' → (h'.push { cls := .type "range_iterator", data := .fields #[rawInt a, rawInt ((b - a).toNat : Int), rawInt 1] }).get? c = some o' := fun c o' e => Heap.get?_push_of_some _ (he₀ c o' e)
  have hf : ∀ b ∈ [h'.objs.size], s.heap.get? b = none := fun b hb => by
    rw [List.mem_singleton.mp hb]
    cases q : s.heap.get? h'.objs.size with
    | none => rfl
    | some o => have := he₀ _ _ q; rw [none_size] at this; cases this
  refine ⟨h'.objs.size, [h'.objs.size], [], _, _, im F μ s.heap, μ, rfl, h, G.own (tk := tk) hf he (fun b hb => by rw [List.mem_singleton.mp hb]; exact ⟨_, Heap.get?_push_size _ rfl⟩),
    Step.of_ext (tk := tk) he, ?_, fun A' hA' => WalkP.ofWalks (Walks.range (A := A') hA' h'.objs.size a 1 (b - a).toNat) (by simp) (by simp [rangeP_length]) (fun i h st => ?_) (T := "range_iterator") (by decide) fun i v p hp hv j hj => ?_, im_own hf he, fun b hb => (by simp at hb), hf⟩
  · have z := Heap.get?_push_size h' (o := { cls := .type "range_iterator", data := .fields #[rawInt a, rawInt ((b - a).toNat : Int), rawInt 1] }) rfl
    show IsRangeIter _ _ (a + ((0 : Nat) : Int) * 1) (((b - a).toNat : Int) - ((0 : Nat) : Int)) 1
    simpa [IsRangeIter] using z
  · exact ⟨_, st, rfl⟩
  · obtain ⟨t', rfl⟩ := hv
    rw [rangeP_at _ _ _ _ hp, Int.mul_one]
    exact .int _ _

theorem zipP_at {i : Im} {vs ws : List Value} {l m : List PV} (h : VRs i vs l) : VRs i ws m → ∀ {j : Nat} {p : PV} {x y : Value}, nth (zipP l m) j = some p → vs[j]? = some x → ws[j]? = some y → ∃ ps, p = .tup ps ∧ VRs i [x, y] ps :=
  VRs.ind (C := fun vs l => ∀ {ws m}, VRs i ws m → ∀ {j : Nat} {p : PV} {x y : Value}, nth (zipP l m) j = some p → vs[j]? = some x → ws[j]? = some y → ∃ ps, p = .tup ps ∧ VRs i [x, y] ps)
  (fun {ws m} k {j p x y} h _ _ => by cases j <;> cases h) (fun q r ih => fun {ws m} k {j p x y} h hx hy => by
    cases k with
    | nil => cases j <;> cases hy
    | cons q' r' =>
      cases j with
      | zero => cases h; cases hx; cases hy; exact ⟨_, rfl, .cons q (.cons q' .nil)⟩
      | succ j => exact ih r' h hx hy) h
theorem zipP_length : ∀ (l m : List PV), (zipP l m).length = min l.length m.length
  | [], _ => by simp [zipP]
  | _ :: _, [] => by simp [zipP]
  | p :: l, q :: m => by simp only [zipP, List.length_cons, zipP_length l m]; omega
theorem enumP_at {i : Im} {vs : List Value} {l : List PV} (h : VRs i vs l) : ∀ {k j : Nat} {p : PV} {x : Value} {t : Tok}, nth (enumP k l) j = some p → vs[j]? = some x → ∃ ps, p = .tup ps ∧ VRs i [.int ((k + j : Nat) : Int) t, x] ps :=
  VRs.ind (C := fun vs l => ∀ {k j : Nat} {p : PV} {x : Value} {t : Tok}, nth (enumP k l) j = some p → vs[j]? = some x → ∃ ps, p = .tup ps ∧ VRs i [.int ((k + j : Nat) : Int) t, x] ps)
  (fun {k j p x t} h _ => by cases j <;> cases h) (fun q r ih => fun {k j p x t} h hx => by
    cases j with
    | zero => cases h; cases hx; exact ⟨_, rfl, .cons (.int _ _) (.cons q .nil)⟩
    | succ j => exact Nat.succ_add_eq_add_succ k j ▸ ih (t := t) h hx) h
theorem enumP_length : ∀ (k : Nat) (l : List PV), (enumP k l).length = l.length
  | _, [] => by simp [enumP]
  | k, p :: l => by simp [enumP, enumP_length (k + 1) l]

theorem zip_apart (N a b : Nat) (h1 : a < N) (h2 : b < N) : ZipApart (N + 4) (N + 2) (N + 3) N (N + 1) a b := by
  constructor <;> exact (show (_ : Nat) ≠ (_ : Nat) by omega)
theorem src_zip {v u : Value} {l m : List PV} {elts : List Expr} {k : Nat} {pos : Pos} (hA : Room n A) (G : GS Γ F μ s) (hv : VR (im F μ s.heap) v (.lst l)) (hu : VR (im F μ s.heap) u (.lst m)) (h : Q (zipP l m) μ) :
    wpAny (model Γ.prog Γ.w) A (call (.type "zip") [v, u]) (fun z s₁ => wpAny (model Γ.prog Γ.w) A (pyIter z) (SrcAt Γ F s μ (.Tuple elts k pos) Q) (fun _ _ => False) s₁) (fun _ _ => False) s := by
  obtain ⟨a, vs, ma, rfl, q, r⟩ := hv.lst_inv
  obtain ⟨b, ws, mb, rfl, q', r'⟩ := hu.lst_inv
  have hlt := Heap.lt_size q.1
  have hlt' := Heap.lt_size q'.1
  refine call_zip_2 (IsL.isList q.1) (IsL.isList q'.1) fun h' z1 z2 z3 z4 z5 hsz he => ?_
  refine wpAny_pyIter_zip (s := { s with heap := h' }) z1 ?_
  have hf : ∀ c ∈ [s.heap.objs.size + 4, s.heap.objs.size + 2, s.heap.objs.size + 3, s.heap.objs.size, s.heap.objs.size + 1], s.heap.get? c = none := fun c hc => none_of_le (by simp at hc; omega)
  have hl : ∀ i h, (fun (i : Nat) h => IsZip h (s.heap.objs.size + 4) (s.heap.objs.size + 2) (s.heap.objs.size + 3) .none ∧ IsPair h (s.heap.objs.size + 2) (.ref s.heap.objs.size) (.ref (s.heap.objs.size + 1)) ∧ (∃ a b, IsPair h (s.heap.objs.size + 3) a b) ∧ h.IsListIter s.heap.objs.size a i ∧ h.IsListIter (s.heap.objs.size + 1) b i ∧ h.IsList a vs.toArray ∧ h.IsList b ws.toArray) i h →
      ∀ c ∈ [s.heap.objs.size + 4, s.heap.objs.size + 2, s.heap.objs.size + 3, s.heap.objs.size, s.heap.objs.size + 1], ∃ o, Heap.get? h c = some o := by
    rintro i h ⟨a1, a2, ⟨x, y, a3⟩, ⟨o4, a4, _⟩, ⟨o5, a5, _⟩, _⟩ c hc
    simp at hc
    rcases hc with rfl | rfl | rfl | rfl | rfl
    · exact ⟨_, a1⟩
    · exact ⟨_, a2⟩
    · exact ⟨_, a3⟩
    · exact ⟨_, a4⟩
    · exact ⟨_, a5⟩
  have st : (fun (i : Nat) h => IsZip h (s.heap.objs.size + 4) (s.heap.objs.size + 2) (s.heap.objs.size + 3) .none ∧ IsPair h (s.heap.objs.size + 2) (.ref s.heap.objs.size) (.ref (s.heap.objs.size + 1)) ∧ (∃ a b, IsPair h (s.heap.objs.size + 3) a b) ∧ h.IsListIter s.heap.objs.size a i ∧ h.IsListIter (s.heap.objs.size + 1) b i ∧ h.IsList a vs.toArray ∧ h.IsList b ws.toArray) 0 h' :=
    ⟨z1, z2, ⟨_, _, z3⟩, z4, z5, (IsL.isList q.1).at fun o e => he _ o e, (IsL.isList q'.1).at fun o e => he _ o e⟩
  refine ⟨s.heap.objs.size + 4, [s.heap.objs.size + 4, s.heap.objs.size + 2, s.heap.objs.size + 3, s.heap.objs.size, s.heap.objs.size + 1], [a, b], _, (fun (i : Nat) h => IsZip h (s.heap.objs.size + 4) (s.heap.objs.size + 2) (s.heap.objs.size + 3) .none ∧ IsPair h (s.heap.objs.size + 2) (.ref s.heap.objs.size) (.ref (s.heap.objs.size + 1)) ∧ (∃ a b, IsPair h (s.heap.objs.size + 3) a b) ∧ h.IsListIter s.heap.objs.size a i ∧ h.IsListIter (s.heap.objs.size + 1) b i ∧ h.IsList a vs.toArray ∧ h.IsList b ws.toArray), im F μ s.heap, μ, rfl, h, G.own (tk := s.toks) hf he (hl 0 h' st), Step.of_ext (tk := s.toks) he, st, fun A' hA' => ?_, im_own hf he, fun c hc => ?_, hf⟩
  · have D := zip_apart s.heap.objs.size a b hlt hlt'
    refine WalkP.ofT (WalksT.zip2 (A := A') hA' _ _ _ _ _ a b D vs.toArray ws.toArray) (by simp) (by simp) ?_ hl fun i vals p hp hP j hj => ?_
    · rw [zipP_length, List.size_toArray, List.size_toArray, r.length, r'.length]
    · obtain ⟨x, y, hx, hy, rfl⟩ := hP
      exact zipP_at (r.mono hj) (r'.mono hj) hp (by simpa using hx) (by simpa using hy)
  · have nf : ∀ {c o}, im F μ s.heap c o → (∃ o, h'.get? c = some o) ∧ ro (μ c) = true ∧ c ∉ [s.heap.objs.size + 4, s.heap.objs.size + 2, s.heap.objs.size + 3, s.heap.objs.size, s.heap.objs.size + 1] ++ F := fun {c o} q => by
      refine ⟨⟨_, he _ _ q.1⟩, by rw [q.2.1]; rfl, fun z => ?_⟩
      rcases List.mem_append.mp z with z | z
      · exact absurd (q.1.symm.trans (hf c z)) (by simp)
      · exact q.2.2 z
    simp at hc
    rcases hc with rfl | rfl
    · exact nf q
    · exact nf q'
theorem src_enum {v : Value} {l : List PV} {elts : List Expr} {k : Nat} {pos : Pos} (hA : Room n A) (G : GS Γ F μ s) (hv : VR (im F μ s.heap) v (.lst l)) (h : Q (enumP 0 l) μ) :
    wpAny (model Γ.prog Γ.w) A (call (.type "enumerate") [v]) (fun z s₁ => wpAny (model Γ.prog Γ.w) A (pyIter z) (SrcAt Γ F s μ (.Tuple elts k pos) Q) (fun _ _ => False) s₁) (fun _ _ => False) s := by
  obtain ⟨a, vs, ma, rfl, q, r⟩ := hv.lst_inv
  have hlt := Heap.lt_size q.1
  refine call_enumerate_list (IsL.isList q.1) fun h' z1 z2 hsz he => ?_
  refine wpAny_pyIter_enum (s := { s with heap := h' }) z1 ?_
  have hf : ∀ c ∈ [s.heap.objs.size + 1, s.heap.objs.size], s.heap.get? c = none := fun c hc => none_of_le (by simp at hc; omega)
  have hl : ∀ i h, (fun (i : Nat) h => (∃ old, IsEnum h (s.heap.objs.size + 1) s.heap.objs.size i old) ∧ h.IsListIter s.heap.objs.size a i ∧ h.IsList a vs.toArray) i h → ∀ c ∈ [s.heap.objs.size + 1, s.heap.objs.size], ∃ o, Heap.get? h c = some o := by
    rintro i h ⟨⟨_, a1⟩, ⟨o4, a4, _⟩, _⟩ c hc
    simp at hc
    rcases hc with rfl | rfl
    · exact ⟨_, a1⟩
    · exact ⟨_, a4⟩
  have st : (fun (i : Nat) h => (∃ old, IsEnum h (s.heap.objs.size + 1) s.heap.objs.size i old) ∧ h.IsListIter s.heap.objs.size a i ∧ h.IsList a vs.toArray) 0 h' :=
    ⟨⟨_, z1⟩, z2, (IsL.isList q.1).at fun o e => he _ o e⟩
  refine ⟨s.heap.objs.size + 1, [s.heap.objs.size + 1, s.heap.objs.size], [a], _, (fun (i : Nat) h => (∃ old, IsEnum h (s.heap.objs.size + 1) s.heap.objs.size i old) ∧ h.IsListIter s.heap.objs.size a i ∧ h.IsList a vs.toArray), im F μ s.heap, μ, rfl, h, G.own (tk := s.toks) hf he (hl 0 h' st), Step.of_ext (tk := s.toks) he, st, fun A' hA' => ?_, im_own hf he, fun c hc => ?_, hf⟩
  · refine WalkP.ofT (WalksT.enumerate (A := A') hA' _ _ a (Nat.succ_ne_self _) (Nat.ne_of_lt (Nat.lt_succ_of_lt hlt)) (Nat.ne_of_lt hlt) vs.toArray) (by simp) (by simp) ?_ hl fun i vals p hp hP j hj => ?_
    · rw [enumP_length, List.size_toArray, r.length]
    · obtain ⟨t, x, hx, rfl⟩ := hP
      have z := enumP_at (r.mono hj) (t := t) hp (by simpa using hx)
      simpa using z
  · obtain rfl := List.mem_singleton.mp hc
    refine ⟨⟨_, he _ _ q.1⟩, by rw [q.2.1]; rfl, fun z => ?_⟩
    rcases List.mem_append.mp z with z | z
    · exact absurd (q.1.symm.trans (hf c z)) (by simp)
    · exact q.2.2 z
end
end Mine

open PySem PySem.Calls PyProof.Rows PySem.W
set_option maxRecDepth 100000
set_option linter.unusedVariables false
set_option linter.unusedSectionVars false
set_option backward.match.sparseCases false
namespace Mine

noncomputable def ownAt : Nat → List (Str × NameKind) → List Nat
  | _, [] => []
  | i, (_, k) :: r => if k == .local || k == .cell then i :: ownAt (i + 1) r else ownAt (i + 1) r
theorem ownAt_mem : ∀ (l : List (Str × NameKind)) (i j : Nat), j ∈ ownAt i l → ∃ x k, i ≤ j ∧ l[j - i]? = some (x, k) ∧ (k = .local ∨ k = .cell)
  | [], i, j, h => by simp [ownAt] at h
  | (x, k) :: r, i, j, h => by
    unfold ownAt at h
    have tail : j ∈ ownAt (i + 1) r → ∃ x' k', i ≤ j ∧ ((x, k) :: r)[j - i]? = some (x', k') ∧ (k' = .local ∨ k' = .cell) := fun h => by
      obtain ⟨x', k', h1, h2, h3⟩ := ownAt_mem r (i + 1) j h
      refine ⟨x', k', by omega, ?_, h3⟩
      rw [show j - i = (j - (i + 1)) + 1 by omega]
      simpa using h2
    split at h
    · rename_i hk
      rcases List.mem_cons.mp h with rfl | h
      · refine ⟨x, k, Nat.le_refl _, by simp, ?_⟩
        cases k <;> simp at hk ⊢
      · exact tail h
    · exact tail h

theorem lookup_nodup {α : Type} : ∀ {l : List (Str × α)} {x : Str} {v : α}, (l.map (·.1)).Nodup → (x, v) ∈ l → l.lookup x = some v
  | (y, u) :: r, x, v, hn, h => by
    simp only [List.map_cons, List.nodup_cons] at hn
    rw [List.lookup_cons]
    rcases List.mem_cons.mp h with e | h
    · cases e; simp
    · have hne : (x == y) = false := beq_eq_false_iff_ne.mpr fun e => hn.1 (e ▸ List.mem_map.mpr ⟨_, h, rfl⟩)
      rw [hne]
      exact lookup_nodup hn.2 h

theorem cf_mem : ∀ (names : List (Str × NameKind)) (n : Nat) (acc : List (Str × Addr)) (x : Str) (c : Addr), (x, c) ∈ cellsFrom n names acc → (x, c) ∈ acc ∨ ((x, .cell) ∈ names ∧ n ≤ c)
  | [], _, _, _, _, h => .inl h
  | (y, k) :: r, n, acc, x, c, h => by
    unfold cellsFrom at h
    split at h
    · rename_i hk
      rcases cf_mem r _ _ x c h with h | ⟨h1, h2⟩
      · rcases List.mem_cons.mp h with e | h
        · cases e
          refine .inr ⟨?_, Nat.le_refl _⟩
          rw [beq_iff_eq.mp hk]; exact List.mem_cons_self
        · exact .inl h
      · exact .inr ⟨List.mem_cons_of_mem _ h1, by omega⟩
    · rcases cf_mem r _ _ x c h with h | ⟨h1, h2⟩
      · exact .inl h
      · exact .inr ⟨List.mem_cons_of_mem _ h1, h2⟩
theorem cf_old : ∀ (names : List (Str × NameKind)) (n : Nat) (acc : List (Str × Addr)) (p : Str × Addr), p ∈ acc → p ∈ cellsFrom n names acc
  | [], _, _, _, h => h
  | (y, k) :: r, n, acc, p, h => by
    unfold cellsFrom
    split
    · exact cf_old r _ _ p (List.mem_cons_of_mem _ h)
    · exact cf_old r _ _ p h
theorem cf_new : ∀ (names : List (Str × NameKind)) (n : Nat) (acc : List (Str × Addr)) (x : Str), (x, .cell) ∈ names → ∃ c, (x, c) ∈ cellsFrom n names acc ∧ n ≤ c
  | (y, k) :: r, n, acc, x, h => by
    unfold cellsFrom
    rcases List.mem_cons.mp h with e | h
    · cases e
      rw [if_pos (by rfl)]
      exact ⟨n, cf_old r _ _ _ List.mem_cons_self, Nat.le_refl _⟩
    · split
      · obtain ⟨c, h1, h2⟩ := cf_new r (n + 1) ((y, n) :: acc) x h
        exact ⟨c, h1, by omega⟩
      · exact cf_new r n acc x h
theorem cf_inj : ∀ (names : List (Str × NameKind)) (n : Nat) (acc : List (Str × Addr)), (∀ p ∈ acc, p.2 < n) → (∀ x y c, (x, c) ∈ acc → (y, c) ∈ acc → x = y) → ∀ x y c, (x, c) ∈ cellsFrom n names acc → (y, c) ∈ cellsFrom n names acc → x = y
  | [], _, _, _, hi, x, y, c, h1, h2 => hi x y c h1 h2
  | (z, k) :: r, n, acc, hl, hi, x, y, c, h1, h2 => by
    unfold cellsFrom at h1 h2
    split at h1
    · rename_i hk
      rw [if_pos hk] at h2
      refine cf_inj r (n + 1) ((z, n) :: acc) (fun p hp => ?_) (fun x y c h1 h2 => ?_) x y c h1 h2
      · rcases List.mem_cons.mp hp with rfl | hp
        · exact Nat.lt_succ_self _
        · exact Nat.lt_succ_of_lt (hl p hp)
      · rcases List.mem_cons.mp h1 with e1 | h1 <;> rcases List.mem_cons.mp h2 with e2 | h2
        · cases e1; cases e2; rfl
        · cases e1; exact absurd (hl _ h2) (Nat.lt_irrefl _)
        · cases e2; exact absurd (hl _ h1) (Nat.lt_irrefl _)
        · exact hi x y c h1 h2
    · rename_i hk
      rw [if_neg hk] at h2
      exact cf_inj r n acc hl hi x y c h1 h2
theorem cf_cells : ∀ (names : List (Str × NameKind)) (h : Heap) (acc : List (Str × Addr)) (lo : Nat), lo ≤ h.objs.size → (∀ p ∈ acc, lo ≤ p.2 → h.IsCell p.2 none) → ∀ p ∈ cellsFrom h.objs.size names acc, lo ≤ p.2 → (pushCells h names).IsCell p.2 none
  | [], h, acc, lo, _, ha, p, hp, hl => ha p hp hl
  | (y, k) :: r, h, acc, lo, hlo, ha, p, hp, hl => by
    unfold cellsFrom at hp
    unfold pushCells
    split at hp
    · rename_i hk
      rw [if_pos hk]
      have z := cf_cells r (h.push { cls := .type "cell", data := .cell none }) ((y, h.objs.size) :: acc) lo (by rw [Heap.size_push]; omega) (fun q hq hl => ?_) p (by rw [Heap.size_push]; exact hp) hl
      · exact z
      · rcases List.mem_cons.mp hq with rfl | hq
        · exact ⟨_, Heap.get?_push_size _ rfl, rfl⟩
        · exact (ha q hq hl).keeps fun b o e => Heap.get?_push_of_some _ e
    · rename_i hk
      rw [if_neg hk]
      exact cf_cells r h acc lo hlo ha p hp hl

theorem closure_eq {env : Env} : ∀ (names : List (Str × NameKind)) (acc : List (Str × Addr)), (∀ x, (x, .free) ∈ names → ∃ c, env.cells.lookup x = some c) →
    ∃ cl, (forIn names acc fun (p : Str × NameKind) (cs : List (Str × Addr)) => (if p.2 == .free then (do let c ← cellOf env p.1; pure (.yield ((p.1, c) :: cs))) else pure (.yield cs) : Sem (ForInStep (List (Str × Addr))))) = pure cl ∧
      (∀ p ∈ cl, p ∈ acc ∨ (env.cells.lookup p.1 = some p.2 ∧ (p.1, .free) ∈ names)) ∧ (∀ p ∈ acc, p ∈ cl) ∧ (∀ x, (x, .free) ∈ names → ∃ c, (x, c) ∈ cl)
  | [], acc, _ => ⟨acc, by rw [List.forIn_nil], fun p h => .inl h, fun p h => h, fun x h => by simp at h⟩
  | (y, k) :: r, acc, hf => by
    have hr : ∀ x, (x, .free) ∈ r → ∃ c, env.cells.lookup x = some c := fun x h => hf x (List.mem_cons_of_mem _ h)
    by_cases hk : k = .free
    · subst hk
      obtain ⟨c, hc⟩ := hf y List.mem_cons_self
      obtain ⟨cl, h1, h2, h3, h4⟩ := closure_eq r ((y, c) :: acc) hr
      refine ⟨cl, ?_, fun p hp => ?_, fun p hp => h3 p (List.mem_cons_of_mem _ hp), fun x hx => ?_⟩
      · rw [List.forIn_cons]
        have e : cellOf env y = pure c := by unfold cellOf; rw [hc]
        simp only [beq_self_eq_true, if_true, e, pure_bind]
        exact h1
      · rcases h2 p hp with h | ⟨h, h'⟩
        · rcases List.mem_cons.mp h with rfl | h
          · exact .inr ⟨hc, List.mem_cons_self⟩
          · exact .inl h
        · exact .inr ⟨h, List.mem_cons_of_mem _ h'⟩
      · rcases List.mem_cons.mp hx with e | hx
        · cases e; exact ⟨c, h3 _ List.mem_cons_self⟩
        · exact h4 x hx
    · obtain ⟨cl, h1, h2, h3, h4⟩ := closure_eq r acc hr
      refine ⟨cl, ?_, fun p hp => ?_, h3, fun x hx => ?_⟩
      · rw [List.forIn_cons]
        have e : (k == NameKind.free) = false := by simpa using hk
        simp only [e, Bool.false_eq_true, if_false, pure_bind]
        exact h1
      · rcases h2 p hp with h | ⟨h, h'⟩
        · exact .inl h
        · exact .inr ⟨h, List.mem_cons_of_mem _ h'⟩
      · rcases List.mem_cons.mp hx with e | hx
        · cases e; exact absurd rfl hk
        · exact h4 x hx
theorem closureFor_ok {env : Env} {scope : Scope} (hf : ∀ x, (x, .free) ∈ scope.names → ∃ c, env.cells.lookup x = some c) :
    ∃ cl, closureFor scope env = pure cl ∧ (∀ p ∈ cl, env.cells.lookup p.1 = some p.2 ∧ (p.1, .free) ∈ scope.names) ∧ (∀ x, (x, .free) ∈ scope.names → ∃ c, (x, c) ∈ cl) := by
  obtain ⟨cl, h1, h2, h3, h4⟩ := closure_eq scope.names [] hf
  refine ⟨cl, ?_, fun p hp => (h2 p hp).resolve_left (by simp), h4⟩
  unfold closureFor
  simp only [bind_pure]
  rw [← h1]


noncomputable def newW (L : Addr) (names : List (Str × NameKind)) (cl : List (Str × Addr)) : List Addr := L :: ((cellsFrom (L + 1) names cl).filter fun p => decide (L < p.2)).map (·.2)
theorem newW_mem {L : Addr} {names : List (Str × NameKind)} {cl : List (Str × Addr)} {c : Addr} (h : c ∈ newW L names cl) : c = L ∨ ∃ x, (x, c) ∈ cellsFrom (L + 1) names cl ∧ L < c := by
  rcases List.mem_cons.mp h with h | h
  · exact .inl h
  · obtain ⟨p, hp, rfl⟩ := List.mem_map.mp h
    obtain ⟨h1, h2⟩ := List.mem_filter.mp hp
    exact .inr ⟨p.1, h1, of_decide_eq_true h2⟩

structure Tab (env : Env) (names : List (Str × NameKind)) : Prop where
  nd : (names.map (·.1)).Nodup
  read : ∀ x k, (x, k) ∈ names → env.kindOf x = some k ∨ (k = .free ∧ env.kindOf x = some .cell)
  back : ∀ x k', env.kindOf x = some k' → ∃ k, (x, k) ∈ names ∧ (k' = k ∨ (k = .free ∧ k' = .cell))

structure Clo (h : Heap) (μ : Mu) (names : List (Str × NameKind)) (cl : List (Str × Addr)) : Prop where
  cell : ∀ p ∈ cl, (∃ v, h.IsCell p.2 v) ∧ μ p.2 = none ∧ (p.1, .free) ∈ names
  inj : ∀ x y c, (x, c) ∈ cl → (y, c) ∈ cl → x = y
  all : ∀ x, (x, .free) ∈ names → ∃ c, (x, c) ∈ cl

theorem lookup_some {α : Type} : ∀ {l : List (Str × α)} {x : Str} {v : α}, (x, v) ∈ l → ∃ u, l.lookup x = some u
  | (y, u) :: r, x, v, h => by
    rw [List.lookup_cons]
    cases e : x == y with
    | true => exact ⟨u, rfl⟩
    | false =>
      rcases List.mem_cons.mp h with q | h
      · cases q; simp at e
      · exact lookup_some h
theorem nodup_kind {names : List (Str × NameKind)} (hn : (names.map (·.1)).Nodup) {x : Str} {k k' : NameKind} (h : (x, k) ∈ names) (h' : (x, k') ∈ names) : k = k' := by
  have a := lookup_nodup hn h
  rw [lookup_nodup hn h'] at a
  exact (Option.some.inj a).symm

section
variable {Γ : Gl} {F : List Addr} {μ : Mu} {s : Shared} {env : Env} {names : List (Str × NameKind)} {cl : List (Str × Addr)} {o : Obj}

theorem new_live (hd : o.isFreed = false) : ∀ b ∈ newW s.heap.objs.size names cl, (∀ p ∈ cl, p.2 < s.heap.objs.size) → ∃ o', (pushCells (s.heap.push o) names).get? b = some o' := fun b hb hcl => by
  rcases newW_mem hb with rfl | ⟨x, hx, hl⟩
  · exact ⟨o, pushCells_keeps _ _ _ _ (Heap.get?_push_size _ hd)⟩
  · have hsz : (s.heap.push o).objs.size = s.heap.objs.size + 1 := Heap.size_push ..
    have z := cf_cells names (s.heap.push o) cl (s.heap.objs.size + 1) (by rw [hsz]; exact Nat.le_refl _) (fun q hq hl => absurd (hcl q hq) (Nat.not_lt.mpr (Nat.le_of_succ_le hl))) (x, b) (by rw [hsz]; exact hx) hl
    obtain ⟨o', e, _⟩ := z
    exact ⟨o', e⟩
theorem Clo.lt (C : Clo s.heap μ names cl) : ∀ p ∈ cl, p.2 < s.heap.objs.size := fun p hp => by
  obtain ⟨⟨v, o, e, _⟩, _⟩ := C.cell p hp
  exact Heap.lt_size e
theorem new_gs (G : GS Γ F μ s) (C : Clo s.heap μ names cl) (hd : o.isFreed = false) (tk : Nat) : GS Γ (newW s.heap.objs.size names cl ++ F) μ { s with heap := pushCells (s.heap.push o) names, toks := tk } :=
  G.own (fun b hb => none_of_le (by
    rcases newW_mem hb with rfl | ⟨x, hx, hl⟩
    · exact Nat.le_refl _
    · exact Nat.le_of_lt hl)) (fun b o' e => pushCells_keeps _ _ _ _ (Heap.get?_push_of_some _ e)) fun b hb => new_live hd b hb C.lt

theorem new_ok (T : Tab env names) (C : Clo s.heap μ names cl) (hk : env.scope.kind = .function) (hg : env.globals = mainGlobals) (hb : env.builtins = builtinsNs) (hL : env.locals = s.heap.objs.size) (hc : env.cells = cellsFrom (s.heap.objs.size + 1) names cl) :
    FmOk Γ ⟨env, names.map (·.1), ownAt 0 names, newW s.heap.objs.size names cl, newW s.heap.objs.size names cl ++ F⟩ := by
  have mem : ∀ x c, env.cells.lookup x = some c → (x, c) ∈ cellsFrom (s.heap.objs.size + 1) names cl := fun x c h => by rw [hc] at h; exact mem_of_lookup h
  refine ⟨hk, hg, hb, T.nd, fun a ha => List.mem_append_left _ ha, by rw [hL]; exact List.mem_cons_self, fun i hi x hx => ?_, fun x hx => ?_, fun x c h => ?_, fun x y c h1 h2 => ?_⟩
  · obtain ⟨y, k, _, h2, h3⟩ := ownAt_mem names 0 i hi
    rw [Nat.sub_zero] at h2
    dsimp only at hx
    rw [List.getElem?_map, h2] at hx
    cases hx
    have hm := List.mem_of_getElem? h2
    rcases h3 with rfl | rfl
    · rcases T.read _ _ hm with h | ⟨h, _⟩
      · exact .inl h
      · cases h
    · rcases T.read _ _ hm with h | ⟨h, _⟩
      · refine .inr ⟨h, ?_⟩
        obtain ⟨c, hcm, _⟩ := cf_new names (s.heap.objs.size + 1) cl y hm
        obtain ⟨c', hc'⟩ := lookup_some hcm
        refine ⟨c', by rw [hc]; exact hc', ?_⟩
        have hm' := mem_of_lookup hc'
        rcases cf_mem _ _ _ _ _ hm' with h' | ⟨_, h'⟩
        · have := nodup_kind T.nd hm (C.cell _ h').2.2
          cases this
        · exact List.mem_cons_of_mem _ (List.mem_map.mpr ⟨_, List.mem_filter.mpr ⟨hm', decide_eq_true h'⟩, rfl⟩)
      · cases h
  · have out : ∀ c, (x, c) ∈ cellsFrom (s.heap.objs.size + 1) names cl → ∃ c, env.cells.lookup x = some c := fun c h => by rw [hc]; exact lookup_some h
    have free : (x, .free) ∈ names → ∃ c, env.cells.lookup x = some c := fun h => by
      obtain ⟨c, h'⟩ := C.all x h
      exact out c (cf_old _ _ _ _ h')
    rcases hx with hx | hx
    · obtain ⟨k, h1, h2⟩ := T.back x _ hx
      rcases h2 with rfl | ⟨rfl, _⟩
      · obtain ⟨c, h', _⟩ := cf_new names (s.heap.objs.size + 1) cl x h1
        exact out c h'
      · exact free h1
    · obtain ⟨k, h1, h2⟩ := T.back x _ hx
      rcases h2 with rfl | ⟨_, h⟩
      · exact free h1
      · cases h
  · rw [hL]
    rcases cf_mem _ _ _ _ _ (mem x c h) with h' | ⟨_, h'⟩
    · exact Nat.ne_of_lt (C.lt _ h')
    · exact Nat.ne_of_gt h'
  · exact cf_inj names _ cl (fun p hp => Nat.lt_succ_of_lt (C.lt p hp)) C.inj x y c (mem x c h1) (mem y c h2)

theorem new_fr (T : Tab env names) (C : Clo s.heap μ names cl) (G : GS Γ F μ s) (hd : o.data = .dict #[]) (hL : env.locals = s.heap.objs.size) (hc : env.cells = cellsFrom (s.heap.objs.size + 1) names cl) {ρ : Rho} (hl : ρ.length = names.length) (tk : Nat)
    (hv : ∀ i x p, (names.map (·.1))[i]? = some x → getS ρ i = some p → ∃ v c, (x, .free) ∈ names ∧ env.cells.lookup x = some c ∧ (x, c) ∈ cl ∧ s.heap.IsCell c (some v) ∧ VR (im F μ s.heap) v p) :
    FR ⟨env, names.map (·.1), ownAt 0 names, newW s.heap.objs.size names cl, newW s.heap.objs.size names cl ++ F⟩ ρ μ { s with heap := pushCells (s.heap.push o) names, toks := tk } := by
  have hfr : o.isFreed = false := by obtain ⟨_, _, dt, _⟩ := o; cases hd; rfl
  have he : ∀ b o', s.heap.get? b = some o' → (pushCells (s.heap.push o) names).get? b = some o' := fun b o' e => pushCells_keeps _ _ _ _ (Heap.get?_push_of_some _ e)
  have hf : ∀ b ∈ newW s.heap.objs.size names cl, s.heap.get? b = none := fun b hb => none_of_le (by
    rcases newW_mem hb with rfl | ⟨x, hx, hl⟩
    · exact Nat.le_refl _
    · exact Nat.le_of_lt hl)
  refine ⟨by simpa using hl, ⟨fun _ => none, ?_⟩, fun x c h => ?_, fun i x p hx hp => ?_⟩
  · dsimp only
    rw [hL]
    exact ⟨o, #[], 0, pushCells_keeps _ _ _ _ (Heap.get?_push_size _ hfr), hd, fun e he => by simp at he, fun n => by simp [nsFind, findBy]⟩
  · dsimp only at h
    rw [hc] at h
    have hm := mem_of_lookup h
    rcases cf_mem _ _ _ _ _ hm with h' | ⟨_, h'⟩
    · obtain ⟨⟨v, a⟩, b, _⟩ := C.cell _ h'
      exact ⟨b, v, a.keeps he⟩
    · have hsz : (s.heap.push o).objs.size = s.heap.objs.size + 1 := Heap.size_push ..
      refine ⟨G.fresh (none_of_le (Nat.le_of_lt h')), none, ?_⟩
      exact cf_cells names (s.heap.push o) cl (s.heap.objs.size + 1) (by rw [hsz]; exact Nat.le_refl _) (fun q hq hl => absurd (C.lt q hq) (Nat.not_lt.mpr (Nat.le_of_succ_le hl))) (x, c) (by rw [hsz]; exact hm) h'
  · obtain ⟨v, c, h1, h2, h3, h4, h5⟩ := hv i x p hx hp
    refine ⟨v, .inr ⟨?_, c, h2, h4.keeps he⟩, h5.mono (im_own hf he)⟩
    rcases T.read _ _ h1 with h | ⟨_, h⟩
    · exact .inr h
    · exact .inl h
end
end Mine

open PySem PySem.Calls PyProof.Rows PySem.W
set_option maxRecDepth 100000
set_option linter.unusedVariables false
set_option linter.unusedSectionVars false
set_option backward.match.sparseCases false
namespace Mine

section
variable {Γ : Gl} {F X Y : List Addr} {μ μ₁ μ₂ : Mu} {s s₁ s₂ : Shared}

theorem Step.over (x : Step X s μ s₁ μ₁) (y : Step Y s₁ μ₁ s₂ μ₂) (h : ∀ a ∈ Y, a ∉ X → s.heap.get? a = none) : Step X s μ s₂ μ₂ := by
  have roK : ∀ a o, s.heap.get? a = some o → ro (μ a) = true → ro (μ₁ a) = true := fun a o e hm => by
    cases q : μ₁ a with
    | none => rfl
    | some m =>
      rcases x.fresh a m q with ⟨m', z⟩ | z
      · rw [z] at hm
        cases m' with
        | imap es => rw [x.held a es z] at q; cases q; rfl
        | _ => cases hm
      · rw [e] at z; cases z
  refine ⟨fun a o e hm hw => ?_, fun a es e => y.held a es (x.held a es e), fun a m e => ?_, fun a o e => ?_⟩
  · refine y.keep a o (x.keep a o e hm hw) (roK a o e hm) fun hy => ?_
    rw [h a hy hw] at e; cases e
  · rcases y.fresh a m e with ⟨m', q⟩ | q
    · exact x.fresh a m' q
    · cases h' : μ a with
      | some m' => exact .inl ⟨m', rfl⟩
      | none =>
        right
        cases g : s.heap.get? a with
        | none => rfl
        | some o =>
          obtain ⟨o', q'⟩ := x.live a o g
          rw [q] at q'; cases q'
  · obtain ⟨o₁, e₁⟩ := x.live a o e
    exact y.live a o₁ e₁
theorem Step.imMore {more : List Addr} (x : Step X s μ s₁ μ₁) (hm : ∀ b ∈ more, s.heap.get? b = none) (hX : ∀ b ∈ X, b ∈ F) : ∀ a o, im F μ s.heap a o → im (more ++ F) μ₁ s₁.heap a o := fun a o q => by
  obtain ⟨e, r, t⟩ := x.toIm hX a o q
  refine ⟨e, r, fun z => ?_⟩
  rcases List.mem_append.mp z with z | z
  · exact absurd (q.1.symm.trans (hm a z)) (by simp)
  · exact t z
theorem Step.roK (x : Step X s μ s₁ μ₁) {a : Addr} {o : Obj} (e : s.heap.get? a = some o) (hm : ro (μ a) = true) : ro (μ₁ a) = true := by
  cases q : μ₁ a with
  | none => rfl
  | some m =>
    rcases x.fresh a m q with ⟨m', z⟩ | z
    · rw [z] at hm
      cases m' with
      | imap es => rw [x.held a es z] at q; cases q; rfl
      | _ => cases hm
    · rw [e] at z; cases z

theorem GS.turn {own : List Addr} {h' : Heap} {tk : Nat} (G : GS Γ F μ s) (ho : ∀ a ∈ own, a ∈ F) (hk : ∀ b o, b ∉ own → s.heap.get? b = some o → h'.get? b = some o) (hl : ∀ b ∈ own, ∃ o, h'.get? b = some o) : GS Γ F μ { s with heap := h', toks := tk } := by
  refine ⟨fun b o e => hk b o (fun z => (G.off b o e).2 (ho b z)) (G.keep b o e), G.off, fun b hb => ⟨?_, (G.live b hb).2⟩, fun b m e => ?_, G.gens, G.os⟩
  · by_cases z : b ∈ own
    · exact hl b z
    · obtain ⟨o, e⟩ := (G.live b hb).1
      exact ⟨o, hk b o z e⟩
  · have z : b ∉ own := fun z => by rw [(G.live b (ho b z)).2] at e; cases e
    exact (G.mo b m e).mono (fun c o q => ⟨hk c o (fun z => q.2.2 (ho c z)) q.1, q.2.1, q.2.2⟩) fun o q => hk b o z q
theorem Step.turn {own : List Addr} {h' : Heap} {tk : Nat} (hk : ∀ b o, b ∉ own → s.heap.get? b = some o → h'.get? b = some o) (hl : ∀ b ∈ own, ∃ o, h'.get? b = some o) : Step own s μ { s with heap := h', toks := tk } μ :=
  ⟨fun b o e _ hb => hk b o hb e, fun _ _ e => e, fun _ m e => .inl ⟨m, e⟩, fun b o e => by
    by_cases z : b ∈ own
    · exact hl b z
    · exact ⟨o, hk b o z e⟩⟩
theorem Step.drop {own : List Addr} {s' : Shared} {h' : Heap} {tk : Nat} (x : Step X s μ s' μ₁) (hk : ∀ b o, b ∉ own → s'.heap.get? b = some o → h'.get? b = some o) (hf : ∀ b ∈ own, s.heap.get? b = none) : Step X s μ { s' with heap := h', toks := tk } μ₁ :=
  ⟨fun b o e hm hb => hk b o (fun z => by rw [hf b z] at e; cases e) (x.keep b o e hm hb), x.held, x.fresh, fun b o e => by
    obtain ⟨o', e'⟩ := x.live b o e
    exact ⟨o', hk b o' (fun z => by rw [hf b z] at e; cases e) e'⟩⟩
theorem GS.forget {own : List Addr} {h' : Heap} {tk : Nat} (G : GS Γ (own ++ F) μ s) (hd : ∀ a ∈ own, a ∉ F) (hk : ∀ b o, b ∉ own → s.heap.get? b = some o → h'.get? b = some o) : GS Γ F μ { s with heap := h', toks := tk } := by
  have off : ∀ b, b ∉ own ++ F → b ∉ own := fun b h z => h (List.mem_append_left _ z)
  refine ⟨fun b o e => hk b o (off b (G.off b o e).2) (G.keep b o e), fun b o e => ⟨(G.off b o e).1, fun z => (G.off b o e).2 (List.mem_append_right _ z)⟩, fun b hb => ?_, fun b m e => ?_, G.gens, G.os⟩
  · obtain ⟨⟨o, e⟩, r⟩ := G.live b (List.mem_append_right _ hb)
    exact ⟨⟨o, hk b o (fun z => hd b z hb) e⟩, r⟩
  · have z : b ∉ own := fun z => by rw [(G.live b (List.mem_append_left _ z)).2] at e; cases e
    exact (G.mo b m e).mono (fun c o q => ⟨hk c o (off c q.2.2) q.1, q.2.1, fun w => q.2.2 (List.mem_append_right _ w)⟩) fun o q => hk b o z q
theorem im_forget {own : List Addr} {h' : Heap} (hk : ∀ b o, b ∉ own → s.heap.get? b = some o → h'.get? b = some o) : ∀ a o, im (own ++ F) μ s.heap a o → im F μ h' a o := fun a o q =>
  ⟨hk a o (fun z => q.2.2 (List.mem_append_left _ z)) q.1, q.2.1, fun w => q.2.2 (List.mem_append_right _ w)⟩
theorem GS.adopt {D : Addr} {l : List PV} {vs : List Value} {n : Nat} (G : GS Γ (D :: F) μ s) (hD : D ∉ F) (ho : s.heap.get? D = some (W.listOf vs.toArray n)) (hv : VRs (im (D :: F) μ s.heap) vs l) : GS Γ F (μ.set D (.list l)) s := by
  have hm := (G.live D List.mem_cons_self).2
  have hi : ∀ a o, im (D :: F) μ s.heap a o → im F (μ.set D (.list l)) s.heap a o := fun a o q => by
    have hne : a ≠ D := fun e => q.2.2 (e ▸ List.mem_cons_self)
    exact ⟨q.1, by rw [Mu.set_ne hne]; exact q.2.1, fun w => q.2.2 (List.mem_cons_of_mem _ w)⟩
  refine ⟨G.keep, fun b o e => ?_, fun b hb => ?_, fun b m e => ?_, G.gens, G.os⟩
  · have z := (G.off b o e).2
    exact ⟨by rw [Mu.set_ne (show b ≠ D from fun e => z (by rw [e]; exact List.mem_cons_self))]; exact (G.off b o e).1, fun w => z (List.mem_cons_of_mem _ w)⟩
  · obtain ⟨a, r⟩ := G.live b (List.mem_cons_of_mem _ hb)
    exact ⟨a, by rw [Mu.set_ne (show b ≠ D from fun e => hD (by rw [← e]; exact hb))]; exact r⟩
  · by_cases z : b = D
    · subst z; rw [Mu.set_self] at e; cases e
      exact ⟨vs, n, ho, hv.mono hi⟩
    · rw [Mu.set_ne z] at e
      exact (G.mo b m e).mono hi fun o q => q
theorem Step.adopt {D : Addr} {m : MO} (x : Step [] s μ s₁ μ₁) (h : s.heap.get? D = none) (hm : μ₁ D = none) : Step [] s μ s₁ (μ₁.set D m) := by
  refine ⟨x.keep, fun a es e => ?_, fun a k e => ?_, x.live⟩
  · have z := x.held a es e
    rw [Mu.set_ne (show a ≠ D from fun e => by subst e; rw [hm] at z; cases z)]; exact z
  · by_cases z : a = D
    · subst z; exact .inr h
    · rw [Mu.set_ne z] at e; exact x.fresh a k e
end

section
variable {Γ : Gl} {n : Nat} {Φ : Fm} {ρ : Rho} {μ : Mu} {A : Around} {s : Shared}
noncomputable def TF (Γ : Gl) (n : Nat) (Φ : Fm) (ρ : Rho) (μ : Mu) (ifs : List Expr) (Q : Bool → Mu → Prop) : Prop :=
  ∀ A s, Room n A → GS Γ Φ.F μ s → FR Φ ρ μ s → wpAny (model Γ.prog Γ.w) A (forIn ifs true fun c r => if r = true then do let ok ← isTrue c Φ.env (eval c Φ.env); pure (ForInStep.yield ok) else pure (ForInStep.yield r)) (PostB Γ Φ.F s μ Q) (fun _ _ => False) s
theorem tf_nil {Q : Bool → Mu → Prop} (h : Q true μ) : TF Γ n Φ ρ μ [] Q := fun A s hA G R => by
  rw [List.forIn_nil]
  exact wpAny_pure (PostB.here G h)
theorem tests_skip {M : Model} {E : Value → Shared → Prop} {env : Env} {Q : Bool → Shared → Prop} : ∀ {ifs : List Expr} {s : Shared}, Q false s → wpAny M A (forIn ifs false fun c r => if r = true then do let ok ← isTrue c env (eval c env); pure (ForInStep.yield ok) else pure (ForInStep.yield r)) Q E s
  | [], s, h => by rw [List.forIn_nil]; exact wpAny_pure h
  | c :: r, s, h => by
    rw [List.forIn_cons]
    simp only [Bool.false_eq_true, if_false]
    exact wpAny_bind (wpAny_pure (tests_skip h))
theorem tf_cons {Q : Bool → Mu → Prop} {c : Expr} {r : List Expr} (ok : FmOk Γ Φ) (h : TB Γ n Φ ρ μ (isTrue c Φ.env (eval c Φ.env)) fun b μ₁ => if b then TF Γ n Φ ρ μ₁ r Q else Q false μ₁) : TF Γ n Φ ρ μ (c :: r) Q := fun A s hA G R => by
  rw [List.forIn_cons]
  simp only [if_true]
  refine wpAny_bind (wpAny_bind (h.wp hA G R ok fun b s₁ μ₁ h₁ G₁ x R₁ => wpAny_pure ?_))
  cases b with
  | false => exact tests_skip (PostB.trans x (PostB.here G₁ h₁))
  | true => exact wp_transB x (h₁ A s₁ hA G₁ R₁)
theorem TF.wp {ifs : List Expr} {Q : Bool → Mu → Prop} (h : TF Γ n Φ ρ μ ifs Q) (hA : Room n A) (G : GS Γ Φ.F μ s) (R : FR Φ ρ μ s) (ok : FmOk Γ Φ) {K : Bool → Shared → Prop}
    (hK : ∀ v s₁ μ₁, Q v μ₁ → GS Γ Φ.F μ₁ s₁ → Step [] s μ s₁ μ₁ → FR Φ ρ μ₁ s₁ → K v s₁) : wpAny (model Γ.prog Γ.w) A (forIn ifs true fun c r => if r = true then do let ok ← isTrue c Φ.env (eval c Φ.env); pure (ForInStep.yield ok) else pure (ForInStep.yield r)) K (fun _ _ => False) s :=
  wpAny_mono (h A s hA G R) (fun v s₁ ⟨μ₁, hq, G₁, x⟩ => hK v s₁ μ₁ hq G₁ x (R.step ok G x)) fun _ _ e => e

theorem assign_got (ok : FmOk Γ Φ) {tg : TG} {e : Expr} (ht : TgR Φ tg e) (hA : Room n A) {v : Value} {p : PV} {K : Rho → Prop} (G : GS Γ Φ.F μ s) (R : FR Φ ρ μ s) (hv : Got e (im Φ.F μ s.heap) s.heap v p) (h : bindT tg p ρ K) :
    wpAny (model Γ.prog Γ.w) A (assign e Φ.env v) (fun _ => PostA Γ Φ s μ K) (fun _ _ => False) s := by
  rcases hv with hv | ⟨⟨_, _, _, rfl⟩, T, vals, ps, rfl, rfl, hT, hv⟩
  · exact assign_sem (n := n) ok ht hA G R hv h
  · cases ht with
    | many hts =>
      rw [bindT] at h
      exact unpack_of ok hts (assigns_sem (n := n) ok hts) hA hT G R hv h.1 h.2

theorem newEnv_nil {M : Model} {E : Value → Shared → Prop} {scope : Scope} {globals : Addr} {cl : List (Str × Addr)} {qual : Str} {func : Option Addr} {code : Value} {around : Option Env} {builtins : Addr} {Q : Env → Shared → Prop}
    (h : Q (newEnv scope s.heap.objs.size globals (cellsFrom (s.heap.objs.size + 1) scope.names cl) qual func code around builtins) { s with heap := pushCells (s.heap.push { cls := .type (if around.isSome then "dict" else "frame"), data := .dict #[] }) scope.names }) :
    wpAny M A (newFunctionEnv scope globals cl [] qual func code around builtins) Q E s := by
  unfold newFunctionEnv
  refine wpAny_bind (wpAny_alloc ?_)
  refine wpAny_bind (wpAny_layCells _ (fun name kind cells => by cases hkc : kind == NameKind.cell <;> simp [hkc]) _ _ _ _ ?_)
  rw [show ({ s with heap := s.heap.push { cls := .type (if around.isSome then "dict" else "frame"), data := .dict #[] } } : Shared).heap.objs.size = s.heap.objs.size + 1 from Heap.size_push ..]
  cases around with
  | none => simp only [List.forIn_nil]; exact wpAny_bind (wpAny_pure (wpAny_pure h))
  | some o => simp only [List.forIn_nil]; exact wpAny_bind (wpAny_pure (wpAny_pure h))
end
end Mine

open PySem PySem.Calls PyProof.Rows PySem.W
set_option maxRecDepth 100000
set_option linter.unusedVariables false
set_option linter.unusedSectionVars false
set_option backward.match.sparseCases false
namespace Mine

structure CompOk (Φ : Fm) (scope : Scope) (init : List (Option Nat)) : Prop where
  kind : scope.kind = .function
  nd : (scope.names.map (·.1)).Nodup
  free : ∀ x, (x, .free) ∈ scope.names → Φ.env.kindOf x = some .cell ∨ Φ.env.kindOf x = some .free
  len : init.length = scope.names.length
  init : ∀ (i j : Nat) (x : Str), init[i]? = some (some j) → (scope.names.map (·.1))[i]? = some x → (x, .free) ∈ scope.names ∧ Φ.names[j]? = some x
structure CompFm (Φ Φc : Fm) (scope : Scope) : Prop where
  names : Φc.names = scope.names.map (·.1)
  st : Φc.st = ownAt 0 scope.names
  scope : Φc.env.scope = relabel scope Φ.env

theorem relabel_keys (scope : Scope) (env : Env) : (relabel scope env).names.map (·.1) = scope.names.map (·.1) := by
  unfold relabel
  dsimp only
  rw [List.map_map]
  apply List.map_congr_left
  rintro ⟨x, k⟩ _
  simp only [Function.comp]
  split <;> rfl
theorem relabel_tab {scope : Scope} {env cenv : Env} (nd : (scope.names.map (·.1)).Nodup) (h : cenv.scope = relabel scope env) : Tab cenv scope.names := by
  have nd' : ((relabel scope env).names.map (·.1)).Nodup := by rw [relabel_keys]; exact nd
  refine ⟨nd, fun x k hm => ?_, fun x k' hk => ?_⟩
  · have hm' : (if (k == .free && env.scope.kind == .function && env.kindOf x == some .cell) then (x, NameKind.cell) else (x, k)) ∈ (relabel scope env).names := by
      unfold relabel
      exact List.mem_map.mpr ⟨(x, k), hm, rfl⟩
    unfold Env.kindOf
    rw [h]
    split at hm'
    · rename_i hc
      simp only [Bool.and_eq_true, beq_iff_eq] at hc
      exact .inr ⟨hc.1.1, lookup_nodup nd' hm'⟩
    · exact .inl (lookup_nodup nd' hm')
  · unfold Env.kindOf at hk
    rw [h] at hk
    have hm := mem_of_lookup hk
    unfold relabel at hm
    obtain ⟨⟨y, k⟩, hy, e⟩ := List.mem_map.mp hm
    dsimp only at e
    split at e
    · rename_i hc
      simp only [Bool.and_eq_true, beq_iff_eq] at hc
      cases e
      exact ⟨_, hy, .inr ⟨hc.1.1, rfl⟩⟩
    · cases e
      exact ⟨_, hy, .inl rfl⟩

theorem getS_none {α : Type} : ∀ (l : List α) (i : Nat), getS (l.map fun _ => none) i = none
  | [], _ => rfl
  | _ :: _, 0 => rfl
  | _ :: r, i + 1 => getS_none r i
theorem initR_length : ∀ (init : List (Option Nat)) (ρ : Rho), (initR init ρ).length = init.length
  | [], _ => rfl
  | none :: r, ρ => by simp [initR, initR_length r ρ]
  | some i :: r, ρ => by simp [initR, initR_length r ρ]
theorem initR_get : ∀ (init : List (Option Nat)) (ρ : Rho) (i : Nat) (p : PV), getS (initR init ρ) i = some p → ∃ j, init[i]? = some (some j) ∧ getS ρ j = some p
  | [], ρ, i, p, h => by simp [initR, getS] at h
  | none :: r, ρ, 0, p, h => by simp [initR, getS] at h
  | none :: r, ρ, i + 1, p, h => by
    simp only [initR, getS] at h
    simpa using initR_get r ρ i p h
  | some j :: r, ρ, 0, p, h => by simp only [initR, getS] at h; exact ⟨j, by simp, h⟩
  | some j :: r, ρ, i + 1, p, h => by
    simp only [initR, getS] at h
    simpa using initR_get r ρ i p h

theorem wpE {M : Model} {A : Around} {α : Type} {t : Sem α} {K : α → Shared → Prop} {E : Value → Shared → Prop} {s : Shared} (h : wpAny M A t K (fun _ _ => False) s) : wpAny M A t K E s := wpAny_mono h (fun _ _ x => x) fun _ _ e => e.elim
theorem wp_next {M : Model} {A : Around} {α : Type} {I : Value} {e : Expr} {K : Option Value → Sem α} {k : Value → Sem α} {Q : α → Shared → Prop} {E : Value → Shared → Prop} {s : Shared}
    (h : wpAny M A (pyNext I) (fun r s₁ => match r with
      | none => False
      | some v => wpAny M A (letOwnedTupleGo e I v) (fun _ s₂ => wpAny M A (k v) Q E s₂) (fun _ _ => False) s₁) (fun _ _ => False) s)
    (hk : ∀ v, K (some v) = (letOwnedTupleGo e I v >>= fun _ => k v)) : wpAny M A (pyNext I >>= K) Q E s :=
  wpAny_bind (wpAny_mono h (fun r s₁ hr => by
    cases r with
    | none => exact hr.elim
    | some v => rw [hk]; exact wpAny_bind (wpE hr)) fun _ _ e => e.elim)
theorem wp_end {M : Model} {A : Around} {α : Type} {I : Value} {K : Option Value → Sem α} {k : Sem α} {Q : α → Shared → Prop} {E : Value → Shared → Prop} {s : Shared}
    (h : wpAny M A (pyNext I) (fun r s₁ => match r with
      | none => wpAny M A k Q E s₁
      | some v => False) (fun _ _ => False) s)
    (hk : K none = k) : wpAny M A (pyNext I >>= K) Q E s :=
  wpAny_bind (wpAny_mono h (fun r s₁ hr => by
    cases r with
    | some v => exact hr.elim
    | none => rw [hk]; exact hr) fun _ _ e => e.elim)

section
variable {Γ : Gl} {n : Nat} {Φ : Fm} {ρ : Rho} {μ : Mu} {A : Around} {s : Shared} {Q : PV → Mu → Prop}

inductive CompVC (Γ : Gl) (n : Nat) (Φ : Fm) (ρ : Rho) (scope : Scope) (init : List (Option Nat)) (tg : TG) (ifs : List Expr) (elt : Expr) (Q : PV → Mu → Prop) (items : List PV) (μ₁ : Mu) : Prop
  | mk (hN : items.length ≤ big) (J : Nat → List PV → Mu → Prop) (h0 : J 0 [] μ₁)
    (hs : ∀ i x acc μ', nth items i = some x → J i acc μ' → bindT tg x (initR init ρ) fun ρ' => ∀ Φc, FmOk Γ Φc → CompFm Φ Φc scope → TF Γ n Φc ρ' μ' ifs fun c μ₂ =>
      if c then TE Γ n Φc ρ' μ₂ (eval elt Φc.env) fun v μ₃ => J (i + 1) (acc ++ [v]) μ₃ else J (i + 1) acc μ₂)
    (he : ∀ acc μ', J items.length acc μ' → newL acc μ' Q) : CompVC Γ n Φ ρ scope init tg ifs elt Q items μ₁

inductive CompI (Γ : Gl) (F own : List Addr) (s₂ : Shared) (μ₁ : Mu) (N : Nat) (J : Nat → List PV → Mu → Prop) (St : Nat → Heap → Prop) (D : Addr) (cenv : Env) (k : Nat) (s' : Shared) : Prop
  | mk (i : Nat) (μ' : Mu) (l : List PV) (vs : List Value) (m : Nat) : k = N + 1 - i → i ≤ N → l.length ≤ i → J i l μ' → GS Γ F μ' s' → Step own s₂ μ₁ s' μ' → St i s'.heap →
      s'.heap.get? D = some (PySem.W.listOf (List.toArray vs) m) → VRs (im F μ' s'.heap) vs l → (∃ m, s'.heap.Ns cenv.locals m) → (∀ x c, cenv.cells.lookup x = some c → μ' c = none ∧ ∃ v, s'.heap.IsCell c v) → CompI Γ F own s₂ μ₁ N J St D cenv k s'
theorem comp_core {elt target iter : Expr} {ifs : List Expr} {scope : Scope} {pos : Pos} {init : List (Option Nat)} {tg : TG} {use : Option (Value → Sem Unit)} {Q' : Value → Shared → Prop} (ok : FmOk Γ Φ) (co : CompOk Φ scope init)
    (hA : Room n A) (G : GS Γ Φ.F μ s) (R : FR Φ ρ μ s) (hs : ∀ x, foldedSetIterable iter Φ.env x = pure x) (ht : ∀ Φc, CompFm Φ Φc scope → TgR Φc tg target)
    (h : TI Γ n Φ ρ μ target (eval iter Φ.env) fun items μ₁ => CompVC Γ n Φ ρ scope init tg ifs elt Q items μ₁)
    (hfin : ∀ C v s'' μ'' p, Q p μ'' → GS Γ (C :: Φ.F) μ'' s'' → Step [] s μ s'' μ'' → VR (im (C :: Φ.F) μ'' s''.heap) v p → s.heap.get? C = none → (∃ m, s''.heap.Ns C m) → compPost (model Γ.prog Γ.w) A (fun _ _ => False) use Q' v C (.ok .next) s'') :
    wpAny (model Γ.prog Γ.w) A (comprehension (.ListComp elt [⟨target, iter, ifs, 0⟩] scope pos) scope Φ.env (firstIterPos [⟨target, iter, ifs, 0⟩] pos) (newList []) false (eval iter Φ.env) use) Q' (fun _ _ => False) s := by
  have hbl := big_line
  obtain ⟨cl, hcl, hcl1, hcl2⟩ := closureFor_ok (env := Φ.env) (scope := scope) fun x hx => ok.cells x (co.free x hx)
  refine wpAny_comprehension_free rfl hs hcl co.kind (fun x hx hl => by rw [← hl]; exact lookup_nodup co.nd hx) ?_
  refine wpAny_mono (h A s hA G R) (fun xv s₁ h₁ => wpAny_mono h₁ (fun it s₂ h₂ => ?_) fun _ _ e => e) fun _ _ e => e
  obtain ⟨I, own, src, items, St, im₀, μ₁, rfl, ⟨hN, J, hJ0, hJ, hJn⟩, G₂, x₂, hst, hW, him, hsrc, hown⟩ := h₂
  refine wpAny_newObj_type (newEnv_nil ?_)
  -- the places
  generalize hD : s₂.heap.objs.size = D; revert D hD; refine id ?_; intro D hD
  generalize hH : s₂.heap.push { cls := .type "list", data := .seq ([] : List Value).toArray } = H3; revert H3 hH; refine id ?_; intro H3 hH
  have hC : H3.objs.size = D + 1 := by rw [← hH, Heap.size_push, hD]
  have hDs₂ : s₂.heap.get? D = none := by rw [← hD]; exact none_size _
  have he3 : ∀ b o, s₂.heap.get? b = some o → H3.get? b = some o := fun b o e => by rw [← hH]; exact Heap.get?_push_of_some _ e
  have hD3 : H3.get? D = some (W.listOf ([] : List Value).toArray 0) := by rw [← hH, ← hD]; exact Heap.get?_push_size _ rfl
  have G₃ : GS Γ ([D] ++ (own ++ Φ.F)) μ₁ { s₂ with heap := H3 } := G₂.own (tk := s₂.toks) (fun b hb => by rw [List.mem_singleton.mp hb]; exact hDs₂) he3 fun b hb => by rw [List.mem_singleton.mp hb]; exact ⟨_, hD3⟩
  have R₂ := R.step ok G x₂
  have liveOf : ∀ y c, Φ.env.cells.lookup y = some c → (∃ o, s.heap.get? c = some o) ∧ μ c = none := fun y c hc => by
    obtain ⟨a, v, o, e, _⟩ := R.cells y c hc
    exact ⟨⟨o, e⟩, a⟩
  have C₃ : Clo H3 μ₁ scope.names cl := by
    refine ⟨fun p hp => ?_, fun y z c hy hz => ?_, hcl2⟩
    · obtain ⟨a, b⟩ := hcl1 p hp
      obtain ⟨c, v, d⟩ := R₂.cells _ _ a
      exact ⟨⟨v, d.keeps he3⟩, c, b⟩
    · exact ok.inj _ _ _ (hcl1 _ hy).1 (hcl1 _ hz).1
  have hnone : ∀ b, s₂.heap.get? b = none → s.heap.get? b = none := fun b e => by
    cases q : s.heap.get? b with
    | none => rfl
    | some o => obtain ⟨o', e'⟩ := x₂.live b o q; rw [e] at e'; cases e'
  have hCs : s₂.heap.get? H3.objs.size = none := by rw [hC]; exact none_of_le (by rw [← hD]; exact Nat.le_succ _)
  generalize hcenv : ({ newEnv scope H3.objs.size Φ.env.globals (cellsFrom (H3.objs.size + 1) scope.names cl) Φ.env.qual none .none (some Φ.env) builtinsNs with scope := relabel scope Φ.env } : Env) = cenv; revert cenv hcenv; refine id ?_; intro cenv hcenv
  have e1 : cenv.scope = relabel scope Φ.env := by rw [← hcenv]
  have e2 : cenv.locals = H3.objs.size := by rw [← hcenv]; rfl
  have e3 : cenv.cells = cellsFrom (H3.objs.size + 1) scope.names cl := by rw [← hcenv]; rfl
  have e4 : cenv.globals = mainGlobals := by rw [← hcenv]; exact ok.glob
  have e5 : cenv.builtins = builtinsNs := by rw [← hcenv]; exact ok.blt
  have e6 : cenv.scope.kind = .function := by rw [e1]; exact co.kind
  have T := relabel_tab co.nd e1
  generalize hFc : ([D] ++ (own ++ Φ.F)) = F3 at G₃; revert F3 hFc G₃; refine id ?_; intro F3 hFc G₃
  have okc : FmOk Γ ⟨cenv, scope.names.map (·.1), ownAt 0 scope.names, newW H3.objs.size scope.names cl, newW H3.objs.size scope.names cl ++ F3⟩ :=
    new_ok (s := { s₂ with heap := H3 }) T C₃ e6 e4 e5 e2 e3
  have fm : CompFm Φ ⟨cenv, scope.names.map (·.1), ownAt 0 scope.names, newW H3.objs.size scope.names cl, newW H3.objs.size scope.names cl ++ F3⟩ scope := ⟨rfl, rfl, e1⟩
  have G₄ := new_gs (o := { cls := .type "dict", data := .dict #[] }) G₃ C₃ rfl s₂.toks
  generalize hWd : newW H3.objs.size scope.names cl = W at okc fm G₄; revert W hWd okc fm G₄; refine id ?_; intro W hWd okc fm G₄
  have Wge : ∀ b ∈ W, D < b := fun b hb => by
    rw [← hWd] at hb
    rcases newW_mem hb with rfl | ⟨x, _, h⟩
    · rw [hC]; exact Nat.lt_succ_self _
    · rw [hC] at h; exact Nat.lt_trans (Nat.lt_succ_self _) h
  have Ws₂ : ∀ b ∈ W, s₂.heap.get? b = none := fun b hb => none_of_le (by rw [hD]; exact Nat.le_of_lt (Wge b hb))
  have ownlt : ∀ b ∈ own, b < D := fun b hb => by
    obtain ⟨⟨o, e⟩, _⟩ := G₂.live b (List.mem_append_left _ hb)
    rw [← hD]; exact Heap.lt_size e
  have CW : H3.objs.size ∈ W := by rw [← hWd]; exact List.mem_cons_self
  have celR : ∀ x c, cenv.cells.lookup x = some c → c ∉ own ∧ c ≠ D := fun x c h => by
    rw [e3] at h
    rcases cf_mem _ _ _ _ _ (mem_of_lookup h) with h' | ⟨_, h'⟩
    · obtain ⟨⟨o, e⟩, _⟩ := liveOf _ _ (hcl1 _ h').1
      refine ⟨fun z => ?_, fun z => ?_⟩
      · rw [hown c z] at e; cases e
      · rw [z, hnone _ hDs₂] at e; cases e
    · rw [hC] at h'
      have : D < c := Nat.lt_of_succ_lt h'
      exact ⟨fun z => absurd (ownlt c z) (Nat.not_lt.mpr (Nat.le_of_lt this)), Nat.ne_of_gt this⟩
  have fresh : ∀ b ∈ W ++ F3, b ∉ Φ.F → s.heap.get? b = none := fun b hb hn => by
    rcases List.mem_append.mp hb with z | z
    · exact hnone b (Ws₂ b z)
    · rw [← hFc] at z
      rcases List.mem_append.mp z with z | z
      · rw [List.mem_singleton.mp z]; exact hnone _ hDs₂
      · rcases List.mem_append.mp z with z | z
        · exact hown b z
        · exact absurd z hn
  have imS : ∀ {s' : Shared} {μ' : Mu}, Step [] s μ s' μ' → ∀ a o, im Φ.F μ s.heap a o → im (W ++ F3) μ' s'.heap a o := fun x a o q => by
    obtain ⟨a1, a2, a3⟩ := x.toIm0 a o q
    exact ⟨a1, a2, fun z => absurd (q.1.symm.trans (fresh a z q.2.2)) (by simp)⟩
  have frc : ∀ {s' : Shared} {μ' : Mu}, Step [] s μ s' μ' → (∃ m, s'.heap.Ns cenv.locals m) → (∀ x c, cenv.cells.lookup x = some c → μ' c = none ∧ ∃ v, s'.heap.IsCell c v) →
      FR ⟨cenv, scope.names.map (·.1), ownAt 0 scope.names, W, W ++ F3⟩ (initR init ρ) μ' s' := fun {s' μ'} x hn hc => by
    refine ⟨by rw [initR_length, co.len]; simp, hn, hc, fun i y p hy hp => ?_⟩
    obtain ⟨j, h1, h2⟩ := initR_get _ _ _ _ hp
    obtain ⟨h3, h4⟩ := co.init i j y h1 hy
    obtain ⟨v, hv, hr⟩ := R.val j y p h4 h2
    refine ⟨v, ?_, hr.mono (imS x)⟩
    have hk := co.free y h3
    rcases hv with ⟨k, _⟩ | ⟨_, c, hc1, hc2⟩
    · rw [k] at hk; rcases hk with hk | hk <;> cases hk
    · obtain ⟨c', hc'⟩ := hcl2 y h3
      have : c' = c := by have z := (hcl1 _ hc').1; rw [hc1] at z; exact (Option.some.inj z).symm
      subst this
      obtain ⟨c2, hc3⟩ := lookup_some (cf_old scope.names (H3.objs.size + 1) cl _ hc')
      have hc4 : c2 = c' := by
        rcases cf_mem _ _ _ _ _ (mem_of_lookup hc3) with z | ⟨z, _⟩
        · exact Option.some.inj ((hcl1 _ z).1.symm.trans (hcl1 _ hc').1)
        · cases nodup_kind co.nd h3 z
      subst hc4
      have cell' : s'.heap.IsCell c2 (some v) := by
        obtain ⟨o, e, d⟩ := hc2
        exact ⟨o, x.keep _ o e (by rw [(liveOf _ _ hc1).2]; rfl) (by simp), d⟩
      refine .inr ⟨?_, c2, by rw [e3]; exact hc3, cell'⟩
      rcases T.read _ _ h3 with z | ⟨_, z⟩
      · exact .inr z
      · exact .inl z
  -- the loop
  have hN2 : items.length ≤ 100000 := hN
  have loop : ∀ s₄ : Shared, (∃ m, s₄.heap.Ns cenv.locals m) → (∀ x c, cenv.cells.lookup x = some c → μ₁ c = none ∧ ∃ v, s₄.heap.IsCell c v) → GS Γ (W ++ F3) μ₁ s₄ → Step own s₂ μ₁ s₄ μ₁ → St 0 s₄.heap → s₄.heap.get? D = some (PySem.W.listOf ([] : List Value).toArray 0) →
      codeAny (model Γ.prog Γ.w) A (.compLoop (.ListComp elt [⟨target, iter, ifs, 0⟩] scope pos) 0 (.ref I) (.ref D) cenv) (compPost (model Γ.prog Γ.w) A (fun _ _ => False) use Q' (.ref D) cenv.locals) s₄ := by
    intro s₄ hns₄ hcl₄ G₄ x₄ st₄ hD₄
    refine codeAny_loop rfl (CompI Γ (W ++ F3) own s₂ μ₁ items.length J St D cenv) ?_ (items.length + 1)
      ⟨0, μ₁, [], [], 0, rfl, Nat.zero_le _, Nat.le_refl _, hJ0, G₄, x₄, st₄, hD₄, .nil, hns₄, hcl₄⟩
    rintro k s' ⟨i, μ', l, vs, m, rfl, hi, hl, hJi, G', x', st', hD', hvs, hns', hcl'⟩
    have W' := hW A hA.1
    have ownF : ∀ a ∈ own, a ∈ W ++ F3 := fun a ha => by rw [← hFc]; exact List.mem_append_right _ (List.mem_append_right _ (List.mem_append_left _ ha))
    have DF : D ∈ W ++ F3 := by rw [← hFc]; exact List.mem_append_right _ (List.mem_append_left _ (List.mem_singleton.mpr rfl))
    have ownW : ∀ b ∈ own, b ∉ W := fun b hb hw => absurd (ownlt b hb) (Nat.not_lt.mpr (Nat.le_of_lt (Wge b hw)))
    have Dow : D ∉ own := fun h => Nat.lt_irrefl _ (ownlt D h)
    have DW : D ∉ W := fun h => Nat.lt_irrefl _ (Wge D h)
    have srcF : ∀ b ∈ src, b ∉ W ++ F3 := fun b hb z => by
      obtain ⟨⟨o, e⟩, _, h3⟩ := hsrc b hb
      rcases List.mem_append.mp z with z | z
      · rw [Ws₂ b z] at e; cases e
      · rw [← hFc] at z
        rcases List.mem_append.mp z with z | z
        · rw [List.mem_singleton.mp z, hDs₂] at e; cases e
        · exact h3 z
    have locD : cenv.locals ≠ D := by rw [e2, hC]; exact Nat.succ_ne_self _
    have lown : cenv.locals ∉ own := fun h => absurd (ownlt _ h) (by rw [e2, hC]; exact Nat.not_lt.mpr (Nat.le_succ _))
    show wpAny _ A ((compTurn (.ListComp elt [⟨target, iter, ifs, 0⟩] scope pos) 0 (.ref I) (.ref D) cenv).onRaise (fun x => do noteFrame x cenv; theTreesLotGoes x)) _ _ s'
    refine wpAny_noted ?_
    rw [compTurn_list]
    refine wpAny_bind (wpAny_standAt ?_)
    cases hnx : nth items i with
    | none =>
      have hiN : i = items.length := by
        rw [nth_eq, List.getElem?_eq_none_iff] at hnx
        omega
      subst hiN
      refine wp_end (hk := rfl) (W'.done s' _ st' fun h' tk hk => wpAny_pure ?_)
      show compPost (model Γ.prog Γ.w) A (fun _ _ => False) use Q' (.ref D) cenv.locals (.ok .next) { s' with heap := h', toks := tk }
      have Flive : ∀ a ∈ Φ.F, s.heap.get? a ≠ none := fun a ha h => by obtain ⟨⟨o, e⟩, _⟩ := G.live a ha; rw [h] at e; cases e
      have Cn : s.heap.get? cenv.locals = none := by rw [e2]; exact hnone _ hCs
      have Dn : s.heap.get? D = none := hnone _ hDs₂
      have sub : ∀ a ∈ own ++ (D :: cenv.locals :: Φ.F), a ∈ W ++ F3 := fun a ha => by
        rcases List.mem_append.mp ha with z | z
        · exact ownF a z
        · rcases List.mem_cons.mp z with rfl | z
          · exact DF
          · rcases List.mem_cons.mp z with rfl | z
            · exact List.mem_append_left _ (e2 ▸ CW)
            · rw [← hFc]; exact List.mem_append_right _ (List.mem_append_right _ (List.mem_append_right _ z))
      have Ge : GS Γ (D :: cenv.locals :: Φ.F) μ' { s' with heap := h', toks := tk } := (G'.less sub).forget (fun a ha z => by
        rcases List.mem_cons.mp z with rfl | z
        · exact Dow ha
        · rcases List.mem_cons.mp z with rfl | z
          · exact lown ha
          · exact Flive a z (hown a ha)) hk
      have ve : VRs (im (D :: cenv.locals :: Φ.F) μ' h') vs l := hvs.mono fun a o q => im_forget hk a o (im_less sub a o q)
      have De := hk _ _ Dow hD'
      have xe : Step [] s μ { s' with heap := h', toks := tk } μ' := (x₂.over x' fun a ha _ => hown a ha).drop hk hown
      have De2 : D ∉ cenv.locals :: Φ.F := fun z => by
        rcases List.mem_cons.mp z with z | z
        · exact locD z.symm
        · exact Flive D z Dn
      have nse : ∃ m, Heap.Ns h' cenv.locals m := by
        obtain ⟨m, o, es, ep, e, r⟩ := hns'
        exact ⟨m, o, es, ep, hk _ _ lown e, r⟩
      have Dm := (Ge.live D List.mem_cons_self).2
      rcases (hJn l μ' hJi).2 with hq | hq
      · exact hfin cenv.locals (.ref D) _ μ' (.lst l) hq (Ge.less fun a ha => List.mem_cons_of_mem _ ha) xe
          (.lst ⟨De, Dm, De2⟩ (ve.mono (im_less fun a ha => List.mem_cons_of_mem _ ha))) Cn nse
      · exact hfin cenv.locals (.ref D) _ _ (.ref D) (hq D Dm) (Ge.adopt De2 De ve) (xe.adopt Dn Dm) (.ref D) Cn nse
    | some p =>
      refine wp_next (hk := fun v => rfl) (W'.item i s' _ p hnx st' fun v h' tk st'' hk hlo hgot => ?_)
      have G₁ : GS Γ (W ++ F3) μ' { s' with heap := h', toks := tk } := G'.turn ownF hk hlo
      have y₁ : Step own s' μ' { s' with heap := h', toks := tk } μ' := Step.turn hk hlo
      have x₁ : Step own s₂ μ₁ { s' with heap := h', toks := tk } μ' := x'.over y₁ fun a ha hn => absurd ha hn
      have x₁s : Step [] s μ { s' with heap := h', toks := tk } μ' := x₂.over x₁ fun a ha _ => hown a ha
      have hi₀ : ∀ a o, im₀ a o → im (W ++ F3) μ' h' a o := fun a o q => by
        have q2 := him a o q
        obtain ⟨b1, b2, b3⟩ := x₁.toIm (F := own ++ Φ.F) (fun a ha => List.mem_append_left _ ha) a o q2
        refine ⟨b1, b2, fun z => ?_⟩
        rcases List.mem_append.mp z with z | z
        · exact absurd (q2.1.symm.trans (Ws₂ a z)) (by simp)
        · rw [← hFc] at z
          rcases List.mem_append.mp z with z | z
          · rw [List.mem_singleton.mp z] at q2
            exact absurd (q2.1.symm.trans hDs₂) (by simp)
          · exact b3 z
      have hns₁ : ∃ m, Heap.Ns h' cenv.locals m := by
        obtain ⟨m, o, es, ep, e, r⟩ := hns'
        exact ⟨m, o, es, ep, hk _ _ lown e, r⟩
      have hcl₁ : ∀ x c, cenv.cells.lookup x = some c → μ' c = none ∧ ∃ v, h'.IsCell c v := fun x c h => by
        obtain ⟨a1, v, o, e, d⟩ := hcl' x c h
        exact ⟨a1, v, o, hk _ _ (celR x c h).1 e, d⟩
      have R₁ := frc x₁s hns₁ hcl₁
      have facts : ∀ {se : Shared} {μe : Mu}, Step W { s' with heap := h', toks := tk } μ' se μe → Step own s₂ μ₁ se μe ∧ St (i + 1) se.heap ∧ se.heap.get? D = some (PySem.W.listOf (List.toArray vs) m) ∧ VRs (im (W ++ F3) μe se.heap) vs l := fun {se μe} z => by
        refine ⟨x₁.over z fun a ha _ => Ws₂ a ha, W'.frame _ _ _ st'' fun b hb o e => ?_, ?_, ?_⟩
        · rcases List.mem_append.mp hb with hb | hb
          · exact z.keep b o e (by rw [(G₁.live b (ownF b hb)).2]; rfl) (ownW b hb)
          · obtain ⟨⟨o', e'⟩, h2, _⟩ := hsrc b hb
            exact z.keep b o e (x₁.roK e' h2) fun hw => srcF b hb (List.mem_append_left _ hw)
        · exact z.keep D _ (hk _ _ Dow hD') (by rw [(G₁.live D DF).2]; rfl) DW
        · refine hvs.mono fun a o q => z.toIm (fun a ha => List.mem_append_left _ ha) a o ?_
          exact ⟨hk a o (fun h => q.2.2 (ownF a h)) q.1, q.2.1, q.2.2⟩
      refine wpAny_bind (wpAny_mono (assign_got (n := n) okc (ht _ fm) hA G₁ R₁ (hgot _ hi₀) (hJ i p l μ' hnx hJi)) (fun _ sa ha => ?_) fun _ _ e => e.elim)
      obtain ⟨ρ', hK, Ga, xa, Ra⟩ := ha
      refine wpAny_bind (wpE ((hK _ okc fm).wp hA Ga Ra okc fun b sb μb hb Gb xb Rb => ?_))
      have loc2 : ∀ {se : Shared} {μe : Mu} {ρ'' : Rho}, FR ⟨cenv, scope.names.map (·.1), ownAt 0 scope.names, W, W ++ F3⟩ ρ'' μe se → (∃ m, se.heap.Ns cenv.locals m) ∧ (∀ x c, cenv.cells.lookup x = some c → μe c = none ∧ ∃ v, se.heap.IsCell c v) := fun R => ⟨R.ns, R.cells⟩
      have hlt : i < items.length := by rw [nth_eq] at hnx; exact (List.getElem?_eq_some_iff.mp hnx).1
      cases b with
      | false =>
        obtain ⟨f1, f2, f3, f4⟩ := facts (xa.trans xb.wider)
        obtain ⟨g1, g2⟩ := loc2 Rb
        exact wpAny_pure ⟨rfl, items.length + 1 - (i + 1), by omega, i + 1, μb, l, vs, m, rfl, hlt, by omega, hb, Gb, f1, f2, f3, f4, g1, g2⟩
      | true =>
        refine wpAny_bind (wpAny_bind (wpE (TE.wp (t := eval elt cenv) hb hA Gb Rb okc fun y se q μe hq Ge xe Re hy => ?_)))
        obtain ⟨f1, f2, f3, f4⟩ := facts ((xa.trans xb.wider).trans xe.wider)
        obtain ⟨g1, g2⟩ := loc2 Re
        have hvl := f4.length
        refine wpAny_bind (call_meets PySem.F.slot_list_append ⟨_, f3, rfl⟩ PySem.F.entry_list_append (PySem.F.args_list_append_2 _ _) (list_append D (List.toArray vs) m y (by simp only [List.size_toArray]; omega)) ⟨f3, ?_⟩)
        refine wpAny_pure (wpAny_pure ?_)
        have up := PySem.IsL.update f3 (fun xs => xs.push y)
        have ev : (List.toArray vs).push y = (vs ++ [y]).toArray := by simp
        rw [ev] at up
        have sb : Heap.SameBut D se.heap (se.heap.update D (Obj.mapSeq fun xs => xs.push y)) := Heap.SameBut.update ..
        have Gn : GS Γ (W ++ F3) μe { se with heap := se.heap.update D (Obj.mapSeq fun xs => xs.push y), toks := se.toks } := Ge.touch DF ⟨_, up⟩ sb
        have xn : Step own s₂ μ₁ { se with heap := se.heap.update D (Obj.mapSeq fun xs => xs.push y), toks := se.toks } μe :=
          f1.over (Step.touch (W := [D]) (List.mem_singleton.mpr rfl) ⟨_, up⟩ sb) fun a ha _ => by rw [List.mem_singleton.mp ha]; exact hDs₂
        have imn := im_touch (F := W ++ F3) (μ := μe) DF sb
        refine ⟨rfl, items.length + 1 - (i + 1), by omega, i + 1, μe, l ++ [q], vs ++ [y], _, rfl, hlt, by rw [List.length_append, List.length_singleton]; omega, hq, Gn, xn, W'.frame _ _ _ f2 fun b hb o e => (sb.2 b ?_).trans e, up, (f4.mono imn).append (.one (hy.mono imn)), ?_, fun x c hc => ⟨(g2 x c hc).1, ?_⟩⟩
        · rintro rfl
          rcases List.mem_append.mp hb with hb | hb
          · exact Dow hb
          · exact srcF _ hb DF
        · obtain ⟨mm, o, es, ep, e, r⟩ := g1
          exact ⟨mm, o, es, ep, (sb.2 _ locD).trans e, r⟩
        · obtain ⟨_, v', o, e, d⟩ := g2 x c hc
          exact ⟨v', o, (sb.2 _ (celR x c hc).2).trans e, d⟩
  have start : ∀ s₄ : Shared, (∃ m, s₄.heap.Ns cenv.locals m) → (∀ x c, cenv.cells.lookup x = some c → μ₁ c = none ∧ ∃ v, s₄.heap.IsCell c v) → GS Γ (W ++ F3) μ₁ s₄ → Step own s₂ μ₁ s₄ μ₁ → St 0 s₄.heap → s₄.heap.get? D = some (PySem.W.listOf ([] : List Value).toArray 0) →
      codeAny (model Γ.prog Γ.w) A (.compStart (.ListComp elt [⟨target, iter, ifs, 0⟩] scope pos) 0 (.ref I) (.ref D) cenv) (compPost (model Γ.prog Γ.w) A (fun _ _ => False) use Q' (.ref D) cenv.locals) s₄ := fun s₄ a1 a2 a3 a4 a5 a6 =>
    codeAny_compStart_list (loop s₄ a1 a2 a3 a4 a5 a6) (wpE ((hW A hA.1).self 0 s₄ _ a5 (loop s₄ a1 a2 a3 a4 a5 a6)))
  have he4 : ∀ b o, H3.get? b = some o → (pushCells (H3.push { cls := .type "dict", data := .dict #[] }) scope.names).get? b = some o := fun b o e => pushCells_keeps _ _ _ _ (Heap.get?_push_of_some _ e)
  have x₄ : Step own s₂ μ₁ { s₂ with heap := pushCells (H3.push { cls := .type "dict", data := .dict #[] }) scope.names, toks := s₂.toks } μ₁ := Step.of_ext fun b o e => he4 b o (he3 b o e)
  have Rn := new_fr (F := F3) (ρ := scope.names.map fun _ => none) (o := { cls := .type "dict", data := .dict #[] }) T C₃ G₃ rfl e2 e3 (by simp) s₂.toks fun i y p hy hp => by
    rw [getS_none] at hp
    cases hp
  have fin := start _ Rn.ns Rn.cells G₄ x₄ ((hW A hA.1).frame _ _ _ hst fun b hb o e => he4 b o (he3 b o e)) (he4 _ _ hD3)
  subst hcenv
  exact fin
end
end Mine

open PySem PySem.Calls PyProof.Rows PySem.W
set_option maxRecDepth 100000
set_option linter.unusedVariables false
set_option linter.unusedSectionVars false
set_option backward.match.sparseCases false
namespace Mine

theorem exec_assign1 {M : Model} {A : Around} {E : Value → Shared → Prop} {s : Shared} {env : Env} {t value : Expr} {pos : Pos} {Q : Flow → Shared → Prop}
    (h : wpAny M A (eval value env) (fun v s₁ => wpAny M A (assign t env v) (fun _ => Q .next) E s₁) E s)
    (hs : swapsWith value (some t) pos.line env = pure false) (hw : swappedStores [t] value env = pure none) (ht : assignEach [t] env = [(false, assign t env)]) : wpAny M A (exec (.Assign [t] value pos) env) Q E s := by
  rw [exec_Assign]
  refine wpAny_bind (wpAny_standAt ?_)
  show wpAny M A (swapsWith value (some t) pos.line env >>= _) Q E s
  rw [hs]
  refine wpAny_bind (wpAny_pure ?_)
  rw [if_neg (by decide)]
  refine wpAny_bind (wpAny_mono h (fun v s₁ h₁ => ?_) fun _ _ x => x)
  rw [hw, ht]
  refine wpAny_bind (wpAny_pure ?_)
  show wpAny M A (do assignAll v [assign t env]; pure .next) Q E s₁
  exact wpAny_bind (wpAny_mono h₁ (fun _ _ x => wpAny_pure x) fun _ _ x => x)

section
variable {Γ : Gl} {n : Nat} {Φ : Fm} {ρ : Rho} {μ μ₁ : Mu} {A : Around} {s s₁ : Shared} {Q : FP → Rho → Mu → Prop}

theorem PostS.of_post {Q' : PV → Mu → Prop} (h : True) : True := trivial
theorem wp_transS {t : Sem Flow} (x : Step Φ.W s μ s₁ μ₁) (h : wpAny (model Γ.prog Γ.w) A t (PostS Γ Φ s₁ μ₁ Q) (fun _ _ => False) s₁) : wpAny (model Γ.prog Γ.w) A t (PostS Γ Φ s μ Q) (fun _ _ => False) s₁ :=
  wpAny_mono h (fun _ _ P => P.trans x) fun _ _ e => e
theorem TS.wp {t : Sem Flow} (h : TS Γ n Φ ρ μ t Q) (hA : Room n A) (G : GS Γ Φ.F μ s) (R : FR Φ ρ μ s) : wpAny (model Γ.prog Γ.w) A t (PostS Γ Φ s μ Q) (fun _ _ => False) s := h A s hA G R

theorem PostA.toS {K : Rho → Prop} {s' : Shared} (x : Step Φ.W s μ s₁ μ₁) (h : PostA Γ Φ s₁ μ₁ K s') (hq : ∀ ρ', K ρ' → Q .next ρ' μ₁) : PostS Γ Φ s μ Q .next s' := by
  obtain ⟨ρ', a, b, c, d⟩ := h
  exact ⟨.next, ρ', μ₁, hq ρ' a, b, x.trans c, d, trivial⟩

theorem tss_nil (h : Q .next ρ μ) : TS Γ n Φ ρ μ (execs [] Φ.env) Q := fun A s hA G R => wpAny_execs_nil ⟨.next, ρ, μ, h, G, Step.refl, R, trivial⟩
theorem tss_cons {st : Stmt} {rest : List Stmt} (h : TS Γ n Φ ρ μ (exec st Φ.env) fun fl ρ₁ μ₁ => match fl with
    | .next => TS Γ n Φ ρ₁ μ₁ (execs rest Φ.env) Q
    | .cont => Q .cont ρ₁ μ₁
    | .brk => Q .brk ρ₁ μ₁
    | .ret p => Q (.ret p) ρ₁ μ₁) : TS Γ n Φ ρ μ (execs (st :: rest) Φ.env) Q := fun A s hA G R =>
  wpAny_execs_cons (wpAny_mono (h A s hA G R) (fun f s₁ ⟨fp, ρ₁, μ₁, hq, G₁, x, R₁, hf⟩ => by
    cases f <;> cases fp <;> first | exact hf.elim | skip
    · exact wp_transS x (hq A s₁ hA G₁ R₁)
    · exact ⟨.brk, ρ₁, μ₁, hq, G₁, x, R₁, trivial⟩
    · exact ⟨.cont, ρ₁, μ₁, hq, G₁, x, R₁, trivial⟩
    · exact ⟨.ret _, ρ₁, μ₁, hq, G₁, x, R₁, hf⟩) fun _ _ e => e)

theorem ts_if {t : Expr} {b o : List Stmt} {pos : Pos} (ok : FmOk Γ Φ) (h : TB Γ n Φ ρ μ (isTrue t Φ.env (eval t Φ.env)) fun c μ₁ => if c then TS Γ n Φ ρ μ₁ (execs b Φ.env) Q else TS Γ n Φ ρ μ₁ (execs o Φ.env) Q) :
    TS Γ n Φ ρ μ (exec (.If t b o pos) Φ.env) Q := fun A s hA G R =>
  wpAny_If (h.wp hA G R ok fun c s₁ μ₁ h₁ G₁ x R₁ => by
    cases c with
    | true => exact wp_transS x.wider (TS.wp (t := execs b Φ.env) (Q := Q) h₁ hA G₁ R₁)
    | false => exact wp_transS x.wider (TS.wp (t := execs o Φ.env) (Q := Q) h₁ hA G₁ R₁))
theorem ts_ret {e : Expr} {pos : Pos} (ok : FmOk Γ Φ) (h : TE Γ n Φ ρ μ (eval e Φ.env) fun p μ₁ => Q (.ret p) ρ μ₁) : TS Γ n Φ ρ μ (exec (.Return (some e) pos) Φ.env) Q := fun A s hA G R =>
  wpAny_Return_some (h.wp hA G R ok fun v s₁ p μ₁ h₁ G₁ x R₁ hv => ⟨.ret p, ρ, μ₁, h₁, G₁, x.wider, R₁, hv⟩)
theorem ts_ret0 {pos : Pos} (h : Q (.ret .none) ρ μ) : TS Γ n Φ ρ μ (exec (.Return none pos) Φ.env) Q := fun A s hA G R =>
  wpAny_Return_none ⟨.ret .none, ρ, μ, h, G, Step.refl, R, .none⟩
theorem ts_expr {e : Expr} {pos : Pos} (ok : FmOk Γ Φ) (hs : swapsWith e none pos.line Φ.env = pure false) (h : TE Γ n Φ ρ μ (eval e Φ.env) fun _ μ₁ => Q .next ρ μ₁) : TS Γ n Φ ρ μ (exec (.Expr e pos) Φ.env) Q := fun A s hA G R =>
  wpAny_Expr_any (h.wp hA G R ok fun v s₁ p μ₁ h₁ G₁ x R₁ hv => ⟨.next, ρ, μ₁, h₁, G₁, x.wider, R₁, trivial⟩) (by unfold interactive; rw [ok.kind]; rfl) hs

theorem ts_assign {tg : TG} {t value : Expr} {pos : Pos} (ok : FmOk Γ Φ) (ht : TgR Φ tg t) (hs : swapsWith value (some t) pos.line Φ.env = pure false) (hw : swappedStores [t] value Φ.env = pure none)
    (h : TE Γ n Φ ρ μ (eval value Φ.env) fun p μ₁ => bindT tg p ρ fun ρ' => Q .next ρ' μ₁) : TS Γ n Φ ρ μ (exec (.Assign [t] value pos) Φ.env) Q := fun A s hA G R =>
  exec_assign1 (h.wp hA G R ok fun v s₁ p μ₁ h₁ G₁ x R₁ hv => wpAny_mono (assign_sem (n := n) ok ht hA G₁ R₁ hv h₁) (fun _ s₂ P => P.toS x.wider fun _ q => q) fun _ _ e => e) hs hw (ht.each [] _)

theorem setMany_append : ∀ (is : List Nat) (ps : List PV) (ρ : Rho) (i : Nat) (p : PV), is.length = ps.length → setMany ρ (is ++ [i]) (ps ++ [p]) = setS (setMany ρ is ps) i p
  | [], [], ρ, i, p, _ => by simp [setMany]
  | [], _ :: _, _, _, _, h => by simp at h
  | _ :: _, [], _, _, _, h => by simp at h
  | j :: is, q :: ps, ρ, i, p, h => by
    simp only [List.cons_append, setMany]
    exact setMany_append is ps (setS ρ j q) i p (by simpa using h)
theorem setMany_comm : ∀ (is : List Nat) (ps : List PV) (ρ : Rho) (i : Nat) (p : PV), i ∉ is → setMany (setS ρ i p) is ps = setS (setMany ρ is ps) i p
  | [], _, ρ, i, p, _ => by simp [setMany]
  | _ :: _, [], _, _, _, _ => by simp [setMany]
  | j :: is, q :: ps, ρ, i, p, h => by
    simp only [setMany]
    simp only [List.mem_cons, not_or] at h
    rw [setS_comm ρ i j p q h.1]
    exact setMany_comm is ps _ i p h.2
theorem setMany_rev : ∀ (is : List Nat) (ps : List PV) (ρ : Rho), is.length = ps.length → is.Nodup → setMany ρ is.reverse ps.reverse = setMany ρ is ps
  | [], [], _, _, _ => rfl
  | [], _ :: _, _, h, _ => by simp at h
  | _ :: _, [], _, h, _ => by simp at h
  | i :: is, p :: ps, ρ, h, hn => by
    simp only [List.nodup_cons] at hn
    rw [List.reverse_cons, List.reverse_cons, setMany_append _ _ _ _ _ (by simpa using h), setMany_rev is ps ρ (by simpa using h) hn.2]
    simp only [setMany]
    exact (setMany_comm is ps ρ i p hn.1).symm
theorem bindTs_many : ∀ (is : List Nat) (ps : List PV) (ρ : Rho) (K : Rho → Prop), bindTs (is.map TG.one) ps ρ K → is.length = ps.length ∧ K (setMany ρ is ps)
  | [], [], ρ, K, h => by simp only [List.map_nil, bindTs] at h; exact ⟨rfl, h⟩
  | [], _ :: _, ρ, K, h => by simp [bindTs] at h
  | _ :: _, [], ρ, K, h => by simp [bindTs] at h
  | i :: is, p :: ps, ρ, K, h => by
    simp only [List.map_cons, bindTs, bindT] at h
    obtain ⟨a, b⟩ := bindTs_many is ps (setS ρ i p) K h
    exact ⟨by simp [a], b⟩
theorem names_sem (ok : FmOk Γ Φ) (hA : Room n A) : ∀ {is : List Nat} {xs : List Str}, (∀ i ∈ is, i ∈ Φ.st) → is.map (fun i => Φ.names[i]?) = xs.map some → ∀ {vs : List Value} {ps : List PV} {ρ : Rho} {s : Shared} {K : Rho → Prop}, GS Γ Φ.F μ s → FR Φ ρ μ s → VRs (im Φ.F μ s.heap) vs ps →
    K (setMany ρ is ps) → is.length = ps.length → wpAny (model Γ.prog Γ.w) A (assignInOrder (xs.map fun x => bindName Φ.env x) vs) (fun _ => PostA Γ Φ s μ K) (fun _ _ => False) s
  | [], [], _, _, vs, ps, ρ, s, K, G, R, hv, h, hl => by
    cases hv with
    | nil => exact assignInOrder_nil ⟨ρ, by simpa [setMany] using h, G, Step.refl, R⟩
    | cons q r => simp at hl
  | [], _ :: _, _, h, _, _, _, _, _, _, _, _, _, _ => by simp at h
  | _ :: _, [], _, h, _, _, _, _, _, _, _, _, _, _ => by simp at h
  | i :: is, x :: xs, hi, hx, vs, ps, ρ, s, K, G, R, hv, h, hl => by
    cases hv with
    | nil => simp at hl
    | cons q r =>
      simp only [List.map_cons, List.cons.injEq] at hx
      refine assignInOrder_cons (wpAny_mono (bindName_ (store_sem ok (hi i List.mem_cons_self) hx.1 G R q (K := fun ρ' => ρ' = setS ρ i _) rfl)) (fun _ s₁ ⟨ρ₁, h₁, G₁, x, R₁⟩ => ?_) fun _ _ e => e)
      subst h₁
      exact wpAny_mono (names_sem ok hA (fun j hj => hi j (List.mem_cons_of_mem _ hj)) hx.2 G₁ R₁ (r.mono (x.toIm ok.sub)) (by simpa [setMany] using h) (by simpa using hl)) (fun _ s₂ P => PostA.trans x P) fun _ _ e => e
theorem VRs.reverse {i : Im} : ∀ {vs l}, VRs i vs l → VRs i vs.reverse l.reverse
  | _, _, .nil => .nil
  | _, _, .cons q r => by
    rw [List.reverse_cons, List.reverse_cons]
    exact (VRs.reverse r).append (.one q)

set_option tactic.hygienic true in
theorem ts_assign_swapped {is : List Nat} {xs : List Str} {elts : List Expr} {k : Nat} {tpos : Pos} {value : Expr} {pos : Pos} (ok : FmOk Γ Φ) (hi : ∀ i ∈ is, i ∈ Φ.st) (hx : is.map (fun i => Φ.names[i]?) = xs.map some) (hn : is.Nodup)
    (hs : swapsWith value (some (.Tuple elts k tpos)) pos.line Φ.env = pure false) (hw : swappedStores [.Tuple elts k tpos] value Φ.env = pure (some xs))
    (h : TE Γ n Φ ρ μ (eval value Φ.env) fun p μ₁ => bindT (.many (is.map TG.one)) p ρ fun ρ' => Q .next ρ' μ₁) : TS Γ n Φ ρ μ (exec (.Assign [.Tuple elts k tpos] value pos) Φ.env) Q := fun A s hA G R => by
  have hxl : is.length = xs.length := by have := congrArg List.length hx; simpa using this
  refine Assign_Tuple_swapped (h.wp hA G R ok fun v s₁ p μ₁ h₁ G₁ x R₁ hv => ?_) hs hw
  rw [bindT] at h₁
  cases p <;> first | exact h₁.elim | skip
  rename_i ps
  obtain ⟨h1, h2⟩ := h₁
  obtain ⟨a, vs, m, rfl, q, r⟩ := hv.tup_inv
  obtain ⟨h3, h4⟩ := bindTs_many is ps ρ _ h2
  have hT : s₁.heap.IsTuple a vs.toArray := ⟨_, q.1, rfl, m, rfl⟩
  have hl := r.length
  have e1 : xs.length = vs.toArray.size := by simp only [List.size_toArray]; omega
  rw [e1]
  refine wpAny_unpackItems_tuple hA.1 hT fun h' hx' => ?_
  have hk : ∀ b o, s₁.heap.get? b = some o → h'.get? b = some o := fun b o e => hx' b o (Nat.ne_of_lt (Heap.lt_size e)) e
  have y : Step [] s₁ μ₁ { s₁ with heap := h', toks := s₁.toks } μ₁ := Step.of_ext hk
  have el : vs.toArray.toList = vs := by simp
  rw [el]
  have z := names_sem (n := n) (is := is.reverse) (xs := xs.reverse) (K := fun ρ' => Q .next ρ' μ₁) ok hA (fun i hi' => hi i (List.mem_reverse.mp hi')) (by rw [List.map_reverse, hx, List.map_reverse]) (G₁.of_ext (tk := s₁.toks) hk) (R₁.ext (tk := s₁.toks) ok G₁ hk) ((r.mono y.toIm0).reverse)
    (by rw [setMany_rev is ps ρ h3 hn]; exact h4) (by simp [h3])
  exact wpAny_mono z (fun _ s₂ P => P.toS ((x.trans y).wider) fun _ q => q) fun _ _ e => e

theorem ts_attr {o : Expr} {x : Str} {k : Nat} {apos : Pos} {value : Expr} {pos : Pos} (ok : FmOk Γ Φ) (hx : attrNames[k]? = some x) (hs : swapsWith value (some (.Attribute o x apos)) pos.line Φ.env = pure false)
    (hw : swappedStores [.Attribute o x apos] value Φ.env = pure none)
    (h : TE Γ n Φ ρ μ (eval value Φ.env) fun p μ₁ => TE Γ n Φ ρ μ₁ (eval o Φ.env) fun q μ₂ => setAttrV q k p μ₂ fun μ₃ => Q .next ρ μ₃) : TS Γ n Φ ρ μ (exec (.Assign [.Attribute o x apos] value pos) Φ.env) Q := fun A s hA G R =>
  exec_assign1 (h.wp hA G R ok fun v s₁ p μ₁ h₁ G₁ y R₁ hv => by
    rw [arm_assign_Attribute]
    refine wpAny_bind (wpAny_holding (h₁.wp hA G₁ R₁ ok fun ov s₂ q μ₂ h₂ G₂ z R₂ hov => wpAny_bind (wpAny_standAt (wpAny_bind (wpAny_holding (wpAny_mono (setAttr_sem hx G₂ hov (hv.mono z.toIm0) h₂) (fun _ s₃ P => ?_) fun _ _ e => e))))))
    obtain ⟨μ₃, hq, G₃, w⟩ := P
    exact wpAny_release ⟨.next, ρ, μ₃, hq, G₃, ((y.trans z).trans w).wider, R₂.step ok G₂ w, trivial⟩) hs hw rfl
theorem ts_item {o i : Expr} {spos : Pos} {value : Expr} {pos : Pos} (ok : FmOk Γ Φ) (hs : swapsWith value (some (.Subscript o i spos)) pos.line Φ.env = pure false)
    (h : TE Γ n Φ ρ μ (eval value Φ.env) fun p μ₁ => TE Γ n Φ ρ μ₁ (eval o Φ.env) fun q μ₂ => TE Γ n Φ ρ μ₂ (eval i Φ.env) fun r μ₃ => setItemV q r p μ₃ fun μ₄ => Q .next ρ μ₄) : TS Γ n Φ ρ μ (exec (.Assign [.Subscript o i spos] value pos) Φ.env) Q := fun A s hA G R =>
  wpAny_Assign_Subscript (h.wp hA G R ok fun v s₁ p μ₁ h₁ G₁ y R₁ hv => h₁.wp hA G₁ R₁ ok fun ov s₂ q μ₂ h₂ G₂ z R₂ hov => h₂.wp hA G₂ R₂ ok fun iv s₃ r μ₃ h₃ G₃ w R₃ hiv =>
    wpAny_mono (setItem_sem G₃ (hov.mono w.toIm0) hiv (hv.mono (z.trans w).toIm0) h₃) (fun _ s₄ ⟨μ₄, hq, G₄, u⟩ => ⟨.next, ρ, μ₄, hq, G₄, (((y.trans z).trans w).trans u).wider, R₃.step ok G₃ u, trivial⟩) fun _ _ e => e) hs
end
end Mine

open PySem PySem.Calls PyProof.Rows PySem.W
set_option maxRecDepth 100000
set_option linter.unusedVariables false
set_option linter.unusedSectionVars false
set_option backward.match.sparseCases false
namespace Mine

section
variable {Γ : Gl} {n : Nat} {Φ : Fm} {ρ : Rho} {μ μ₁ : Mu} {A : Around} {s s₁ : Shared}

theorem loc_ne (G : GS Γ Φ.F μ s) (ok : FmOk Γ Φ) {C : Addr} (hC : s.heap.get? C = none) : C ∉ Φ.F := fun h => by
  obtain ⟨⟨o, e⟩, _⟩ := G.live C h; rw [hC] at e; cases e

theorem te_comp {elt target iter : Expr} {ifs : List Expr} {scope : Scope} {pos : Pos} {init : List (Option Nat)} {tg : TG} {Q : PV → Mu → Prop} (ok : FmOk Γ Φ) (co : CompOk Φ scope init)
    (hs : ∀ x, foldedSetIterable iter Φ.env x = pure x) (ht : ∀ Φc, CompFm Φ Φc scope → TgR Φc tg target)
    (h : TI Γ n Φ ρ μ target (eval iter Φ.env) fun items μ₁ => CompVC Γ n Φ ρ scope init tg ifs elt Q items μ₁) : TE Γ n Φ ρ μ (eval (.ListComp elt [⟨target, iter, ifs, 0⟩] scope pos) Φ.env) Q := fun A s hA G R => by
  rw [eval_ListComp]
  refine comp_core (use := none) ok co hA G R hs ht h fun C v s'' μ'' p hq G' x hv hC hn => ?_
  obtain ⟨m, hn⟩ := hn
  refine ⟨m, hn, fun h' hs' => ?_⟩
  have hk : ∀ b o, b ∉ [C] → s''.heap.get? b = some o → h'.get? b = some o := fun b o hb e => (hs'.2 b (fun z => hb (List.mem_singleton.mpr z))).trans e
  have hf : ∀ b ∈ [C], s.heap.get? b = none := fun b hb => by rw [List.mem_singleton.mp hb]; exact hC
  exact ⟨p, μ'', hq, GS.forget (own := [C]) (tk := s''.toks) G' (fun a ha => by rw [List.mem_singleton.mp ha]; exact loc_ne G ok hC) hk, x.drop hk hf, hv.mono (im_forget (own := [C]) hk)⟩

theorem FR.in_ {F' : List Addr} {s' : Shared} (R : FR Φ ρ μ s) (x : Step [] s μ s' μ₁) (ok : FmOk Γ Φ) (G : GS Γ Φ.F μ s) (hf : ∀ b ∈ F', b ∉ Φ.F → s.heap.get? b = none) : FR { Φ with F := F' } ρ μ₁ s' := by
  have R' := R.step ok G x
  refine ⟨R'.len, R'.ns, R'.cells, fun i y p hy hp => ?_⟩
  obtain ⟨v, hv, hr⟩ := R.val i y p hy hp
  have live : ∀ a o, s.heap.get? a = some o → μ a = none → s'.heap.get? a = some o := fun a o e hm => x.keep a o e (by rw [hm]; rfl) (by simp)
  refine ⟨v, ?_, hr.mono fun a o q => ?_⟩
  · rcases hv with ⟨k, m, ⟨o, es, ep, e, r⟩, mv⟩ | ⟨k, c, hc, o, e, d⟩
    · exact .inl ⟨k, m, ⟨o, es, ep, live _ _ e (G.live _ (ok.sub _ ok.loc)).2, r⟩, mv⟩
    · exact .inr ⟨k, c, hc, o, live _ _ e (R.cells y c hc).1, d⟩
  · obtain ⟨a1, a2, a3⟩ := x.toIm0 a o q
    exact ⟨a1, a2, fun z => absurd (q.1.symm.trans (hf a z q.2.2)) (by simp)⟩
theorem FR.out {F' : List Addr} (R : FR { Φ with F := F' } ρ μ s) (h : ∀ a ∈ Φ.F, a ∈ F') : FR Φ ρ μ s :=
  ⟨R.len, R.ns, R.cells, fun i y p hy hp => by obtain ⟨v, hv, hr⟩ := R.val i y p hy hp; exact ⟨v, hv, hr.mono (im_less h)⟩⟩
theorem FR.turn {own : List Addr} {h' : Heap} {tk : Nat} (R : FR Φ ρ μ s) (hl : Φ.env.locals ∉ own) (hc : ∀ x c, Φ.env.cells.lookup x = some c → c ∉ own) (ho : ∀ a ∈ own, a ∈ Φ.F) (hk : ∀ b o, b ∉ own → s.heap.get? b = some o → h'.get? b = some o) :
    FR Φ ρ μ { s with heap := h', toks := tk } := by
  refine ⟨R.len, ?_, fun x c h => ⟨(R.cells x c h).1, ?_⟩, fun i y p hy hp => ?_⟩
  · obtain ⟨m, o, es, ep, e, r⟩ := R.ns
    exact ⟨m, o, es, ep, hk _ _ hl e, r⟩
  · obtain ⟨_, v, o, e, d⟩ := R.cells x c h
    exact ⟨v, o, hk _ _ (hc x c h) e, d⟩
  · obtain ⟨v, hv, hr⟩ := R.val i y p hy hp
    refine ⟨v, ?_, hr.mono fun a o q => ⟨hk a o (fun z => q.2.2 (ho a z)) q.1, q.2.1, q.2.2⟩⟩
    rcases hv with ⟨k, m, ⟨o, es, ep, e, r⟩, mv⟩ | ⟨k, c, hc', o, e, d⟩
    · exact .inl ⟨k, m, ⟨o, es, ep, hk _ _ hl e, r⟩, mv⟩
    · exact .inr ⟨k, c, hc', o, hk _ _ (hc y c hc') e, d⟩

theorem ts_assign_comp {elt target iter : Expr} {ifs : List Expr} {scope : Scope} {cpos pos tpos : Pos} {init : List (Option Nat)} {tg : TG} {i : Nat} {x : Str} {Q : FP → Rho → Mu → Prop} {b : Bool} (ok : FmOk Γ Φ) (co : CompOk Φ scope init)
    (hi : i ∈ Φ.st) (hx : Φ.names[i]? = some x) (hb : swapsWith (.ListComp elt [⟨target, iter, ifs, 0⟩] scope cpos) (some (.Name x tpos)) pos.line Φ.env = pure b)
    (hs : ∀ x, foldedSetIterable iter Φ.env x = pure x) (ht : ∀ Φc, CompFm Φ Φc scope → TgR Φc tg target)
    (h : TI Γ n Φ ρ μ target (eval iter Φ.env) fun items μ₁ => CompVC Γ n Φ ρ scope init tg ifs elt (fun p μ₂ => Q .next (setS ρ i p) μ₂) items μ₁) :
    TS Γ n Φ ρ μ (exec (.Assign [.Name x tpos] (.ListComp elt [⟨target, iter, ifs, 0⟩] scope cpos) pos) Φ.env) Q := by
  cases b with
  | false => exact ts_assign ok (.one hi hx) hb rfl (te_comp ok co hs ht h)
  | true =>
    intro A s hA G R
    rw [exec_Assign_Name_used _ _ _ _ hb]
    refine wpAny_bind (wpAny_standAt (wpAny_bind ?_))
    show wpAny _ A (do let _ ← comprehension (.ListComp elt [⟨target, iter, ifs, 0⟩] scope cpos) scope Φ.env _ (newList []) false (eval iter Φ.env) (some (assign (.Name x tpos) Φ.env))) _ _ s
    refine wpAny_bind (wpAny_mono (comp_core (use := some (assign (.Name x tpos) Φ.env)) (Q' := fun _ s' => PostS Γ Φ s μ Q .next s') ok co hA G R hs ht h fun C v s'' μ'' p hq G' xs hv hC hn => ?_) (fun _ s' hq => wpAny_pure (wpAny_pure hq)) fun _ _ e => e)
    have hCF := loc_ne G ok hC
    have hCl : C ≠ Φ.env.locals := fun z => hCF (z ▸ ok.sub _ ok.loc)
    have hCc : ∀ y c, Φ.env.cells.lookup y = some c → c ≠ C := fun y c hc z => by
      obtain ⟨_, v, o, e, _⟩ := R.cells y c hc
      rw [z, hC] at e; cases e
    have R₂ : FR { Φ with F := C :: Φ.F } ρ μ'' s'' := R.in_ xs ok G fun b hb hn => by
      rcases List.mem_cons.mp hb with rfl | hb
      · exact hC
      · exact absurd hb hn
    have ok₂ : FmOk Γ { Φ with F := C :: Φ.F } := ok.inF fun a ha => List.mem_cons_of_mem _ ha
    show wpAny _ A (assign (.Name x tpos) Φ.env v) _ _ s''
    refine wpAny_assign_Name (wpAny_mono (store_sem (Φ := { Φ with F := C :: Φ.F }) ok₂ hi hx G' R₂ hv (K := fun ρ' => ρ' = setS ρ i p) rfl) (fun _ s₃ P => ?_) fun _ _ e => e)
    obtain ⟨ρ', rfl, G₃, x₃, R₃⟩ := P
    obtain ⟨m, o, es, ep, e, r⟩ := hn
    have hCW : C ∉ Φ.W := fun z => hCF (ok.sub C z)
    refine ⟨m, ⟨o, es, ep, x₃.keep C o e (by rw [(G'.live C List.mem_cons_self).2]; rfl) hCW, r⟩, fun h' hs' => ?_⟩
    have hk : ∀ b o, b ∉ [C] → s₃.heap.get? b = some o → h'.get? b = some o := fun b o hb e => (hs'.2 b (fun z => hb (List.mem_singleton.mpr z))).trans e
    have hf : ∀ b ∈ [C], s.heap.get? b = none := fun b hb => by rw [List.mem_singleton.mp hb]; exact hC
    have G₄ := GS.forget (own := [C]) (tk := s₃.toks) G₃ (fun a ha => by rw [List.mem_singleton.mp ha]; exact hCF) hk
    have R₄ : FR { Φ with F := C :: Φ.F } (setS ρ i p) μ'' { s₃ with heap := h', toks := s₃.toks } := FR.turn (own := [C]) R₃ (fun z => hCl (List.mem_singleton.mp z).symm) (fun y c hc z => hCc y c hc (List.mem_singleton.mp z)) (fun a ha => by rw [List.mem_singleton.mp ha]; exact List.mem_cons_self) hk
    refine ⟨.next, _, μ'', hq, G₄, ?_, R₄.out fun a ha => List.mem_cons_of_mem _ ha, trivial⟩
    exact Step.drop (own := [C]) (xs.wider.trans x₃) hk hf

theorem fa2_get {R : Option PV → Option PV → Prop} {ρ ρ' : Rho} (h : Fa2 R ρ ρ') : ρ'.length = ρ.length ∧ ∀ i p', getS ρ' i = some p' → ∃ x, R x (some p') ∧ getS ρ i = x := by
  induction h with
  | nil => exact ⟨rfl, fun i p' h => by cases i <;> cases h⟩
  | cons r t ih =>
    refine ⟨congrArg (· + 1) ih.1, fun i p' h => ?_⟩
    cases i with
    | zero => exact ⟨_, h ▸ r, rfl⟩
    | succ i => exact ih.2 i p' h
theorem kvr_frz {i i' : Im} (hi : ∀ a o, i a o → i' a o) {a : Addr} {l : List PV} (hl : VR i' (.ref a) (.lst l)) {kvs : List (Int × Value)} {es es' : List (Int × PV)} (h : KVR i kvs es) : Fa2 (fun x y => x.1 = y.1 ∧ (x.2 = y.2 ∨ (x.2 = .ref a ∧ y.2 = .lst l))) es es' → KVR i' kvs es' := by
  induction h generalizing es' with
  | nil => intro t; cases t; exact .nil
  | @cons k v p vs l' q r ih =>
    intro t
    cases t with
    | @cons _ b _ _ h t =>
      obtain ⟨k', p'⟩ := b
      obtain ⟨h1, h2⟩ := h
      cases h1
      refine .cons ?_ (ih t)
      have h2 : p = p' ∨ (p = .ref a ∧ p' = .lst l) := h2
      rcases h2 with h2 | ⟨h2, h3⟩
      · exact h2 ▸ q.mono hi
      · have e := (h2 ▸ q : VR i v (.ref a)).ref_inv
        rw [e, h3]
        exact hl
theorem fz_sound {F : List Addr} {K : Rho → Mu → Prop} {ρ : Rho} {μ : Mu} (h : FZ K ρ μ) (G : GS Γ F μ s) : ∃ ρ' μ', K ρ' μ' ∧ GS Γ F μ' s ∧ Step [] s μ s μ' ∧ (∀ c, μ c = none → μ' c = none) ∧ ρ'.length = ρ.length ∧
    (∀ i p', getS ρ' i = some p' → ∃ p, getS ρ i = some p ∧ ∀ v, VR (im F μ s.heap) v p → VR (im F μ' s.heap) v p') := by
  induction h with
  | done hk => exact ⟨_, _, hk, G, Step.refl, fun _ h => h, rfl, fun i p' h => ⟨p', h, fun v hv => hv⟩⟩
  | @drop ρ μ a ha _ ih =>
    have hd : ∀ b m, (μ.del a) b = some m → μ b = some m := fun b m e => by
      unfold Mu.del at e
      split at e
      · cases e
      · exact e
    have hn : ∀ c, μ c = none → (μ.del a) c = none := fun c h => by unfold Mu.del; split <;> first | rfl | exact h
    have hi : ∀ b o, im F μ s.heap b o → im F (μ.del a) s.heap b o := fun b o q => ⟨q.1, hn b q.2.1, q.2.2⟩
    have G' : GS Γ F (μ.del a) s := ⟨G.keep, fun b o e => ⟨hn b (G.off b o e).1, (G.off b o e).2⟩, fun b hb => ⟨(G.live b hb).1, hn b (G.live b hb).2⟩, fun b m e => (G.mo b m (hd b m e)).mono hi fun o q => q, G.gens, G.os⟩
    have x : Step [] s μ s (μ.del a) := ⟨fun b o e _ _ => e, fun b es e => by
      have hne : b ≠ a := fun z => by rw [← z, e] at ha; cases ha
      unfold Mu.del; rw [if_neg hne]; exact e, fun b m e => .inl ⟨m, hd b m e⟩, fun b o e => ⟨o, e⟩⟩
    obtain ⟨ρ', μ', h1, h2, h3, h4, h5, h6⟩ := ih G'
    exact ⟨ρ', μ', h1, h2, x.trans h3, fun c h => h4 c (hn c h), h5, fun i p' h => by
      obtain ⟨p, e, f⟩ := h6 i p' h
      exact ⟨p, e, fun v hv => f v (hv.mono hi)⟩⟩
  | @hold ρ μ a es ha _ ih =>
    have hne : ∀ c, μ c = none → c ≠ a := fun c h z => by subst z; rw [ha] at h; cases h
    have hn : ∀ c, μ c = none → (μ.set a (.imap es)) c = none := fun c h => by rw [Mu.set_ne (hne c h)]; exact h
    have hi : ∀ b o, im F μ s.heap b o → im F (μ.set a (.imap es)) s.heap b o := fun b o q => ⟨q.1, hn b q.2.1, q.2.2⟩
    have G' : GS Γ F (μ.set a (.imap es)) s := ⟨G.keep, fun b o e => ⟨hn b (G.off b o e).1, (G.off b o e).2⟩, fun b hb => ⟨(G.live b hb).1, hn b (G.live b hb).2⟩, fun b m e => by
      by_cases z : b = a
      · subst z; rw [Mu.set_self] at e; cases e
        exact (MOR.mono hi (fun o q => q) (G.mo b _ ha) : MOR Γ _ s.heap b (.idict es))
      · rw [Mu.set_ne z] at e; exact (G.mo b m e).mono hi fun o q => q, G.gens, G.os⟩
    have x : Step [] s μ s (μ.set a (.imap es)) := ⟨fun b o e _ _ => e, fun b fs e => by
      rw [Mu.set_ne (show b ≠ a from fun z => by rw [z, ha] at e; cases e)]; exact e, fun b m e => by
      by_cases z : b = a
      · subst z; exact .inl ⟨_, ha⟩
      · rw [Mu.set_ne z] at e; exact .inl ⟨m, e⟩, fun b o e => ⟨o, e⟩⟩
    obtain ⟨ρ', μ', h1, h2, h3, h4, h5, h6⟩ := ih G'
    exact ⟨ρ', μ', h1, h2, x.trans h3, fun c h => h4 c (hn c h), h5, fun i p' h => by
      obtain ⟨p, e, f⟩ := h6 i p' h
      exact ⟨p, e, fun v hv => f v (hv.mono hi)⟩⟩
  | @frz ρ μ ρ₁ μ₁ a l ha hρ hma hμ _ ih =>
    have hn : ∀ c, μ c = none → μ₁ c = none := fun c h => by
      by_cases z : c = a
      · subst z; exact hma
      · rcases hμ c z with e | ⟨es, es', e, _⟩
        · rw [e]; exact h
        · rw [h] at e; cases e
    have hi : ∀ b o, im F μ s.heap b o → im F μ₁ s.heap b o := fun b o q => ⟨q.1, hn b q.2.1, q.2.2⟩
    have haF : a ∉ F := fun h => by rw [(G.live a h).2] at ha; cases ha
    have hl : VR (im F μ₁ s.heap) (.ref a) (.lst l) := by
      obtain ⟨vs, n, e, r⟩ := G.mo a _ ha
      exact .lst ⟨e, hma, haF⟩ (r.mono hi)
    have G' : GS Γ F μ₁ s := ⟨G.keep, fun b o e => ⟨hn b (G.off b o e).1, (G.off b o e).2⟩, fun b hb => ⟨(G.live b hb).1, hn b (G.live b hb).2⟩, fun b m e => by
      have z : b ≠ a := fun z => by subst z; rw [hma] at e; cases e
      rcases hμ b z with q | ⟨es, es', q, q', f⟩
      · rw [q] at e; exact (G.mo b m e).mono hi fun o q => q
      · rw [q'] at e; cases e
        obtain ⟨kvs, d, r⟩ := G.mo b _ q
        exact ⟨kvs, d, kvr_frz hi hl r f⟩, G.gens, G.os⟩
    have x : Step [] s μ s μ₁ := by
      refine ⟨fun b o e _ _ => e, fun b fs e => ?_, fun b m e => ?_, fun b o e => ⟨o, e⟩⟩
      · have z : b ≠ a := fun z => by rw [z, ha] at e; cases e
        rcases hμ b z with q | ⟨es, es', q, _⟩
        · rw [q]; exact e
        · rw [e] at q; cases q
      · have z : b ≠ a := fun z => by subst z; rw [hma] at e; cases e
        rcases hμ b z with q | ⟨es, es', q, _⟩
        · rw [q] at e; exact .inl ⟨m, e⟩
        · exact .inl ⟨_, q⟩
    obtain ⟨ρ', μ', h1, h2, h3, h4, h5, h6⟩ := ih G'
    obtain ⟨f1, f2⟩ := fa2_get hρ
    refine ⟨ρ', μ', h1, h2, x.trans h3, fun c h => h4 c (hn c h), h5.trans f1, fun i p' h => ?_⟩
    obtain ⟨p, e, f⟩ := h6 i p' h
    obtain ⟨y, hy, e2⟩ := f2 i p e
    rcases hy with rfl | ⟨rfl, hy⟩
    · exact ⟨p, e2, fun v hv => f v (hv.mono hi)⟩
    · cases hy
      exact ⟨_, e2, fun v hv => f v (by have e := hv.ref_inv; subst e; exact hl)⟩
theorem FR.view {ρ' : Rho} (R : FR Φ ρ μ s) (hl : ρ'.length = ρ.length) (hc : ∀ c, μ c = none → μ₁ c = none) (hv : ∀ i p', getS ρ' i = some p' → ∃ p, getS ρ i = some p ∧ ∀ v, VR (im Φ.F μ s.heap) v p → VR (im Φ.F μ₁ s.heap) v p') : FR Φ ρ' μ₁ s :=
  ⟨hl.trans R.len, R.ns, fun x c h => ⟨hc c (R.cells x c h).1, (R.cells x c h).2⟩, fun i y p hy hp => by
    obtain ⟨p0, e, f⟩ := hv i p hp
    obtain ⟨v, a, b⟩ := R.val i y p0 hy e
    exact ⟨v, a, f v b⟩⟩
end
end Mine

open PySem PySem.Calls PyProof.Rows PySem.W
set_option maxRecDepth 100000
set_option linter.unusedVariables false
set_option linter.unusedSectionVars false
set_option backward.match.sparseCases false
namespace Mine

structure SameFm (Φ Φ' : Fm) : Prop where
  env : Φ'.env = Φ.env
  names : Φ'.names = Φ.names
  st : Φ'.st = Φ.st
  W : Φ'.W = Φ.W

section
variable {Γ : Gl} {n : Nat} {Φ : Fm} {ρ : Rho} {μ : Mu} {A : Around} {s : Shared} {Q : FP → Rho → Mu → Prop}

inductive ForVC (Γ : Gl) (n : Nat) (Φ : Fm) (ρ : Rho) (tg : TG) (body : List Stmt) (Q : FP → Rho → Mu → Prop) (items : List PV) (μ₁ : Mu) : Prop
  | mk (hN : items.length ≤ big) (J : Nat → Rho → Mu → Prop) (h0 : J 0 ρ μ₁)
    (hs : ∀ i x ρ' μ', nth items i = some x → J i ρ' μ' → bindT tg x ρ' fun ρ₂ => ∀ Φ', FmOk Γ Φ' → SameFm Φ Φ' → TS Γ n Φ' ρ₂ μ' (execs body Φ'.env) fun fl ρ₃ μ₃ => match fl with
      | .next => FZ (J (i + 1)) ρ₃ μ₃
      | .cont => FZ (J (i + 1)) ρ₃ μ₃
      | .brk => Q .next ρ₃ μ₃
      | .ret p => Q (.ret p) ρ₃ μ₃)
    (he : ∀ ρ' μ', J items.length ρ' μ' → Q .next ρ' μ') : ForVC Γ n Φ ρ tg body Q items μ₁

inductive ForI (Γ : Gl) (Φ : Fm) (own : List Addr) (s₂ : Shared) (μ₁ : Mu) (N : Nat) (J : Nat → Rho → Mu → Prop) (St : Nat → Heap → Prop) (k : Nat) (s' : Shared) : Prop
  | mk (i : Nat) (ρ' : Rho) (μ' : Mu) : k = N + 1 - i → i ≤ N → J i ρ' μ' → GS Γ (own ++ Φ.F) μ' s' → Step (own ++ Φ.W) s₂ μ₁ s' μ' → St i s'.heap → FR { Φ with F := own ++ Φ.F } ρ' μ' s' → ForI Γ Φ own s₂ μ₁ N J St k s'
theorem ts_for {tg : TG} {target iter : Expr} {body : List Stmt} {pos : Pos} (ok : FmOk Γ Φ) (hs : ∀ x, foldedSetIterable iter Φ.env x = pure x) (ht : ∀ Φ', SameFm Φ Φ' → TgR Φ' tg target)
    (h : TI Γ n Φ ρ μ target (eval iter Φ.env) fun items μ₁ => ForVC Γ n Φ ρ tg body Q items μ₁) : TS Γ n Φ ρ μ (exec (.For target iter body [] pos) Φ.env) Q := fun A s hA G R => by
  refine wpAny_For (wpAny_mono (h A s hA G R) (fun xv s₁ h₁ => wpAny_mono h₁ (fun it s₂ h₂ => ?_) fun _ _ e => e) fun _ _ e => e) hs
  obtain ⟨I, own, src, items, St, im₀, μ₁, rfl, ⟨hN, J, hJ0, hJ, hJn⟩, G₂, x₂, hst, hW, him, hsrc, hown⟩ := h₂
  have ok' : FmOk Γ { Φ with F := own ++ Φ.F } := ok.inF fun a ha => List.mem_append_right _ ha
  have fm : SameFm Φ { Φ with F := own ++ Φ.F } := ⟨rfl, rfl, rfl, rfl⟩
  have hownF : ∀ b ∈ own, b ∉ Φ.F := fun b hb z => by
    obtain ⟨⟨o, e⟩, _⟩ := G.live b z; rw [hown b hb] at e; cases e
  have R₂ : FR { Φ with F := own ++ Φ.F } ρ μ₁ s₂ := R.in_ x₂ ok G fun b hb hn => (List.mem_append.mp hb).elim (hown b) fun z => absurd z hn
  have lown : Φ.env.locals ∉ own := fun z => hownF _ z (ok.sub _ ok.loc)
  have cown : ∀ x c, Φ.env.cells.lookup x = some c → c ∉ own := fun x c hc z => by
    obtain ⟨_, v, o, e, _⟩ := R.cells x c hc; rw [hown c z] at e; cases e
  have Wown : ∀ b ∈ own, b ∉ Φ.W := fun b hb z => hownF b hb (ok.sub b z)
  have XF : ∀ a ∈ own ++ Φ.W, a ∈ own ++ Φ.F := fun a ha => (List.mem_append.mp ha).elim (fun z => List.mem_append_left _ z) fun z => List.mem_append_right _ (ok.sub a z)
  have ownF : ∀ a ∈ own, a ∈ own ++ Φ.F := fun a ha => List.mem_append_left _ ha
  have back : ∀ {s' : Shared} {μ' : Mu}, Step (own ++ Φ.W) s₂ μ₁ s' μ' → Step Φ.W s μ s' μ' := fun x' => Step.over x₂.wider x' fun a ha hn => (List.mem_append.mp ha).elim (hown a) fun z => absurd z hn
  refine codeAny_forLoop_any (ForI Γ Φ own s₂ μ₁ items.length J St) ?_ (items.length + 1)
    ⟨0, ρ, μ₁, rfl, Nat.zero_le _, hJ0, G₂, Step.refl, hst, R₂⟩
  rintro k s' ⟨i, ρ', μ', rfl, hi, hJi, G', x', st', R'⟩
  have W' := hW A hA.1
  cases hnx : nth items i with
  | none =>
    have hiN : i = items.length := by
      rw [nth_eq, List.getElem?_eq_none_iff] at hnx
      omega
    subst hiN
    refine wpAny_mono (W'.done s' (fun s'' => PostS Γ Φ s μ Q .next s'') st' fun h' tk hk => ?_) (fun r s'' hr => ?_) fun _ _ e => e.elim
    · have Ge := GS.forget (tk := tk) G' hownF hk
      have Re := FR.turn (tk := tk) R' lown cown ownF hk
      have Re2 : FR Φ ρ' μ' { s' with heap := h', toks := tk } := Re.out fun a ha => List.mem_append_right _ ha
      exact ⟨.next, ρ', μ', hJn ρ' μ' hJi, Ge, (back x').drop hk hown, Re2, trivial⟩
    · cases r with
      | some v => exact hr.elim
      | none => exact wpAny_execs_nil hr
  | some p =>
    have hlt : i < items.length := by rw [nth_eq] at hnx; exact (List.getElem?_eq_some_iff.mp hnx).1
    refine wpAny_mono (W'.item i s' (fun v s₂' => wpAny (model Γ.prog Γ.w) A (assign target Φ.env v) (fun _ sb => wpAny (model Γ.prog Γ.w) A (execs body Φ.env) (fun f s₃ => match f with
        | .next => ∃ m, m < items.length + 1 - i ∧ ForI Γ Φ own s₂ μ₁ items.length J St m s₃
        | .cont => ∃ m, m < items.length + 1 - i ∧ ForI Γ Φ own s₂ μ₁ items.length J St m s₃
        | .brk => PostS Γ Φ s μ Q .next s₃
        | .ret v => PostS Γ Φ s μ Q (.ret v) s₃) (fun _ _ => False) sb) (fun _ _ => False) s₂') p hnx st' fun v h' tk st'' hk hlo hgot => ?_) (fun r s₁' hr => ?_) fun _ _ e => e.elim
    · have G₁ : GS Γ (own ++ Φ.F) μ' { s' with heap := h', toks := tk } := G'.turn ownF hk hlo
      have x₁ : Step (own ++ Φ.W) s₂ μ₁ { s' with heap := h', toks := tk } μ' := x'.over (Step.turn hk hlo) fun a ha hn => absurd (List.mem_append_left _ ha) hn
      have R₁ : FR { Φ with F := own ++ Φ.F } ρ' μ' { s' with heap := h', toks := tk } := FR.turn R' lown cown ownF hk
      have hi₀ : ∀ a o, im₀ a o → im (own ++ Φ.F) μ' h' a o := fun a o q => x₁.toIm XF a o (him a o q)
      refine wpAny_mono (assign_got (n := n) (Φ := { Φ with F := own ++ Φ.F }) ok' (ht _ fm) hA G₁ R₁ (hgot _ hi₀) (hJ i p ρ' μ' hnx hJi)) (fun _ sa P => ?_) fun _ _ e => e
      obtain ⟨ρ₂, hK, Ga, xa, Ra⟩ := P
      refine wpAny_mono (hK _ ok' fm A sa hA Ga Ra) (fun f s₃ P => ?_) fun _ _ e => e
      obtain ⟨fp, ρ₃, μ₃, hq, G₃, x₃, R₃, hf⟩ := P
      have z₃ : Step Φ.W { s' with heap := h', toks := tk } μ' s₃ μ₃ := Step.trans xa x₃
      have again : FZ (J (i + 1)) ρ₃ μ₃ → ∃ m, m < items.length + 1 - i ∧ ForI Γ Φ own s₂ μ₁ items.length J St m s₃ := fun hz => by
        obtain ⟨ρ₄, μ₄, hJ₄, G₄, x₄, hc, hl, hv⟩ := fz_sound hz G₃
        have z₄ := z₃.trans x₄.wider
        refine ⟨items.length + 1 - (i + 1), by omega, i + 1, ρ₄, μ₄, rfl, hlt, hJ₄, G₄, x₁.over z₄ fun a ha hn => absurd (List.mem_append_right _ ha) hn, W'.frame _ _ _ st'' fun b hb o e => ?_, R₃.view hl hc hv⟩
        rcases List.mem_append.mp hb with hb | hb
        · exact z₄.keep b o e (by rw [(G₁.live b (ownF b hb)).2]; rfl) (Wown b hb)
        · obtain ⟨⟨o', e'⟩, h2, h3⟩ := hsrc b hb
          exact z₄.keep b o e (x₁.roK e' h2) fun hw => h3 (List.mem_append_right _ (ok.sub b hw))
      have over : Step (own ++ Φ.W) s₂ μ₁ s₃ μ₃ := x₁.over z₃ fun a ha hn => absurd (List.mem_append_right _ ha) hn
      have less : ∀ a ∈ Φ.F, a ∈ own ++ Φ.F := fun a ha => List.mem_append_right _ ha
      cases f <;> cases fp <;> first | exact hf.elim | skip
      · exact again hq
      · exact ⟨.next, ρ₃, μ₃, hq, G₃.less less, back over, R₃.out less, trivial⟩
      · exact again hq
      · exact ⟨.ret _, ρ₃, μ₃, hq, G₃.less less, back over, R₃.out less, VR.mono (im_less less) hf⟩
    · cases r with
      | none => exact hr.elim
      | some v =>
        exact wpE (wpAny_mono hr (fun _ s₂' hK => wpE (wpAny_mono hK (fun _ s₂ h => wpE (wpAny_mono h (fun f s₃ h => by cases f <;> exact h) fun _ _ e => e)) fun _ _ e => e)) fun _ _ e => e)

theorem ts_while {t : Expr} {body : List Stmt} {pos : Pos} (ok : FmOk Γ Φ) (J : Nat → Rho → Mu → Prop) (N : Nat) (h0 : J N ρ μ)
    (h : ∀ m ρ' μ', J m ρ' μ' → TB Γ n Φ ρ' μ' (isTrue t Φ.env (eval t Φ.env)) fun c μ₁ =>
      if c then TS Γ n Φ ρ' μ₁ (execs body Φ.env) fun fl ρ₃ μ₃ => match fl with
        | .next => ∃ m', m' < m ∧ J m' ρ₃ μ₃
        | .cont => ∃ m', m' < m ∧ J m' ρ₃ μ₃
        | .brk => Q .next ρ₃ μ₃
        | .ret p => Q (.ret p) ρ₃ μ₃
      else Q .next ρ' μ₁) : TS Γ n Φ ρ μ (exec (.While t body [] pos) Φ.env) Q := fun A s hA G R => by
  refine wpAny_While (codeAny_whileLoop (fun k s' => ∃ ρ' μ', J k ρ' μ' ∧ GS Γ Φ.F μ' s' ∧ Step Φ.W s μ s' μ' ∧ FR Φ ρ' μ' s') ?_ N ⟨ρ, μ, h0, G, Step.refl, R⟩)
  rintro k s' ⟨ρ', μ', hJ, G', x', R'⟩
  refine wpE ((h k ρ' μ' hJ).wp hA G' R' ok fun c s₁ μ₁ h₁ G₁ x₁ R₁ => ?_)
  have z := x'.trans x₁.wider
  cases c with
  | false => exact wpAny_execs_nil ⟨.next, ρ', μ₁, h₁, G₁, z, R₁, trivial⟩
  | true =>
    refine wpE (wpAny_mono (TS.wp (t := execs body Φ.env) h₁ hA G₁ R₁) (fun f s₃ P => ?_) fun _ _ e => e)
    obtain ⟨fp, ρ₃, μ₃, hq, G₃, x₃, R₃, hf⟩ := P
    cases f <;> cases fp <;> first | exact hf.elim | skip
    · obtain ⟨m', hm, hJ'⟩ := hq
      exact ⟨m', hm, ρ₃, μ₃, hJ', G₃, z.trans x₃, R₃⟩
    · exact ⟨.next, ρ₃, μ₃, hq, G₃, z.trans x₃, R₃, trivial⟩
    · obtain ⟨m', hm, hJ'⟩ := hq
      exact ⟨m', hm, ρ₃, μ₃, hJ', G₃, z.trans x₃, R₃⟩
    · exact ⟨.ret _, ρ₃, μ₃, hq, G₃, z.trans x₃, R₃, hf⟩

theorem SrcAt.back {F : List Addr} {e : Expr} {Q : List PV → Mu → Prop} {it : Value} {s₁ s₂ : Shared} {μ₁ : Mu} (h : SrcAt Γ F s₁ μ₁ e Q it s₂) (x : Step [] s μ s₁ μ₁) : SrcAt Γ F s μ e Q it s₂ := by
  obtain ⟨I, own, src, items, St, im₀, μ₂, a1, a2, a3, a4, a5, a6, a7, a8, a9⟩ := h
  exact ⟨I, own, src, items, St, im₀, μ₂, a1, a2, a3, x.trans a4, a5, a6, a7, a8, fun b hb => by
    cases q : s.heap.get? b with
    | none => rfl
    | some o => obtain ⟨o', e'⟩ := x.live b o q; rw [a9 b hb] at e'; cases e'⟩
set_option tactic.hygienic true in
theorem ti_seq {e : Expr} {iter : Expr} {Q : List PV → Mu → Prop} (ok : FmOk Γ Φ) (h : TE Γ n Φ ρ μ (eval iter Φ.env) fun p μ₁ => match p with
      | .lst l => Q l μ₁
      | .tup l => Q l μ₁
      | .ref d => match μ₁ d with
        | some (.imap es) => Q (es.map fun x => .int x.1) μ₁
        | _ => False
      | _ => False) : TI Γ n Φ ρ μ e (eval iter Φ.env) Q := fun A s hA G R =>
  h.wp hA G R ok fun v s₁ p μ₁ h₁ G₁ x R₁ hv => by
    have tr : ∀ {it : Value} {s₂ : Shared}, SrcAt Γ Φ.F s₁ μ₁ e Q it s₂ → SrcAt Γ Φ.F s μ e Q it s₂ := fun h => h.back x
    split at h₁ <;> first | exact h₁.elim | skip
    · exact wpAny_mono (src_lst hA G₁ hv h₁) (fun _ _ P => tr P) fun _ _ e => e
    · exact wpAny_mono (src_tup hA G₁ hv h₁) (fun _ _ P => tr P) fun _ _ e => e
    · split at h₁ <;> first | exact h₁.elim | skip
      rename_i d es hm
      have e := hv.ref_inv; subst e
      exact wpAny_mono (src_map hA G₁ hm h₁) (fun _ _ P => tr P) fun _ _ e => e
theorem call_name {x : Str} {f : Value} {np pos : Pos} {es : List Expr} {k : Nat} {K : Value → Shared → Prop} {QL : List PV → Mu → Prop} (ok : FmOk Γ Φ) (hk : Φ.env.kindOf x = some .globalImplicit) (hd : (x == ("__debug__" : Str)) = false) (hg : GN Γ x f) (hs : plainArgs es = true) (hc : keeperOf f = pure .machine)
    (hA : Room n A) (G : GS Γ Φ.F μ s) (R : FR Φ ρ μ s) (h : TL Γ n Φ ρ μ k (spliced (backTo pos (starEach es Φ.env))) QL)
    (hK : ∀ vs s₁ ps μ₁, QL ps μ₁ → GS Γ Φ.F μ₁ s₁ → Step [] s μ s₁ μ₁ → VRs (im Φ.F μ₁ s₁.heap) vs ps → wpAny (model Γ.prog Γ.w) A (call f vs) K (fun _ _ => False) s₁) :
    wpAny (model Γ.prog Γ.w) A (eval (.Call (.Name x np) es [] pos) Φ.env) K (fun _ _ => False) s := by
  refine wpAny_Call_ofName (name_global ok hk hd hg G ?_)
  have hst := star_plain (env := Φ.env) (pos := pos) hs
  rw [hst] at h ⊢
  refine callWith_of (P := fun _ => True) (by rw [any_plain]; rfl) (fun h' _ => ⟨.machine, .inr (.inl rfl), Looks.of_pure hc⟩) ?_
  have fin : wpAny (model Γ.prog Γ.w) A (spliced (es.map fun e => (false, eval e Φ.env))) (fun vs s' => True ∧ wpAny (model Γ.prog Γ.w) A (call f ([] ++ vs)) K (fun _ _ => False) s') (fun _ _ => False) s :=
    h.wp hA G R ok fun vs s₁ ps μ₁ h₁ hl G₁ x R₁ hv => ⟨trivial, hK vs s₁ ps μ₁ h₁ G₁ x hv⟩
  cases es with
  | nil => exact evalArgs_nilH fin
  | cons e es => exact evalArgs_plain fin
theorem ti_range1 {e : Expr} {a : Expr} {np pos : Pos} {x : Str} {Q : List PV → Mu → Prop} (ok : FmOk Γ Φ) (hk : Φ.env.kindOf x = some .globalImplicit) (hd : (x == ("__debug__" : Str)) = false) (hg : GN Γ x (.type "range")) (hs : plainArgs [a] = true)
    (h : TL Γ n Φ ρ μ 1 (spliced (backTo pos (starEach [a] Φ.env))) fun ps μ₁ => onO (oneA ps) fun p => onO (intA p) fun b => (-(big : Int) ≤ b ∧ b ≤ big) ∧ Q (rangeP 0 b.toNat) μ₁) : TI Γ n Φ ρ μ e (eval (.Call (.Name x np) [a] [] pos) Φ.env) Q := fun A s hA G R =>
  call_name ok hk hd hg hs rfl hA G R h fun vs s₁ ps μ₁ h₁ G₁ y hv => by
    obtain ⟨p, e1, h₁⟩ := onO_inv h₁
    obtain ⟨b, e2, h₁⟩ := onO_inv h₁
    rw [oneA_eq e1, intA_eq e2] at hv
    obtain ⟨v, rfl, q⟩ := vrs_one hv
    obtain ⟨t, rfl⟩ := q.int_inv
    refine call_range_1 ?_
    refine wpAny_mono (src_range (a := 0) (b := b) (Q := Q) hA G₁ (by simp) h₁.1.2 h₁.1.1 (fun _ _ e => Heap.get?_push_of_some _ e) (IsRange.new ..) (by simpa using h₁.2)) (fun _ _ P => SrcAt.back P y) fun _ _ e => e
theorem ti_range2 {e : Expr} {a b : Expr} {np pos : Pos} {x : Str} {Q : List PV → Mu → Prop} (ok : FmOk Γ Φ) (hk : Φ.env.kindOf x = some .globalImplicit) (hd : (x == ("__debug__" : Str)) = false) (hg : GN Γ x (.type "range")) (hs : plainArgs [a, b] = true)
    (h : TL Γ n Φ ρ μ 2 (spliced (backTo pos (starEach [a, b] Φ.env))) fun ps μ₁ => onO (twoA ps) fun x => onO (intA x.1) fun a => onO (intA x.2) fun b => a.natAbs ≤ big ∧ b.natAbs ≤ big ∧ Q (rangeP a (b - a).toNat) μ₁) : TI Γ n Φ ρ μ e (eval (.Call (.Name x np) [a, b] [] pos) Φ.env) Q := fun A s hA G R =>
  call_name ok hk hd hg hs rfl hA G R h fun vs s₁ ps μ₁ h₁ G₁ y hv => by
    obtain ⟨x, e0, h₁⟩ := onO_inv h₁
    obtain ⟨a, e1, h₁⟩ := onO_inv h₁
    obtain ⟨b, e2, h₁⟩ := onO_inv h₁
    rw [twoA_eq e0, intA_eq e1, intA_eq e2] at hv
    obtain ⟨v, w, rfl, q, q2⟩ := vrs_two hv
    obtain ⟨t, rfl⟩ := q.int_inv
    obtain ⟨t', rfl⟩ := q2.int_inv
    refine call_range_2 ?_
    refine wpAny_mono (src_range (a := a) (b := b) (Q := Q) hA G₁ h₁.1 (by have := h₁.2.1; omega) (by have := h₁.2.1; omega) (fun _ _ e => Heap.get?_push_of_some _ e) (IsRange.new ..) h₁.2.2) (fun _ _ P => SrcAt.back P y) fun _ _ e => e
theorem ti_zip {elts : List Expr} {k : Nat} {tpos : Pos} {a b : Expr} {np pos : Pos} {x : Str} {Q : List PV → Mu → Prop} (ok : FmOk Γ Φ) (hk : Φ.env.kindOf x = some .globalImplicit) (hd : (x == ("__debug__" : Str)) = false) (hg : GN Γ x (.type "zip")) (hs : plainArgs [a, b] = true)
    (h : TL Γ n Φ ρ μ 2 (spliced (backTo pos (starEach [a, b] Φ.env))) fun ps μ₁ => onO (twoA ps) fun x => onO (lsA x.1) fun l => onO (lsA x.2) fun m => Q (zipP l m) μ₁) : TI Γ n Φ ρ μ (.Tuple elts k tpos) (eval (.Call (.Name x np) [a, b] [] pos) Φ.env) Q := fun A s hA G R =>
  call_name ok hk hd hg hs rfl hA G R h fun vs s₁ ps μ₁ h₁ G₁ y hv => by
    obtain ⟨x, e0, h₁⟩ := onO_inv h₁
    obtain ⟨l, e1, h₁⟩ := onO_inv h₁
    obtain ⟨m, e2, h₁⟩ := onO_inv h₁
    rw [twoA_eq e0, lsA_eq e1, lsA_eq e2] at hv
    obtain ⟨v, w, rfl, q, q2⟩ := vrs_two hv
    exact wpAny_mono (src_zip hA G₁ q q2 h₁) (fun _ _ P => wpAny_mono P (fun _ _ P => SrcAt.back P y) fun _ _ e => e) fun _ _ e => e
theorem ti_enum {elts : List Expr} {k : Nat} {tpos : Pos} {a : Expr} {np pos : Pos} {x : Str} {Q : List PV → Mu → Prop} (ok : FmOk Γ Φ) (hk : Φ.env.kindOf x = some .globalImplicit) (hd : (x == ("__debug__" : Str)) = false) (hg : GN Γ x (.type "enumerate")) (hs : plainArgs [a] = true)
    (h : TL Γ n Φ ρ μ 1 (spliced (backTo pos (starEach [a] Φ.env))) fun ps μ₁ => onO (oneA ps) fun p => onO (lsA p) fun l => Q (enumP 0 l) μ₁) : TI Γ n Φ ρ μ (.Tuple elts k tpos) (eval (.Call (.Name x np) [a] [] pos) Φ.env) Q := fun A s hA G R =>
  call_name ok hk hd hg hs rfl hA G R h fun vs s₁ ps μ₁ h₁ G₁ y hv => by
    obtain ⟨p, e1, h₁⟩ := onO_inv h₁
    obtain ⟨l, e2, h₁⟩ := onO_inv h₁
    rw [oneA_eq e1, lsA_eq e2] at hv
    obtain ⟨v, rfl, q⟩ := vrs_one hv
    exact wpAny_mono (src_enum hA G₁ q h₁) (fun _ _ P => wpAny_mono P (fun _ _ P => SrcAt.back P y) fun _ _ e => e) fun _ _ e => e
end
end Mine

open PySem PySem.Calls PyProof.Rows PySem.W
set_option maxRecDepth 100000
set_option linter.unusedVariables false
set_option linter.unusedSectionVars false
set_option backward.match.sparseCases false
namespace Mine

structure FnOk (Γ : Gl) (a : Addr) (fd : FuncData) (body : List Stmt) (params : List Nat) : Prop where
  at_ : ∃ o, Γ.h₀.get? a = some o ∧ o.data = .func fd
  code : Γ.h₀.CodeRec fd.code fd.qualname
  body : fd.body = .stmts body
  glob : fd.globals = mainGlobals
  blt : fd.builtins = builtinsNs
  kind : fd.scope.kind = .function
  co : fd.scope.isCoroutine = false
  gen : fd.scope.isGenerator = false
  nd : (fd.scope.names.map (·.1)).Nodup
  clo : Clo Γ.h₀ (fun _ => none) fd.scope.names fd.closure
  cnd : (fd.closure.map (·.1)).Nodup
  own : ∀ i ∈ params, i ∈ ownAt 0 fd.scope.names
  bind : ∀ vs : List Value, vs.length = params.length → ∃ xs : List Str, bindArgs fd ⟨vs, []⟩ = pure (xs.zip vs) ∧ params.map (fun i => (fd.scope.names.map (·.1))[i]?) = xs.map some

structure FnFm (fd : FuncData) (a : Addr) (Φ : Fm) : Prop where
  names : Φ.names = fd.scope.names.map (·.1)
  st : Φ.st = ownAt 0 fd.scope.names
  scope : Φ.env.scope = fd.scope
  func : Φ.env.func = some a
  code : Φ.env.code = fd.code
  cells : ∀ p ∈ fd.closure, Φ.env.cells.lookup p.1 = some p.2

noncomputable def RetQ (Q : PV → Mu → Prop) : FP → Rho → Mu → Prop
  | .next, _, μ => FZ (fun ρ μ => ∃ p, getS ρ 0 = some p ∧ Q p μ) [some .none] μ
  | .ret p, _, μ => FZ (fun ρ μ => ∃ p, getS ρ 0 = some p ∧ Q p μ) [some p] μ
  | _, _, _ => False

section
variable {Γ : Gl} {n : Nat} {Φ : Fm} {ρ : Rho} {μ : Mu} {A : Around} {s : Shared} {Q : PV → Mu → Prop}

theorem newEnv_binds {M : Model} {E : Value → Shared → Prop} {scope : Scope} {globals : Addr} {cl : List (Str × Addr)} {binds : List (Str × Value)} {qual : Str} {func : Option Addr} {code : Value} {builtins : Addr} {Q : Env → Shared → Prop}
    (h : wpAny M A (forIn binds PUnit.unit fun (p : Str × Value) (_ : PUnit) => (do storeName (newEnv scope s.heap.objs.size globals (cellsFrom (s.heap.objs.size + 1) scope.names cl) qual func code none builtins) p.1 p.2; pure (ForInStep.yield PUnit.unit) : Sem (ForInStep PUnit)))
      (fun _ s' => Q (newEnv scope s.heap.objs.size globals (cellsFrom (s.heap.objs.size + 1) scope.names cl) qual func code none builtins) s') E { s with heap := pushCells (s.heap.push { cls := .type "frame", data := .dict #[] }) scope.names }) :
    wpAny M A (newFunctionEnv scope globals cl binds qual func code none builtins) Q E s := by
  simp only [newFunctionEnv, Option.isSome_none, Bool.false_eq_true, if_false]
  refine wpAny_bind (wpAny_alloc ?_)
  refine wpAny_bind (wpAny_layCells _ (fun name kind cells => by cases hkc : kind == NameKind.cell <;> simp [hkc]) _ _ _ _ ?_)
  rw [show ({ s with heap := s.heap.push { cls := .type "frame", data := .dict #[] } } : Shared).heap.objs.size = s.heap.objs.size + 1 from Heap.size_push ..]
  exact wpAny_bind (wpAny_mono h (fun _ s' hq => wpAny_pure hq) fun _ _ e => e)

theorem binds_sem (ok : FmOk Γ Φ) : ∀ {is : List Nat} {xs : List Str}, (∀ i ∈ is, i ∈ Φ.st) → is.map (fun i => Φ.names[i]?) = xs.map some → ∀ {vs : List Value} {ps : List PV} {ρ : Rho} {s : Shared} {K : Rho → Prop}, GS Γ Φ.F μ s → FR Φ ρ μ s → VRs (im Φ.F μ s.heap) vs ps → is.length = vs.length → K (setMany ρ is ps) →
    wpAny (model Γ.prog Γ.w) A (forIn (xs.zip vs) PUnit.unit fun (p : Str × Value) (_ : PUnit) => (do storeName Φ.env p.1 p.2; pure (ForInStep.yield PUnit.unit) : Sem (ForInStep PUnit))) (fun _ => PostA Γ Φ s μ K) (fun _ _ => False) s
  | [], [], _, _, vs, ps, ρ, s, K, G, R, hv, hl, h => by
    rw [List.zip_nil_left, List.forIn_nil]
    exact wpAny_pure ⟨ρ, by simpa [setMany] using h, G, Step.refl, R⟩
  | [], _ :: _, _, h, _, _, _, _, _, _, _, _, _, _ => by simp at h
  | _ :: _, [], _, h, _, _, _, _, _, _, _, _, _, _ => by simp at h
  | i :: is, x :: xs, hi, hx, vs, ps, ρ, s, K, G, R, hv, hl, h => by
    cases hv with
    | nil => simp at hl
    | cons q r =>
      simp only [List.map_cons, List.cons.injEq] at hx
      rw [List.zip_cons_cons, List.forIn_cons]
      refine wpAny_bind (wpAny_bind (wpAny_mono (store_sem ok (hi i List.mem_cons_self) hx.1 G R q (K := fun ρ' => ρ' = setS ρ i _) rfl) (fun _ s₁ ⟨ρ₁, h₁, G₁, x, R₁⟩ => wpAny_pure ?_) fun _ _ e => e))
      subst h₁
      exact wpAny_mono (binds_sem ok (fun j hj => hi j (List.mem_cons_of_mem _ hj)) hx.2 G₁ R₁ (r.mono (x.toIm ok.sub)) (by simpa using hl) (by simpa [setMany] using h)) (fun _ s₂ P => PostA.trans x P) fun _ _ e => e

noncomputable def TSA (Γ : Gl) (n : Nat) (Φ : Fm) (c : Code) (ρ : Rho) (μ : Mu) (t : Sem Flow) (Q : FP → Rho → Mu → Prop) : Prop :=
  ∀ A s, Room n A → GS Γ Φ.F μ s → FR Φ ρ μ s → _root_.PySem.wpAt (model Γ.prog Γ.w) A c t (PostS Γ Φ s μ Q) (fun _ _ => False) s

theorem wpAtE {α : Type} {M : Model} {A : Around} {c : Code} {t : Sem α} {Q : α → Shared → Prop} {E : Value → Shared → Prop} {s : Shared} (h : _root_.PySem.wpAt M A c t Q (fun _ _ => False) s) : _root_.PySem.wpAt M A c t Q E s :=
  ks_wpAt_mono h (fun _ _ q => q) fun _ _ e => e.elim

theorem callT_fnAt {a : Addr} {fd : FuncData} {body : List Stmt} {params : List Nat} {args : List PV} (f : FnOk Γ a fd body params) (hlen : args.length = params.length)
    (h : ∀ Φ, FmOk Γ Φ → FnFm fd a Φ → TSA Γ n Φ (.func body Φ.env) (setMany (fd.scope.names.map fun _ => none) params args) μ (execs body Φ.env) (RetQ Q)) : CallT Γ (n + 1) (.ref a) args μ Q := by
  intro A F s vs hA G hv
  obtain ⟨o, ho, hd⟩ := f.at_
  obtain ⟨h1, h2, h3⟩ := hA
  have hl := hv.length
  obtain ⟨xs, hb, hx⟩ := f.bind vs (by omega)
  refine codeAny_call_function (by omega) (G.keep _ _ ho) hd f.co f.gen f.body (f.code.keeps G.keep) ?_
  rw [hb]
  refine wpAny_pure (newEnv_binds ?_)
  have C : Clo s.heap μ fd.scope.names fd.closure := ⟨fun p hp => by
    obtain ⟨⟨v, o, e, d⟩, _, c⟩ := f.clo.cell p hp
    exact ⟨⟨v, o, G.keep _ _ e, d⟩, (G.off _ _ e).1, c⟩, f.clo.inj, f.clo.all⟩
  generalize hcenv : newEnv fd.scope s.heap.objs.size fd.globals (cellsFrom (s.heap.objs.size + 1) fd.scope.names fd.closure) (fd.qualname ++ ".<locals>.") (some a) fd.code none fd.builtins = cenv; revert cenv; refine id ?_; set_option tactic.hygienic false in intros
  have e1 : cenv.scope = fd.scope := by rw [← hcenv]; rfl
  have e2 : cenv.locals = s.heap.objs.size := by rw [← hcenv]; rfl
  have e3 : cenv.cells = cellsFrom (s.heap.objs.size + 1) fd.scope.names fd.closure := by rw [← hcenv]; rfl
  have e4 : cenv.globals = mainGlobals := by rw [← hcenv]; exact f.glob
  have e5 : cenv.builtins = builtinsNs := by rw [← hcenv]; exact f.blt
  have e6 : cenv.func = some a := by rw [← hcenv]; rfl
  have e7 : cenv.code = fd.code := by rw [← hcenv]; rfl
  have T : Tab cenv fd.scope.names := by
    refine ⟨f.nd, fun x k hm => .inl ?_, fun x k' hk => ⟨k', ?_, .inl rfl⟩⟩
    · unfold Env.kindOf; rw [e1]; exact lookup_nodup f.nd hm
    · unfold Env.kindOf at hk; rw [e1] at hk; exact mem_of_lookup hk
  have okc : FmOk Γ ⟨cenv, fd.scope.names.map (·.1), ownAt 0 fd.scope.names, newW s.heap.objs.size fd.scope.names fd.closure, newW s.heap.objs.size fd.scope.names fd.closure ++ F⟩ :=
    new_ok T C (by rw [e1]; exact f.kind) e4 e5 e2 e3
  have fm : FnFm fd a ⟨cenv, fd.scope.names.map (·.1), ownAt 0 fd.scope.names, newW s.heap.objs.size fd.scope.names fd.closure, newW s.heap.objs.size fd.scope.names fd.closure ++ F⟩ := ⟨rfl, rfl, e1, e6, e7, fun p hp => by
    rw [e3]
    obtain ⟨c, hc⟩ := lookup_some (cf_old fd.scope.names (s.heap.objs.size + 1) fd.closure _ hp)
    rcases cf_mem _ _ _ _ _ (mem_of_lookup hc) with z | ⟨z, _⟩
    · rw [hc, ← lookup_nodup f.cnd z]
      exact lookup_nodup f.cnd hp
    · cases nodup_kind f.nd (f.clo.cell p hp).2.2 z⟩
  have G₁ := new_gs (o := { cls := .type "frame", data := .dict #[] }) G C rfl s.toks
  have R₁ := new_fr (F := F) (ρ := fd.scope.names.map fun _ => none) (o := { cls := .type "frame", data := .dict #[] }) T C G rfl e2 e3 (by simp) s.toks fun i y p hy hp => by
    rw [getS_none] at hp
    cases hp
  have he : ∀ b o', s.heap.get? b = some o' → (pushCells (s.heap.push { cls := .type "frame", data := .dict #[] }) fd.scope.names).get? b = some o' := fun b o' e => pushCells_keeps _ _ _ _ (Heap.get?_push_of_some _ e)
  have x₁ : Step [] s μ { s with heap := pushCells (s.heap.push { cls := .type "frame", data := .dict #[] }) fd.scope.names, toks := s.toks } μ := Step.of_ext he
  have Wn : ∀ b ∈ newW s.heap.objs.size fd.scope.names fd.closure, s.heap.get? b = none := fun b hb => none_of_le (by
    rcases newW_mem hb with rfl | ⟨x, hx, hl⟩
    · exact Nat.le_refl _
    · exact Nat.le_of_lt hl)
  have hv₁ : VRs (im (newW s.heap.objs.size fd.scope.names fd.closure ++ F) μ (pushCells (s.heap.push { cls := .type "frame", data := .dict #[] }) fd.scope.names)) vs args := hv.mono (im_own Wn he)
  have z := binds_sem (A := A.in1) (K := fun ρ' => ρ' = setMany (fd.scope.names.map fun _ => none) params args) okc f.own hx G₁ R₁ hv₁ (by omega) rfl
  refine wpE (wpAny_mono z (fun _ s₂ P => ?_) fun _ _ e => e)
  obtain ⟨ρ₂, rfl, G₂, x₂, R₂⟩ := P
  refine ⟨Γ.lim.keeps G₂.keep, ks_codeAny_funcAt (wpAtE ?_)⟩
  have hA₂ : Room n (A.deeper cenv) := ⟨h1, by show A.depth + 1 + n < _; omega, by rw [Around.deeper_units]; omega⟩
  refine ks_wpAt_mono (h _ okc fm (A.deeper cenv) s₂ hA₂ G₂ R₂) (fun fl s₃ P => ?_) fun _ _ e => e
  obtain ⟨fp, ρ₃, μ₃, hq, G₃, x₃, R₃, hf⟩ := P
  have fin : ∀ {p : PV} {v : Value}, FZ (fun ρ μ => ∃ p, getS ρ 0 = some p ∧ Q p μ) [some p] μ₃ → VR (im (newW s.heap.objs.size fd.scope.names fd.closure ++ F) μ₃ s₃.heap) v p → Post Γ F s μ Q v s₃ := fun {p v} hz hv => by
    obtain ⟨ρ₄, μ₄, ⟨p', hp', hQ⟩, G₄, x₄, hc, hl, hvv⟩ := fz_sound hz G₃
    obtain ⟨p0, hp0, hrel⟩ := hvv 0 p' hp'
    simp only [getS] at hp0
    cases hp0
    have sub : ∀ a ∈ F, a ∈ newW s.heap.objs.size fd.scope.names fd.closure ++ F := fun a ha => List.mem_append_right _ ha
    exact ⟨p', μ₄, hQ, G₄.less sub, Step.over x₁ ((Step.trans x₂ x₃).trans x₄.wider) fun a ha _ => Wn a ha, (hrel v hv).mono (im_less sub)⟩
  cases fl <;> cases fp <;> first | exact hf.elim | exact hq.elim | skip
  · exact fin hq .none
  · exact fin hq hf

theorem callT_fn {a : Addr} {fd : FuncData} {body : List Stmt} {params : List Nat} {args : List PV} (f : FnOk Γ a fd body params) (hlen : args.length = params.length)
    (h : ∀ Φ, FmOk Γ Φ → FnFm fd a Φ → TS Γ n Φ (setMany (fd.scope.names.map fun _ => none) params args) μ (execs body Φ.env) (RetQ Q)) : CallT Γ (n + 1) (.ref a) args μ Q :=
  callT_fnAt f hlen fun Φ ok fm A s hA G R => _root_.PySem.wpAt_of_wpAny (h Φ ok fm A s hA G R)

theorem callT_new {C fI : Addr} {args : List PV} (hm : makesIn Γ.K C = true) (hi : findIn Γ.K (.ref C) "__init__" = some (some (.ref fI))) (hf : typeIn Γ.K (.ref fI) = some (.type "function"))
    (h : ∀ d, μ d = none → CallT Γ n (.ref fI) (.obj ⟨.ref C, some d, .plain, #[]⟩ :: args) (μ.set d (.attrs [])) fun p μ' => p = .none ∧ Q (.obj ⟨.ref C, some d, .plain, #[]⟩) μ') : CallT Γ (n + 1) (.ref C) args μ Q := by
  intro A F s vs hA G hv
  have X := G.K
  obtain ⟨hh, g, d, t, os⟩ := s
  refine make_core (makes_of X hm) (looks_findIn X hi) (fun self => bind_fn X self hf) (.inl rfl) ?_
  obtain ⟨h1, h2, h3⟩ := hA
  have hA₂ : Room n (A.under (.builtin "type.__call__" ⟨.ref C :: vs, []⟩)) := ⟨h1, by show A.depth + 1 + n < _; omega, by show A.units + 1 + _ + _ < _; omega⟩
  have he1 : ∀ b o', hh.get? b = some o' → (hh.push emptyDict).get? b = some o' := fun b o' e => Heap.get?_push_of_some _ e
  have he2 : ∀ b o', (hh.push emptyDict).get? b = some o' → ((hh.push emptyDict).push (instObj C hh.objs.size)).get? b = some o' := fun b o' e => Heap.get?_push_of_some _ e
  have hd0 : hh.get? hh.objs.size = none := none_size _
  have hx0 : hh.get? (hh.objs.size + 1) = none := none_of_le (Nat.le_succ _)
  have hsz : (hh.push emptyDict).objs.size = hh.objs.size + 1 := Heap.size_push ..
  have hdm : μ hh.objs.size = none := G.fresh hd0
  have hdo : ((hh.push emptyDict).push (instObj C hh.objs.size)).get? hh.objs.size = some emptyDict := he2 _ _ (Heap.get?_push_size _ rfl)
  have hxo : ((hh.push emptyDict).push (instObj C hh.objs.size)).get? (hh.objs.size + 1) = some (instObj C hh.objs.size) := by rw [← hsz]; exact Heap.get?_push_size _ rfl
  have hk : ∀ b o', hh.get? b = some o' → ((hh.push emptyDict).push (instObj C hh.objs.size)).get? b = some o' := fun b o' e => he2 _ _ (he1 _ _ e)
  have G₂ : GS Γ F (μ.set hh.objs.size (.attrs [])) ⟨(hh.push emptyDict).push (instObj C hh.objs.size), g, d, t, os⟩ := G.alloc (s := ⟨hh, g, d, t, os⟩) (tk := t) hd0 hk fun i _ => ⟨fun _ => none, ⟨_, #[], 0, hdo, rfl, fun e he => by simp at he, fun x => by simp [nsFind, findBy], rfl⟩, fun x => by simp [lookS]⟩
  have x₂ : Step [] ⟨hh, g, d, t, os⟩ μ ⟨(hh.push emptyDict).push (instObj C hh.objs.size), g, d, t, os⟩ (μ.set hh.objs.size (.attrs [])) := Step.alloc (s := ⟨hh, g, d, t, os⟩) (tk := t) hd0 hdm hk
  have hne : hh.objs.size + 1 ≠ hh.objs.size := Nat.succ_ne_self _
  have hv₂ : VRs (im F (μ.set hh.objs.size (.attrs [])) ((hh.push emptyDict).push (instObj C hh.objs.size))) (.ref (hh.objs.size + 1) :: vs) (.obj ⟨.ref C, some hh.objs.size, .plain, #[]⟩ :: args) :=
    .cons (.obj ⟨hxo, by rw [Mu.set_ne hne]; exact G.fresh hx0, G.notF hx0⟩) (hv.mono x₂.toIm0)
  refine codeAny_mono (h hh.objs.size hdm _ F _ _ hA₂ G₂ hv₂) fun r s' z => ?_
  rcases r with e | (v | _ | _ | _) <;> first | exact z | skip
  obtain ⟨p, μ', ⟨rfl, hq⟩, G', x', hv'⟩ := z
  refine ⟨hv'.none_inv, _, μ', hq, G', x₂.trans x', ?_⟩
  exact .obj (x'.toIm0 _ _ ⟨hxo, by rw [Mu.set_ne hne]; exact G.fresh hx0, G.notF hx0⟩)
end
end Mine

open PySem PySem.Calls PyProof.Rows PySem.W
set_option maxRecDepth 100000
set_option linter.unusedVariables false
set_option linter.unusedSectionVars false
set_option backward.match.sparseCases false
namespace Mine

abbrev Sc := List (Str × NameKind)
noncomputable def gvL : List (Str × Addr) := [("put_behind", 57), ("from_values", 64), ("least", 71), ("greatest", 78), ("up_to", 97), ("from_on", 102), ("without", 109), ("struck", 130), ("as_numbers", 340), ("Store", 287), ("Cumulative", 425),
  ("_law_draw", 434), ("_law_bars", 441), ("_law_starts", 446), ("_law_sure", 451), ("_law_is_block_right", 456), ("_law_is_enough_right", 461), ("_law_is_now_right", 466), ("law", 471)]
noncomputable def biName : BI → Str
  | .len => "len"
  | .min => "min"
  | .max => "max"
  | .sum => "sum"
  | .sorted => "sorted"
  | .list => "list"
  | .tuple => "tuple"
  | .all => "all"
structure GTab (Γ : Gl) : Prop where
  fn : ∀ x a, gvL.lookup x = some a → GN Γ x (.ref a) ∧ calleeOk Γ (.ref a)
  bi : ∀ b, GN Γ (biName b) (callee b)
  range : GN Γ "range" (.type "range")
  zip : GN Γ "zip" (.type "zip")
  enum : GN Γ "enumerate" (.type "enumerate")
  set : GN Γ "set" (.type "set")

noncomputable def cInt : Const → Option Int
  | .int j => some j
  | _ => none
noncomputable def cStr : Const → Option Str
  | .str j => some j
  | _ => none
noncomputable def cBool : Const → Option Bool
  | .bool j => some j
  | _ => none
noncomputable def cNone : Const → Bool
  | .none => true
  | _ => false
theorem cInt_eq {c : Const} {j : Int} (h : cInt c = some j) : c = .int j := by cases c <;> first | exact nn h | (cases h; rfl)
theorem cStr_eq {c : Const} {j : Str} (h : cStr c = some j) : c = .str j := by cases c <;> first | exact nn h | (cases h; rfl)
theorem cBool_eq {c : Const} {j : Bool} (h : cBool c = some j) : c = .bool j := by cases c <;> first | exact nn h | (cases h; rfl)
theorem cNone_eq {c : Const} (h : cNone c = true) : c = .none := by cases c <;> first | rfl | exact ff h
noncomputable def okConst (p : PV) (c : Const) : Bool := match p with
  | .int i => (cInt c).any fun j => i == j
  | .str i => (cStr c).any fun j => i == j
  | .bool i => (cBool c).any fun j => i == j
  | .none => cNone c
  | _ => false
noncomputable def okLoc (S : Sc) (i : Nat) (x : Str) : Bool := (S[i]?.map (·.1) == some x) && !(x == ("__debug__" : Str)) && !(x == ("__classdict__" : Str))
noncomputable def okGlob (S : Sc) (x : Str) : Bool := (S.lookup x == some .globalImplicit) && !(x == ("__debug__" : Str))
mutual
noncomputable def okTG (S : Sc) : TG → Expr → Bool
  | .one i, .Name x _ => (S[i]?.map (·.1) == some x) && (ownAt 0 S).contains i
  | .many ts, .Tuple es _ _ => okTGs S ts es
  | _, _ => false
noncomputable def okTGs (S : Sc) : List TG → List Expr → Bool
  | [], [] => true
  | t :: ts, e :: es => okTG S t e && okTGs S ts es
  | _, _ => false
end
noncomputable def isSlice : Expr → Bool
  | .Slice _ _ none _ => true
  | _ => false
noncomputable def notSet : Expr → Bool
  | .Set _ _ _ => false
  | _ => true
noncomputable def vStr : Option Expr → Option Str
  | some (.Constant c _ _) => (match c with
    | .str x => some x
    | _ => none)
  | _ => none
set_option tactic.hygienic true in
theorem vStr_eq {e : Option Expr} {x : Str} (h : vStr e = some x) : ∃ c p, e = some (.Constant (.str x) c p) := by
  cases e with
  | none => exact nn h
  | some e =>
    cases e <;> first | exact nn h | skip
    rename_i c _ _
    cases c <;> first | exact nn h | (cases h; exact ⟨_, _, rfl⟩)
theorem anyE {α : Type} {o : Option α} {f : α → Bool} (h : o.any f = true) : ∃ x, o = some x ∧ f x = true := by
  cases o with
  | none => exact ff h
  | some x => exact ⟨x, rfl, h⟩
theorem bindK {α β : Type} {o : Option α} {f : α → Option β} {b : β} (h : o.bind f = some b) : ∃ a, o = some a ∧ f a = some b := by
  cases o with
  | none => exact nn h
  | some a => exact ⟨a, rfl, h⟩
noncomputable def nilK {α β : Type} (l : List α) (r : Option β) : Option β := match l with
  | [] => r
  | _ :: _ => none
theorem nilK_eq {α β : Type} {l : List α} {r : Option β} {b : β} (h : nilK l r = some b) : l = [] ∧ r = some b := by
  cases l with
  | nil => exact ⟨rfl, h⟩
  | cons _ _ => exact nn h
noncomputable def noneK {α β : Type} (l : Option α) (r : Option β) : Option β := match l with
  | none => r
  | some _ => none
theorem noneK_eq {α β : Type} {l : Option α} {r : Option β} {b : β} (h : noneK l r = some b) : l = none ∧ r = some b := by
  cases l with
  | none => exact ⟨rfl, h⟩
  | some _ => exact nn h
noncomputable def one1 {α : Type} (l : List α) : Option α := match l with
  | [] => none
  | a :: l => nilK l (some a)
theorem one1_eq {α : Type} {l : List α} {a : α} (h : one1 l = some a) : l = [a] := by
  cases l with
  | nil => exact nn h
  | cons b l => obtain ⟨h1, h2⟩ := nilK_eq h; rw [h1, Option.some.inj h2]
noncomputable def two2 {α : Type} (l : List α) : Option (α × α) := match l with
  | [] => none
  | a :: l => (one1 l).bind fun b => some (a, b)
theorem two2_eq {α : Type} {l : List α} {x : α × α} (h : two2 l = some x) : l = [x.1, x.2] := by
  cases l with
  | nil => exact nn h
  | cons c l => obtain ⟨d, h1, h2⟩ := bindK h; rw [one1_eq h1]; cases Option.some.inj h2; rfl
noncomputable def keys2 (l : List (Option Expr)) : Option (Str × Str) := (two2 l).bind fun y => (vStr y.1).bind fun a => (vStr y.2).bind fun b => some (a, b)
theorem keys2_eq {ks : List (Option Expr)} {x : Str × Str} (h : keys2 ks = some x) : ∃ c1 p1 c2 p2, ks = [some (.Constant (.str x.1) c1 p1), some (.Constant (.str x.2) c2 p2)] := by
  obtain ⟨y, h1, h⟩ := bindK h
  obtain ⟨u, h2, h⟩ := bindK h
  obtain ⟨v, h3, h⟩ := bindK h
  cases Option.some.inj h
  obtain ⟨c1, p1, e1⟩ := vStr_eq h2
  obtain ⟨c2, p2, e2⟩ := vStr_eq h3
  exact ⟨c1, p1, c2, p2, by rw [two2_eq h1, e1, e2]⟩
noncomputable def initOf (S names : Sc) : List (Option Nat) := names.map fun p => if p.2 == .free then S.findIdx? (·.1 == p.1) else none
noncomputable def okScope (S : Sc) (sc : Scope) : Bool :=
  sc.kind == .function && decide (sc.names.map (·.1)).Nodup && sc.names.all fun p => p.2 != .free || (S.lookup p.1 == some .cell || S.lookup p.1 == some .free)

noncomputable def vCall : Expr → Option (Expr × List Expr × List Keyword × Pos)
  | .Call f es ks p => some (f, es, ks, p)
  | _ => none
theorem vCall_eq {c : Expr} {x : Expr × List Expr × List Keyword × Pos} (h : vCall c = some x) : c = .Call x.1 x.2.1 x.2.2.1 x.2.2.2 := by
  cases c <;> first | exact nn h | (cases Option.some.inj h; rfl)
noncomputable def vAttr : Expr → Option (Expr × Str × Pos)
  | .Attribute o x p => some (o, x, p)
  | _ => none
theorem vAttr_eq {c : Expr} {x : Expr × Str × Pos} (h : vAttr c = some x) : c = .Attribute x.1 x.2.1 x.2.2 := by
  cases c <;> first | exact nn h | (cases Option.some.inj h; rfl)
noncomputable def vMC (c : Expr) : Option (Expr × Str × Pos × List Expr × Pos) := (vCall c).bind fun x => (vAttr x.1).bind fun y => nilK x.2.2.1 (some (y.1, y.2.1, y.2.2, x.2.1, x.2.2.2))
theorem vMC_eq {c : Expr} {x : Expr × Str × Pos × List Expr × Pos} (h : vMC c = some x) : c = .Call (.Attribute x.1 x.2.1 x.2.2.1) x.2.2.2.1 [] x.2.2.2.2 := by
  obtain ⟨a, h1, h⟩ := bindK h
  obtain ⟨b, h2, h⟩ := bindK h
  obtain ⟨h3, h⟩ := nilK_eq h
  cases Option.some.inj h
  rw [vCall_eq h1, vAttr_eq h2, h3]
noncomputable def vName : Expr → Option Str
  | .Name x _ => some x
  | _ => none
theorem vName_eq {c : Expr} {x : Str} (h : vName c = some x) : ∃ p, c = .Name x p := by
  cases c <;> first | exact nn h | (cases h; exact ⟨_, rfl⟩)
noncomputable def vNC (c : Expr) : Option (Str × List Expr) := (vCall c).bind fun x => (vName x.1).bind fun n => nilK x.2.2.1 (some (n, x.2.1))
theorem vNC_eq {c : Expr} {x : Str × List Expr} (h : vNC c = some x) : ∃ np pos, c = .Call (.Name x.1 np) x.2 [] pos := by
  obtain ⟨a, h1, h⟩ := bindK h
  obtain ⟨b, h2, h⟩ := bindK h
  obtain ⟨h3, h⟩ := nilK_eq h
  cases Option.some.inj h
  obtain ⟨np, e⟩ := vName_eq h2
  exact ⟨np, a.2.2.2, by rw [vCall_eq h1, e, h3]⟩
noncomputable def call1 (c : Expr) : Option (Str × Expr) := (vNC c).bind fun x => (one1 x.2).bind fun e => some (x.1, e)
noncomputable def call2 (c : Expr) : Option (Str × Expr × Expr) := (vNC c).bind fun x => (two2 x.2).bind fun e => some (x.1, e.1, e.2)
noncomputable def isTup : Expr → Bool
  | .Tuple _ _ _ => true
  | _ => false
theorem call1_eq {c : Expr} {x : Str × Expr} (h : call1 c = some x) : ∃ np pos, c = .Call (.Name x.1 np) [x.2] [] pos := by
  obtain ⟨a, h1, h⟩ := bindK h
  obtain ⟨b, h2, h⟩ := bindK h
  cases Option.some.inj h
  obtain ⟨np, pos, e⟩ := vNC_eq h1
  exact ⟨np, pos, by rw [e, one1_eq h2]⟩
theorem call2_eq {c : Expr} {x : Str × Expr × Expr} (h : call2 c = some x) : ∃ np pos, c = .Call (.Name x.1 np) [x.2.1, x.2.2] [] pos := by
  obtain ⟨a, h1, h⟩ := bindK h
  obtain ⟨b, h2, h⟩ := bindK h
  cases Option.some.inj h
  obtain ⟨np, pos, e⟩ := vNC_eq h1
  exact ⟨np, pos, by rw [e, two2_eq h2]⟩
theorem isTup_eq {t : Expr} (h : isTup t = true) : ∃ es k pos, t = .Tuple es k pos := by
  cases t <;> first | exact ⟨_, _, _, rfl⟩ | exact ff h
noncomputable def vSub : Expr → Option (Expr × Expr)
  | .Subscript e i _ => some (e, i)
  | _ => none
noncomputable def vSl : Expr → Option (Option Expr × Option Expr × Option Expr)
  | .Slice a b c _ => some (a, b, c)
  | _ => none
theorem vSub_eq {c : Expr} {x : Expr × Expr} (h : vSub c = some x) : ∃ p, c = .Subscript x.1 x.2 p := by
  cases c <;> first | exact nn h | (cases Option.some.inj h; exact ⟨_, rfl⟩)
theorem vSl_eq {c : Expr} {x : Option Expr × Option Expr × Option Expr} (h : vSl c = some x) : ∃ p, c = .Slice x.1 x.2.1 x.2.2 p := by
  cases c <;> first | exact nn h | (cases Option.some.inj h; exact ⟨_, rfl⟩)
noncomputable def vFrom (c : Expr) : Option (Expr × Expr) := (vSub c).bind fun x => (vSl x.2).bind fun y => y.1.bind fun lo => noneK y.2.1 (noneK y.2.2 (some (x.1, lo)))
noncomputable def vTo (c : Expr) : Option (Expr × Expr) := (vSub c).bind fun x => (vSl x.2).bind fun y => noneK y.1 (y.2.1.bind fun hi => noneK y.2.2 (some (x.1, hi)))
theorem vFrom_eq {c : Expr} {x : Expr × Expr} (h : vFrom c = some x) : ∃ q p, c = .Subscript x.1 (.Slice (some x.2) none none q) p := by
  obtain ⟨a, h1, h⟩ := bindK h
  obtain ⟨b, h2, h⟩ := bindK h
  obtain ⟨lo, h3, h⟩ := bindK h
  obtain ⟨h4, h⟩ := noneK_eq h
  obtain ⟨h5, h⟩ := noneK_eq h
  cases Option.some.inj h
  obtain ⟨q, e⟩ := vSl_eq h2
  obtain ⟨p, e'⟩ := vSub_eq h1
  exact ⟨q, p, by rw [e', e, h3, h4, h5]⟩
theorem vTo_eq {c : Expr} {x : Expr × Expr} (h : vTo c = some x) : ∃ q p, c = .Subscript x.1 (.Slice none (some x.2) none q) p := by
  obtain ⟨a, h1, h⟩ := bindK h
  obtain ⟨b, h2, h⟩ := bindK h
  obtain ⟨h4, h⟩ := noneK_eq h
  obtain ⟨lo, h3, h⟩ := bindK h
  obtain ⟨h5, h⟩ := noneK_eq h
  cases Option.some.inj h
  obtain ⟨q, e⟩ := vSl_eq h2
  obtain ⟨p, e'⟩ := vSub_eq h1
  exact ⟨q, p, by rw [e', e, h3, h4, h5]⟩
noncomputable def isGv (f : Value) (x : Str) : Bool := match f with
  | .ref a => gvL.lookup x == some a
  | _ => false
noncomputable def isCompM : ME → Bool
  | .comp _ _ _ _ _ => true
  | _ => false
mutual
noncomputable def okE (S : Sc) : ME → Expr → Bool
  | .dead, _ => true
  | .const c, ex' => match ex' with
    | .Constant k _ _ => okConst c k
    | _ => false
  | .loc i, ex' => match ex' with
    | .Name x _ => okLoc S i x
    | _ => false
  | .bin op l r, ex' => match ex' with
    | .BinOp l' op' r' _ => op == op' && okE S l l' && okE S r r'
    | _ => false
  | .neg a, ex' => match ex' with
    | .UnaryOp .USub a' _ => okE S a a'
    | _ => false
  | .cmp op l r, ex' => match ex' with
    | .Compare l' [op'] [r'] _ => op == op' && !behindInMarks op' r' && okE S l l' && okE S r r'
    | _ => false
  | .chain a ops es, ex' => match ex' with
    | .Compare a' ops' es' _ => ops == ops' && decide (2 ≤ ops.length) && decide (ops.length = es.length) && !lastMarks ops' es' && okE S a a' && okEs S es es'
    | _ => false
  | .band a b, ex' => match ex' with
    | .BoolOp .And [a', b'] _ => okE S a a' && okE S b b'
    | _ => false
  | .bor a b, ex' => match ex' with
    | .BoolOp .Or [a', b'] _ => okE S a a' && okE S b b'
    | _ => false
  | .bnot a, ex' => match ex' with
    | .UnaryOp .Not a' _ => okE S a a'
    | _ => false
  | .ite t b o, ex' => match ex' with
    | .IfExp t' b' o' _ => okE S t t' && okE S b b' && okE S o o'
    | _ => false
  | .tup es, ex' => match ex' with
    | .Tuple es' _ _ => decide (es.length ≤ 1000) && plainArgs es' && okEs S es es'
    | _ => false
  | .lst es, ex' => match ex' with
    | .List es' _ => decide (es.length ≤ 1000) && plainArgs es' && okEs S es es'
    | _ => false
  | .dict0, ex' => match ex' with
    | .Dict [] [] _ => true
    | _ => false
  | .sdict2 k1 a k2 b, ex' => match ex' with
    | .Dict ks [a', b'] _ => keys2 ks == some (k1, k2) && !(k1 == k2) && okE S a a' && okE S b b'
    | _ => false
  | .sub e i, ex' => match ex' with
    | .Subscript e' i' _ => !isSlice i' && okE S e e' && okE S i i'
    | _ => false
  | .slice e (some lo) none, ex' => (vFrom ex').any fun x => okE S e x.1 && okE S lo x.2
  | .slice e none (some hi), ex' => (vTo ex').any fun x => okE S e x.1 && okE S hi x.2
  | .slice _ none none, _ => false
  | .slice _ (some _) (some _), _ => false
  | .attr e k, ex' => match ex' with
    | .Attribute e' x _ => plainBase e' && attrNames[k]? == some x && okE S e e'
    | _ => false
  | .call f es, ex' => (vNC ex').any fun x => okGlob S x.1 && isGv f x.1 && plainArgs x.2 && okEs S es x.2
  | .bi b es, ex' => (vNC ex').any fun x => okGlob S x.1 && x.1 == biName b && plainArgs x.2 && okEs S es x.2
  | .sortset e, ex' => (call1 ex').any fun x => (call1 x.2).any fun y => okGlob S x.1 && x.1 == ("sorted" : Str) && okGlob S y.1 && y.1 == ("set" : Str) && plainArgs [y.2] && okE S e y.2
  | .append o e, ex' => (vMC ex').any fun x => (one1 x.2.2.2.1).any fun e' => x.2.1 == ("append" : Str) && plainBase x.1 && plainArgs [e'] && x.2.2.1.endLine == x.2.2.2.2.line && okE S o x.1 && okE S e e'
  | .pop o, ex' => (vMC ex').any fun x => x.2.2.2.1.isEmpty && (x.2.1 == ("pop" : Str) && plainBase x.1 && x.2.2.1.endLine == x.2.2.2.2.line && okE S o x.1)
  | .meth o k es, ex' => (vMC ex').any fun x => methNames[k]? == some x.2.1 && plainBase x.1 && plainArgs x.2.2.2.1 && decide (x.2.2.2.1.length < 30) && x.2.2.1.endLine == x.2.2.2.2.line && okE S o x.1 && okEs S es x.2.2.2.1
  | .comp elt tg it ifs init, ex' => match ex' with
    | .ListComp elt' gs sc _ => (match gs with
      | [] => false
      | g :: gs => (match gs with
        | [] => decide (g.is_async = 0) && okScope S sc && init == initOf S sc.names && okTG sc.names tg g.target && okI S it g.target g.iter && okEs sc.names ifs g.ifs && okE sc.names elt elt'
        | _ :: _ => false))
    | _ => false
noncomputable def okEs (S : Sc) : List ME → List Expr → Bool
  | [], [] => true
  | m :: ms, e :: es => okE S m e && okEs S ms es
  | _, _ => false
noncomputable def okI (S : Sc) : IT → Expr → Expr → Bool
  | .seq e, _, e' => notSet e' && okE S e e'
  | .range1 e, _, c => (call1 c).any fun x => okGlob S x.1 && x.1 == ("range" : Str) && plainArgs [x.2] && okE S e x.2
  | .range2 a b, _, c => (call2 c).any fun x => okGlob S x.1 && x.1 == ("range" : Str) && plainArgs [x.2.1, x.2.2] && okE S a x.2.1 && okE S b x.2.2
  | .zip a b, t, c => isTup t && (call2 c).any fun x => okGlob S x.1 && x.1 == ("zip" : Str) && plainArgs [x.2.1, x.2.2] && okE S a x.2.1 && okE S b x.2.2
  | .enum a, t, c => isTup t && (call1 c).any fun x => okGlob S x.1 && x.1 == ("enumerate" : Str) && plainArgs [x.2] && okE S a x.2
end

noncomputable def isComp : Expr → Bool
  | .ListComp _ _ _ _ => true
  | .SetComp _ _ _ _ => true
  | .DictComp _ _ _ _ _ => true
  | _ => false
set_option backward.match.sparseCases true in
noncomputable def isStar : Expr → Bool
  | .Starred _ _ => true
  | _ => false
set_option backward.match.sparseCases true in
noncomputable def nameIf (look : Str → Bool) (line : Nat) : Expr → Option Str
  | .Name id pos => if look id && pos.line == line then some id else none
  | _ => none
noncomputable def swapCalc (look : Str → Bool) (ts : List Expr) : Expr → Option (Option (List Str))
  | .Tuple vs _ _ =>
    if !(ts.length == 2 || ts.length == 3) || vs.length != ts.length then some none
    else if vs.any isStar then some none
    else
      if (ts.filterMap (nameIf look ((ts.head?.map (·.pos.line)).getD 0))).length != ts.length || (ts.filterMap (nameIf look ((ts.head?.map (·.pos.line)).getD 0))).eraseDups.length != (ts.filterMap (nameIf look ((ts.head?.map (·.pos.line)).getD 0))).length then some none
      else if vs.all (foldedForSure 8) then some none
      else if vs.all (constantsAlone 8) then none
      else some (some (ts.filterMap (nameIf look ((ts.head?.map (·.pos.line)).getD 0))))
  | _ => some none
noncomputable def onesOf : List TG → Option (List Nat)
  | [] => some []
  | .one i :: r => (onesOf r).map (i :: ·)
  | _ => none
noncomputable def vTup : Expr → Option (List Expr)
  | .Tuple es _ _ => some es
  | _ => none
theorem vTup_eq {c : Expr} {es : List Expr} (h : vTup c = some es) : ∃ k p, c = .Tuple es k p := by
  cases c <;> first | exact nn h | (cases h; exact ⟨_, _, rfl⟩)
noncomputable def vRet : Stmt → Option (Option Expr)
  | .Return e _ => some e
  | _ => none
theorem vRet_eq {c : Stmt} {e : Option Expr} (h : vRet c = some e) : ∃ p, c = .Return e p := by
  cases c <;> first | exact nn h | (cases h; exact ⟨_, rfl⟩)
noncomputable def vExpS : Stmt → Option Expr
  | .Expr e _ => some e
  | _ => none
theorem vExpS_eq {c : Stmt} {e : Expr} (h : vExpS c = some e) : ∃ p, c = .Expr e p := by
  cases c <;> first | exact nn h | (cases h; exact ⟨_, rfl⟩)
noncomputable def okSwap (S : Sc) (ts : List TG) (es : List Expr) (v : Expr) : Bool := match swapCalc (fun x => S.lookup x == some .local) es v with
  | none => false
  | some none => true
  | some (some xs) => match onesOf ts with
    | some is => decide (is.map (fun i => S[i]?.map (·.1)) = xs.map some) && decide is.Nodup && is.all (fun i => (ownAt 0 S).contains i)
    | none => false
noncomputable def okSwapT (S : Sc) (ts : List TG) (t v : Expr) : Bool := match vTup t with
  | some es => okSwap S ts es v
  | none => false
noncomputable def vAsg : Stmt → Option (List Expr × Expr)
  | .Assign ts v _ => some (ts, v)
  | _ => none
theorem vAsg_eq {s : Stmt} {x : List Expr × Expr} (h : vAsg s = some x) : ∃ pos, s = .Assign x.1 x.2 pos := by
  cases s <;> first | exact nn h | (cases Option.some.inj h; exact ⟨_, rfl⟩)
noncomputable def asgT (s : Stmt) : Option (Expr × Expr) := (vAsg s).bind fun x => (one1 x.1).bind fun t => some (t, x.2)
theorem asgT_eq {s : Stmt} {x : Expr × Expr} (h : asgT s = some x) : ∃ pos, s = .Assign [x.1] x.2 pos := by
  obtain ⟨a, h1, h⟩ := bindK h
  obtain ⟨b, h2, h⟩ := bindK h
  cases Option.some.inj h
  obtain ⟨pos, e⟩ := vAsg_eq h1
  exact ⟨pos, by rw [e, one1_eq h2]⟩
mutual
noncomputable def okS (S : Sc) : MS → Stmt → Bool
  | .dead, _ => true
  | .assign1 i e, s => (asgT s).any fun x => okTG S (.one i) x.1 && (!isComp x.2 || isCompM e) && okE S e x.2
  | .assignT ts e, s => (asgT s).any fun x => !isComp x.2 && okTG S (.many ts) x.1 && okSwapT S ts x.1 x.2 && okE S e x.2
  | .assignA o k e, s => (asgT s).any fun x => !isComp x.2 && okE S e x.2 && (vAttr x.1).any fun y => attrNames[k]? == some y.2.1 && okE S o y.1
  | .assignS o i e, s => (asgT s).any fun x => !isComp x.2 && okE S e x.2 && (vSub x.1).any fun y => okE S o y.1 && okE S i y.2
  | .expr e, s => match s with
    | .Expr v _ => !isComp v && okE S e v
    | _ => false
  | .ifS t b o, s => match s with
    | .If t' b' o' _ => okE S t t' && okSs S b b' && okSs S o o'
    | _ => false
  | .forS tg it b, s => match s with
    | .For target iter b' [] _ => okTG S tg target && okI S it target iter && okSs S b b'
    | _ => false
  | .whileS t b, s => match s with
    | .While t' b' [] _ => okE S t t' && okSs S b b'
    | _ => false
  | .ret none, s => (vRet s).any fun v => v.isNone
  | .ret (some e), s => (vRet s).any fun v => v.any fun v => okE S e v
  | .sup _, _ => false
noncomputable def okSs (S : Sc) : List MS → List Stmt → Bool
  | [], [] => true
  | m :: ms, s :: ss => okS S m s && okSs S ms ss
  | _, _ => false
end
section
variable {S : Sc}
theorem ok_const {c k x p} : okE S (.const c) (.Constant k x p) = okConst c k := rfl
theorem ok_loc {i x p} : okE S (.loc i) (.Name x p) = okLoc S i x := rfl
theorem ok_bin {op l r l' op' r' p} : okE S (.bin op l r) (.BinOp l' op' r' p) = (op == op' && okE S l l' && okE S r r') := rfl
theorem ok_neg {a a' p} : okE S (.neg a) (.UnaryOp .USub a' p) = okE S a a' := rfl
theorem ok_cmp {op l r l' op' r' p} : okE S (.cmp op l r) (.Compare l' [op'] [r'] p) = (op == op' && !behindInMarks op' r' && okE S l l' && okE S r r') := rfl
theorem ok_chain {a ops es a' ops' es' p} : okE S (.chain a ops es) (.Compare a' ops' es' p) = (ops == ops' && decide (2 ≤ ops.length) && decide (ops.length = es.length) && !lastMarks ops' es' && okE S a a' && okEs S es es') := rfl
theorem ok_band {a b a' b' p} : okE S (.band a b) (.BoolOp .And [a', b'] p) = (okE S a a' && okE S b b') := rfl
theorem ok_bor {a b a' b' p} : okE S (.bor a b) (.BoolOp .Or [a', b'] p) = (okE S a a' && okE S b b') := rfl
theorem ok_bnot {a a' p} : okE S (.bnot a) (.UnaryOp .Not a' p) = okE S a a' := rfl
theorem ok_ite {t b o t' b' o' p} : okE S (.ite t b o) (.IfExp t' b' o' p) = (okE S t t' && okE S b b' && okE S o o') := rfl
theorem ok_tup {es es' x p} : okE S (.tup es) (.Tuple es' x p) = (decide (es.length ≤ 1000) && plainArgs es' && okEs S es es') := rfl
theorem ok_lst {es es' p} : okE S (.lst es) (.List es' p) = (decide (es.length ≤ 1000) && plainArgs es' && okEs S es es') := rfl
theorem ok_sdict2 {k1 a k2 b ks a' b' p} : okE S (.sdict2 k1 a k2 b) (.Dict ks [a', b'] p) = (keys2 ks == some (k1, k2) && !(k1 == k2) && okE S a a' && okE S b b') := rfl
theorem ok_sub {e i e' i' p} : okE S (.sub e i) (.Subscript e' i' p) = (!isSlice i' && okE S e e' && okE S i i') := rfl
theorem ok_attr {e k e' x p} : okE S (.attr e k) (.Attribute e' x p) = (plainBase e' && attrNames[k]? == some x && okE S e e') := rfl
theorem ok_comp {elt tg it ifs init elt' g sc p} : okE S (.comp elt tg it ifs init) (.ListComp elt' [g] sc p) = (decide (g.is_async = 0) && okScope S sc && init == initOf S sc.names && okTG sc.names tg g.target && okI S it g.target g.iter && okEs sc.names ifs g.ifs && okE sc.names elt elt') := rfl
theorem ok_zip {a b t c} : okI S (.zip a b) t c = (isTup t && (call2 c).any fun x => okGlob S x.1 && x.1 == ("zip" : Str) && plainArgs [x.2.1, x.2.2] && okE S a x.2.1 && okE S b x.2.2) := rfl
theorem ok_enum {a t c} : okI S (.enum a) t c = (isTup t && (call1 c).any fun x => okGlob S x.1 && x.1 == ("enumerate" : Str) && plainArgs [x.2] && okE S a x.2) := rfl
theorem ok_cons {m ms e es} : okEs S (m :: ms) (e :: es) = (okE S m e && okEs S ms es) := rfl
theorem ok_one {i x p} : okTG S (.one i) (.Name x p) = ((S[i]?.map (·.1) == some x) && (ownAt 0 S).contains i) := rfl
theorem ok_many {ts es x p} : okTG S (.many ts) (.Tuple es x p) = okTGs S ts es := rfl
theorem ok_tcons {t ts e es} : okTGs S (t :: ts) (e :: es) = (okTG S t e && okTGs S ts es) := rfl
theorem ok_expr {e v p} : okS S (.expr e) (.Expr v p) = (!isComp v && okE S e v) := rfl
theorem ok_ifS {t b o t' b' o' p} : okS S (.ifS t b o) (.If t' b' o' p) = (okE S t t' && okSs S b b' && okSs S o o') := rfl
theorem ok_forS {tg it b target iter b' p} : okS S (.forS tg it b) (.For target iter b' [] p) = (okTG S tg target && okI S it target iter && okSs S b b') := rfl
theorem ok_whileS {t b t' b' p} : okS S (.whileS t b) (.While t' b' [] p) = (okE S t t' && okSs S b b') := rfl
theorem ok_scons {m ms s ss} : okSs S (m :: ms) (s :: ss) = (okS S m s && okSs S ms ss) := rfl
end
end Mine

open PySem PySem.Calls PyProof.Rows PySem.W
set_option maxRecDepth 100000
set_option linter.unusedVariables false
set_option linter.unusedSectionVars false
set_option backward.match.sparseCases false
namespace Mine

structure ScFm (S : Sc) (Φ : Fm) : Prop where
  names : Φ.names = S.map (·.1)
  st : Φ.st = ownAt 0 S
  tab : Tab Φ.env S

section
variable {Γ : Gl} {n : Nat} {S : Sc} {Φ : Fm} {ρ : Rho} {μ : Mu}

theorem glob_of {x : Str} (h : okGlob S x = true) (hS : ScFm S Φ) : Φ.env.kindOf x = some .globalImplicit ∧ (x == ("__debug__" : Str)) = false := by
  unfold okGlob at h
  simp only [Bool.and_eq_true, Bool.not_eq_true', beq_iff_eq] at h
  rcases hS.tab.read _ _ (mem_of_lookup h.1) with z | ⟨z, _⟩
  · exact ⟨z, h.2⟩
  · cases z
theorem name_of {i : Nat} {x : Str} (h : (S[i]?.map (·.1) == some x) = true) (hS : ScFm S Φ) : Φ.names[i]? = some x := by
  rw [hS.names, List.getElem?_map]
  exact beq_iff_eq.mp h
theorem own_of {i : Nat} (h : (ownAt 0 S).contains i = true) (hS : ScFm S Φ) : i ∈ Φ.st := by
  rw [hS.st]
  simpa using h
mutual
theorem tg_of (hS : ScFm S Φ) (t : TG) (e : Expr) (h : okTG S t e = true) : TgR Φ t e := by
  cases t with
  | one i =>
    cases e <;> first | exact ff h | skip
    simp only [ok_one, Bool.and_eq_true] at h
    exact .one (own_of h.2 hS) (name_of h.1 hS)
  | many ts =>
    cases e <;> first | exact ff h | skip
    rw [ok_many] at h
    exact .many (tgs_of hS ts _ h)
theorem tgs_of (hS : ScFm S Φ) (ts : List TG) (es : List Expr) (h : okTGs S ts es = true) : TgRs Φ ts es := by
  cases ts with
  | nil =>
    cases es with
    | nil => exact .nil
    | cons _ _ => exact ff h
  | cons t ts =>
    cases es with
    | nil => exact ff h
    | cons e es =>
      simp only [ok_tcons, Bool.and_eq_true] at h
      exact .cons (tg_of hS t e h.1) (tgs_of hS ts es h.2)
end

noncomputable def SEg (Γ : Gl) (n : Nat) (m : ME) (e : Expr) (Φ : Fm) (ρ : Rho) (μ : Mu) : Prop :=
  (∀ Q, vcE Γ n m ρ μ Q → TE Γ n Φ ρ μ (eval e Φ.env) Q) ∧ (∀ Q, vcB Γ n m ρ μ (vcE Γ n m ρ μ) Q → TB Γ n Φ ρ μ (isTrue e Φ.env (eval e Φ.env)) Q)
noncomputable def SEd (Γ : Gl) (n : Nat) (m : ME) (e : Expr) (Φ : Fm) (ρ : Rho) (μ : Mu) : Prop :=
  (∀ env whole, isTrue e env whole = (do let v ← whole; standAt e.pos; holding [v] (truthy v))) ∧ ∀ Q, vcE Γ n m ρ μ Q → TE Γ n Φ ρ μ (eval e Φ.env) Q
noncomputable def SE (Γ : Gl) (n : Nat) (m : ME) : Prop := ∀ S e Φ ρ μ, okE S m e = true → ScFm S Φ → FmOk Γ Φ → SEg Γ n m e Φ ρ μ
noncomputable def SEsg (Γ : Gl) (n : Nat) (ms : List ME) (es : List Expr) (Φ : Fm) (ρ : Rho) (μ : Mu) : Prop :=
  (∀ Q, vcEs Γ n ms ρ μ Q → TL Γ n Φ ρ μ ms.length (spliced (es.map fun e => (false, eval e Φ.env))) Q) ∧ (∀ Q, vcIfs Γ n ms ρ μ Q → TF Γ n Φ ρ μ es Q) ∧
  (∀ ops p Q, ops.length = ms.length → vcTC Γ n ops ms p ρ μ Q → TC Γ n Φ ρ μ p ops es Q)
noncomputable def SEs (Γ : Gl) (n : Nat) (ms : List ME) : Prop := ∀ S es Φ ρ μ, okEs S ms es = true → ScFm S Φ → FmOk Γ Φ → SEsg Γ n ms es Φ ρ μ
noncomputable def SI (Γ : Gl) (n : Nat) (it : IT) : Prop := ∀ S t e Φ ρ μ, okI S it t e = true → ScFm S Φ → FmOk Γ Φ → ∀ Q, vcI Γ n it ρ μ Q → TI Γ n Φ ρ μ t (eval e Φ.env) Q
noncomputable def SO (Γ : Gl) (n : Nat) (o : Option ME) : Prop := ∀ m, o = some m → SE Γ n m

theorem TE.mono {t : Sem Value} {Q Q' : PV → Mu → Prop} (h : TE Γ n Φ ρ μ t Q) (hq : ∀ p μ', Q p μ' → Q' p μ') : TE Γ n Φ ρ μ t Q' := fun A s hA G R =>
  wpAny_mono (h A s hA G R) (fun v s' ⟨p, μ', a, b1, b2, b3⟩ => ⟨p, μ', hq _ _ a, b1, b2, b3⟩) fun _ _ e => e
theorem TB.mono {t : Sem Bool} {Q Q' : Bool → Mu → Prop} (h : TB Γ n Φ ρ μ t Q) (hq : ∀ p μ', Q p μ' → Q' p μ') : TB Γ n Φ ρ μ t Q' := fun A s hA G R =>
  wpAny_mono (h A s hA G R) (fun v s' ⟨μ', a, b1, b2⟩ => ⟨μ', hq _ _ a, b1, b2⟩) fun _ _ e => e
theorem TL.mono {t : Sem (List Value)} {k : Nat} {Q Q' : List PV → Mu → Prop} (h : TL Γ n Φ ρ μ k t Q) (hq : ∀ p μ', Q p μ' → Q' p μ') : TL Γ n Φ ρ μ k t Q' := fun A s hA G R =>
  wpAny_mono (h A s hA G R) (fun v s' ⟨p, μ', a, b1, b2, b3, b4⟩ => ⟨p, μ', hq _ _ a, b1, b2, b3, b4⟩) fun _ _ e => e
theorem TF.mono {ifs : List Expr} {Q Q' : Bool → Mu → Prop} (h : TF Γ n Φ ρ μ ifs Q) (hq : ∀ p μ', Q p μ' → Q' p μ') : TF Γ n Φ ρ μ ifs Q' := fun A s hA G R =>
  wpAny_mono (h A s hA G R) (fun v s' ⟨μ', a, b1, b2⟩ => ⟨μ', hq _ _ a, b1, b2⟩) fun _ _ e => e
theorem TS.mono {t : Sem Flow} {Q Q' : FP → Rho → Mu → Prop} (h : TS Γ n Φ ρ μ t Q) (hq : ∀ f ρ' μ', Q f ρ' μ' → Q' f ρ' μ') : TS Γ n Φ ρ μ t Q' := fun A s hA G R =>
  wpAny_mono (h A s hA G R) (fun v s' ⟨f, ρ', μ', a, b1, b2, b3, b4⟩ => ⟨f, ρ', μ', hq _ _ _ a, b1, b2, b3, b4⟩) fun _ _ e => e
theorem TI.mono {e : Expr} {t : Sem Value} {Q Q' : List PV → Mu → Prop} (h : TI Γ n Φ ρ μ e t Q) (hq : ∀ p μ', Q p μ' → Q' p μ') : TI Γ n Φ ρ μ e t Q' := fun A s hA G R =>
  wpAny_mono (h A s hA G R) (fun v s' h => wpAny_mono h (fun it s₂ h => by
    obtain ⟨I, own, src, items, St, im₀, μ₁, a, b, c1, c2, c3, c4, c5, c6, c7⟩ := h
    exact ⟨I, own, src, items, St, im₀, μ₁, a, hq _ _ b, c1, c2, c3, c4, c5, c6, c7⟩) fun _ _ e => e) fun _ _ e => e
theorem SE.e {m : ME} {e : Expr} (h : SE Γ n m) (hk : okE S m e = true) (hS : ScFm S Φ) (ok : FmOk Γ Φ) {ρ : Rho} {μ : Mu} {Q Q' : PV → Mu → Prop} (hv : vcE Γ n m ρ μ Q) (hq : ∀ p μ', Q p μ' → Q' p μ') : TE Γ n Φ ρ μ (eval e Φ.env) Q' :=
  TE.mono ((h S e Φ ρ μ hk hS ok).1 _ hv) hq
theorem SE.b {m : ME} {e : Expr} (h : SE Γ n m) (hk : okE S m e = true) (hS : ScFm S Φ) (ok : FmOk Γ Φ) {ρ : Rho} {μ : Mu} {Q Q' : Bool → Mu → Prop} (hv : vcB Γ n m ρ μ (vcE Γ n m ρ μ) Q) (hq : ∀ p μ', Q p μ' → Q' p μ') : TB Γ n Φ ρ μ (isTrue e Φ.env (eval e Φ.env)) Q' :=
  TB.mono ((h S e Φ ρ μ hk hS ok).2 _ hv) hq
theorem SEs.l {ms : List ME} {es : List Expr} (h : SEs Γ n ms) (hk : okEs S ms es = true) (hS : ScFm S Φ) (ok : FmOk Γ Φ) {ρ : Rho} {μ : Mu} {Q Q' : List PV → Mu → Prop} (hv : vcEs Γ n ms ρ μ Q) (hq : ∀ p μ', Q p μ' → Q' p μ') : TL Γ n Φ ρ μ ms.length (spliced (es.map fun e => (false, eval e Φ.env))) Q' :=
  TL.mono ((h S es Φ ρ μ hk hS ok).1 _ hv) hq
theorem cmpV_mono {op : CmpOp} {p q : PV} {k k' : Bool → Prop} (h : cmpV op p q μ k) (hk : ∀ b, k b → k' b) : cmpV op p q μ k' := by
  unfold cmpV at h ⊢
  cases op <;> dsimp only at h ⊢ <;> first | exact h.elim | skip
  · exact eqV_mono h hk
  · exact eqV_mono h fun b => hk _
  all_goals
    split at h <;> first | exact h.elim | exact hk _ h | skip
  · split at h <;> first | exact h.elim | exact hk _ h
  · exact ⟨h.1, h.2.1, hk _ h.2.2⟩
theorem truthV_mono {p : PV} {k k' : Bool → Prop} (h : truthV p k) (hk : ∀ b, k b → k' b) : truthV p k' := by
  unfold truthV at h ⊢
  split at h <;> first | exact h.elim | exact hk _ h

theorem ses_nil : SEs Γ n [] := by
  intro S es Φ ρ μ h hS ok
  cases es with
  | cons _ _ => exact ff h
  | nil =>
    refine ⟨fun Q h => tl_nil ok h, fun Q h => tf_nil h, fun ops p Q _ h => ?_⟩
    cases ops <;> exact False.elim h
theorem ses_cons {m : ME} {ms : List ME} (h1 : SE Γ n m) (h2 : SEs Γ n ms) : SEs Γ n (m :: ms) := by
  intro S es Φ ρ μ h hS ok
  cases es with
  | nil => exact ff h
  | cons e es =>
    simp only [ok_cons, Bool.and_eq_true] at h
    obtain ⟨ha, hb⟩ := h
    refine ⟨fun Q hv => ?_, fun Q hv => ?_, fun ops p Q hl hv => ?_⟩
    · rw [vl_cons] at hv
      exact tl_cons ok (h1.e ha hS ok hv fun p μ₁ h => h2.l hb hS ok h fun _ _ h => h)
    · rw [vf_cons] at hv
      refine tf_cons ok (h1.b ha hS ok hv fun b μ₁ h => ?_)
      cases b with
      | false => exact h
      | true => exact (h2 S es Φ ρ μ₁ hb hS ok).2.1 _ h
    · cases ops with
      | nil => exact False.elim hv
      | cons op ops =>
        cases ops with
        | nil =>
          rw [vt_one] at hv
          cases ms with
          | nil =>
            cases es with
            | nil => exact tc_last ok (h1.e ha hS ok hv fun q μ₁ h => h)
            | cons _ _ => exact ff hb
          | cons m' ms => simp at hl
        | cons op' ops =>
          rw [vt_more] at hv
          cases es with
          | nil =>
            cases ms with
            | nil => simp at hl
            | cons _ _ => exact ff hb
          | cons e' es =>
            refine tc_link ok (h1.e ha hS ok hv fun q μ₁ h => cmpV_mono h fun b h => ?_)
            cases b with
            | false => exact h
            | true => exact (h2 S (e' :: es) Φ ρ μ₁ hb hS ok).2.2 _ _ _ (by simpa using hl) h

theorem se_dflt {m : ME} (hb : ∀ ρ μ Q, vcB Γ n m ρ μ (vcE Γ n m ρ μ) Q = vcE Γ n m ρ μ fun p μ₁ => truthV p fun b => Q b μ₁)
    (h : ∀ S e Φ ρ μ, okE S m e = true → ScFm S Φ → FmOk Γ Φ → SEd Γ n m e Φ ρ μ) : SE Γ n m := by
  intro S e Φ ρ μ hk hS ok
  obtain ⟨h1, h2⟩ := h S e Φ ρ μ hk hS ok
  refine ⟨h2, fun Q hv => ?_⟩
  rw [hb] at hv
  exact tb_plain ok (h1 _ _) (h2 _ hv)

theorem se_dead : SE Γ n .dead := by
  intro S e Φ ρ μ hk hS ok
  exact ⟨fun Q hv => False.elim hv, fun Q hv => False.elim hv⟩
theorem se_const {c : PV} : SE Γ n (.const c) := by
  refine se_dflt (fun ρ μ Q => rfl) fun S e Φ ρ μ hk hS ok => ?_
  cases e <;> first | exact ff hk | skip
  refine ⟨fun _ _ => rfl, fun Q hv => ?_⟩
  simp only [ok_const] at hk
  rw [ve_const] at hv
  cases c <;> first | exact ff hk | skip
  · rw [cNone_eq hk]; exact te_none ok hv
  · obtain ⟨j, h1, h2⟩ := anyE hk; rw [cBool_eq h1, ← beq_iff_eq.mp h2]; exact te_bool ok hv
  · obtain ⟨j, h1, h2⟩ := anyE hk; rw [cInt_eq h1, ← beq_iff_eq.mp h2]; exact te_int ok hv
  · obtain ⟨j, h1, h2⟩ := anyE hk; rw [cStr_eq h1, ← beq_iff_eq.mp h2]; exact te_str ok hv
theorem se_loc {i : Nat} : SE Γ n (.loc i) := by
  refine se_dflt (fun ρ μ Q => rfl) fun S e Φ ρ μ hk hS ok => ?_
  cases e <;> first | exact ff hk | skip
  refine ⟨fun _ _ => rfl, fun Q hv => ?_⟩
  simp only [ok_loc, okLoc, Bool.and_eq_true, Bool.not_eq_true'] at hk
  rw [ve_loc] at hv
  cases hg : getS ρ i with
  | none => rw [hg] at hv; exact hv.elim
  | some p => rw [hg] at hv; exact te_name ok (name_of hk.1.1 hS) hg hk.1.2 hk.2 hv
theorem se_bin {op : Operator} {l r : ME} (h1 : SE Γ n l) (h2 : SE Γ n r) : SE Γ n (.bin op l r) := by
  refine se_dflt (fun ρ μ Q => rfl) fun S e Φ ρ μ hk hS ok => ?_
  cases e <;> first | exact ff hk | skip
  refine ⟨fun _ _ => rfl, fun Q hv => ?_⟩
  simp only [ok_bin, Bool.and_eq_true, beq_iff_eq] at hk
  rw [ve_bin] at hv
  obtain ⟨⟨rfl, k1⟩, k2⟩ := hk
  exact te_bin ok (h1.e k1 hS ok hv fun p μ₁ h => h2.e k2 hS ok h fun _ _ h => h)
set_option tactic.hygienic true in
theorem se_neg {a : ME} (h1 : SE Γ n a) : SE Γ n (.neg a) := by
  refine se_dflt (fun ρ μ Q => rfl) fun S e Φ ρ μ hk hS ok => ?_
  cases e <;> first | exact ff hk | skip
  rename_i op x pos
  cases op <;> first | exact ff hk | skip
  refine ⟨fun _ _ => rfl, fun Q hv => ?_⟩
  simp only [ok_neg] at hk
  rw [ve_neg] at hv
  exact te_neg ok (h1.e hk hS ok hv fun p μ₁ h => h)
set_option tactic.hygienic true in
theorem se_cmp {op : CmpOp} {l r : ME} (h1 : SE Γ n l) (h2 : SE Γ n r) : SE Γ n (.cmp op l r) := by
  intro S e Φ ρ μ hk hS ok
  cases e <;> first | exact ff hk | skip
  rename_i l' ops cs pos
  rcases ops with _ | ⟨op', _ | ⟨_, _⟩⟩ <;> first | exact ff hk | skip
  rcases cs with _ | ⟨r', _ | ⟨_, _⟩⟩ <;> first | exact ff hk | skip
  simp only [ok_cmp, Bool.and_eq_true, beq_iff_eq, Bool.not_eq_true'] at hk
  obtain ⟨⟨⟨rfl, k0⟩, k1⟩, k2⟩ := hk
  refine ⟨fun Q hv => ?_, fun Q hv => ?_⟩
  · rw [ve_cmp] at hv
    exact te_cmp ok k0 (h1.e k1 hS ok hv fun p μ₁ h => h2.e k2 hS ok h fun _ _ h => h)
  · rw [vb_cmp] at hv
    exact tb_cmp ok k0 (h1.e k1 hS ok hv fun p μ₁ h => h2.e k2 hS ok h fun _ _ h => h)
set_option tactic.hygienic true in
theorem se_chain {a : ME} {ops : List CmpOp} {es : List ME} (h1 : SE Γ n a) (h2 : SEs Γ n es) : SE Γ n (.chain a ops es) := by
  intro S e Φ ρ μ hk hS ok
  cases e <;> first | exact ff hk | skip
  rename_i a' ops' es' pos
  simp only [ok_chain, Bool.and_eq_true, beq_iff_eq, Bool.not_eq_true', decide_eq_true_eq] at hk
  obtain ⟨⟨⟨⟨⟨rfl, k0⟩, kl⟩, km⟩, k1⟩, k2⟩ := hk
  refine ⟨fun Q hv => False.elim hv, fun Q hv => ?_⟩
  rw [vb_chain] at hv
  rcases ops with _ | ⟨o1, _ | ⟨o2, ops⟩⟩ <;> first | (simp at k0; done) | skip
  rcases es with _ | ⟨m1, _ | ⟨m2, es⟩⟩ <;> first | (simp at kl; done) | skip
  rcases es' with _ | ⟨e1, es'⟩
  · exact ff k2
  have k3 := k2
  rw [ok_cons, Bool.and_eq_true] at k3
  rcases es' with _ | ⟨e2, es'⟩
  · exact ff k3.2
  exact tb_chain ok km (h1.e k1 hS ok hv fun p μ₁ h => (h2 S _ Φ ρ μ₁ k2 hS ok).2.2 _ _ _ kl h)
set_option tactic.hygienic true in
theorem se_band {a b : ME} (h1 : SE Γ n a) (h2 : SE Γ n b) : SE Γ n (.band a b) := by
  intro S e Φ ρ μ hk hS ok
  cases e <;> first | exact ff hk | skip
  rename_i op es pos
  cases op <;> first | exact ff hk | skip
  rcases es with _ | ⟨a', _ | ⟨b', _ | ⟨_, _⟩⟩⟩ <;> first | exact ff hk | skip
  simp only [ok_band, Bool.and_eq_true] at hk
  refine ⟨fun Q hv => ?_, fun Q hv => ?_⟩
  · rw [ve_band] at hv
    refine te_and ok (h1.e hk.1 hS ok hv fun p μ₁ h => truthV_mono h fun c h => ?_)
    cases c with
    | false => exact h
    | true => exact h2.e hk.2 hS ok h fun _ _ h => h
  · rw [vb_band] at hv
    refine tb_and ok (h1.b hk.1 hS ok hv fun c μ₁ h => ?_)
    cases c with
    | false => exact h
    | true => exact h2.b hk.2 hS ok h fun _ _ h => h
set_option tactic.hygienic true in
theorem se_bor {a b : ME} (h1 : SE Γ n a) (h2 : SE Γ n b) : SE Γ n (.bor a b) := by
  intro S e Φ ρ μ hk hS ok
  cases e <;> first | exact ff hk | skip
  rename_i op es pos
  cases op <;> first | exact ff hk | skip
  rcases es with _ | ⟨a', _ | ⟨b', _ | ⟨_, _⟩⟩⟩ <;> first | exact ff hk | skip
  simp only [ok_bor, Bool.and_eq_true] at hk
  refine ⟨fun Q hv => ?_, fun Q hv => ?_⟩
  · rw [ve_bor] at hv
    refine te_or ok (h1.e hk.1 hS ok hv fun p μ₁ h => truthV_mono h fun c h => ?_)
    cases c with
    | true => exact h
    | false => exact h2.e hk.2 hS ok h fun _ _ h => h
  · rw [vb_bor] at hv
    refine tb_or ok (h1.b hk.1 hS ok hv fun c μ₁ h => ?_)
    cases c with
    | true => exact h
    | false => exact h2.b hk.2 hS ok h fun _ _ h => h
set_option tactic.hygienic true in
theorem se_bnot {a : ME} (h1 : SE Γ n a) : SE Γ n (.bnot a) := by
  intro S e Φ ρ μ hk hS ok
  cases e <;> first | exact ff hk | skip
  rename_i op x pos
  cases op <;> first | exact ff hk | skip
  simp only [ok_bnot] at hk
  refine ⟨fun Q hv => ?_, fun Q hv => ?_⟩
  · rw [ve_bnot] at hv
    exact te_not ok (h1.e hk hS ok hv fun p μ₁ h => h)
  · rw [vb_bnot] at hv
    exact tb_not ok (h1.b hk hS ok hv fun c μ₁ h => h)
theorem se_ite {t b o : ME} (h1 : SE Γ n t) (h2 : SE Γ n b) (h3 : SE Γ n o) : SE Γ n (.ite t b o) := by
  intro S e Φ ρ μ hk hS ok
  cases e <;> first | exact ff hk | skip
  simp only [ok_ite, Bool.and_eq_true] at hk
  refine ⟨fun Q hv => ?_, fun Q hv => ?_⟩
  · rw [ve_ite] at hv
    refine te_ite ok (h1.b hk.1.1 hS ok hv fun c μ₁ h => ?_)
    cases c with
    | true => exact h2.e hk.1.2 hS ok h fun _ _ h => h
    | false => exact h3.e hk.2 hS ok h fun _ _ h => h
  · rw [vb_ite] at hv
    refine tb_ite ok (h1.b hk.1.1 hS ok hv fun c μ₁ h => ?_)
    cases c with
    | true => exact h2.b hk.1.2 hS ok h fun _ _ h => h
    | false => exact h3.b hk.2 hS ok h fun _ _ h => h
theorem okEs_len : ∀ {ms : List ME} {es : List Expr}, okEs S ms es = true → ms.length = es.length
  | [], [], _ => rfl
  | [], _ :: _, h => by exact ff h
  | _ :: _, [], h => by exact ff h
  | m :: ms, e :: es, h => by
    simp only [ok_cons, Bool.and_eq_true] at h
    simp [okEs_len h.2]
theorem SEs.args {ms : List ME} {es : List Expr} {pos : Pos} (h : SEs Γ n ms) (hp : plainArgs es = true) (hk : okEs S ms es = true) (hS : ScFm S Φ) (ok : FmOk Γ Φ) {ρ : Rho} {μ : Mu} {Q Q' : List PV → Mu → Prop} (hv : vcEs Γ n ms ρ μ Q) (hq : ∀ p μ', Q p μ' → Q' p μ') :
    TL Γ n Φ ρ μ ms.length (spliced (backTo pos (starEach es Φ.env))) Q' := by
  rw [star_plain hp]
  exact h.l hk hS ok hv hq
theorem se_tup {es : List ME} (h1 : SEs Γ n es) : SE Γ n (.tup es) := by
  refine se_dflt (fun ρ μ Q => rfl) fun S e Φ ρ μ hk hS ok => ?_
  cases e <;> first | exact ff hk | skip
  refine ⟨fun _ _ => rfl, fun Q hv => ?_⟩
  simp only [ok_tup, Bool.and_eq_true, decide_eq_true_eq] at hk
  rw [ve_tup] at hv
  exact te_tup ok hk.1.1 (h1.args hk.1.2 hk.2 hS ok hv fun _ _ h => h)
theorem se_lst {es : List ME} (h1 : SEs Γ n es) : SE Γ n (.lst es) := by
  refine se_dflt (fun ρ μ Q => rfl) fun S e Φ ρ μ hk hS ok => ?_
  cases e <;> first | exact ff hk | skip
  refine ⟨fun _ _ => rfl, fun Q hv => ?_⟩
  simp only [ok_lst, Bool.and_eq_true, decide_eq_true_eq] at hk
  rw [ve_lst] at hv
  exact te_lst ok hk.1.1 (h1.args hk.1.2 hk.2 hS ok hv fun _ _ h => h)
set_option tactic.hygienic true in
theorem se_dict0 : SE Γ n .dict0 := by
  refine se_dflt (fun ρ μ Q => rfl) fun S e Φ ρ μ hk hS ok => ?_
  cases e <;> first | exact ff hk | skip
  rename_i ks vs pos
  cases ks <;> first | exact ff hk | skip
  cases vs <;> first | exact ff hk | skip
  refine ⟨fun _ _ => rfl, fun Q hv => ?_⟩
  rw [ve_dict0] at hv
  exact te_dict0 ok hv
theorem se_sub {e i : ME} (h1 : SE Γ n e) (h2 : SE Γ n i) : SE Γ n (.sub e i) := by
  refine se_dflt (fun ρ μ Q => rfl) fun S e Φ ρ μ hk hS ok => ?_
  cases e <;> first | exact ff hk | skip
  refine ⟨fun _ _ => rfl, fun Q hv => ?_⟩
  simp only [ok_sub, Bool.and_eq_true, Bool.not_eq_true'] at hk
  rw [ve_sub] at hv
  exact te_sub ok (fun lo hi p e => by rw [e] at hk; exact ff hk.1.1.symm) (h1.e hk.1.2 hS ok hv fun p μ₁ h => h2.e hk.2 hS ok h fun _ _ h => h)
theorem se_attr {e : ME} {k : Nat} (h1 : SE Γ n e) : SE Γ n (.attr e k) := by
  refine se_dflt (fun ρ μ Q => rfl) fun S e Φ ρ μ hk hS ok => ?_
  cases e <;> first | exact ff hk | skip
  refine ⟨fun _ _ => rfl, fun Q hv => ?_⟩
  simp only [ok_attr, Bool.and_eq_true, beq_iff_eq] at hk
  rw [ve_attr] at hv
  exact te_attr ok hk.1.1 hk.1.2 (h1.e hk.2 hS ok hv fun p μ₁ h => h)
theorem se_slice {e : ME} {lo hi : Option ME} (h1 : SE Γ n e) (h2 : SO Γ n lo) (h3 : SO Γ n hi) : SE Γ n (.slice e lo hi) := by
  refine se_dflt (fun ρ μ Q => rfl) fun S c Φ ρ μ hk hS ok => ?_
  rcases lo with _ | lo <;> rcases hi with _ | hi
  · exact ff hk
  · replace hk := anyE hk
    obtain ⟨x, hc, hk⟩ := hk
    obtain ⟨q, p, rfl⟩ := vTo_eq hc
    rw [Bool.and_eq_true] at hk
    exact ⟨fun _ _ => rfl, fun Q hv => te_slice_to ok (h1.e hk.1 hS ok hv fun p μ₁ h => (h3 hi rfl).e hk.2 hS ok h fun _ _ h => h)⟩
  · replace hk := anyE hk
    obtain ⟨x, hc, hk⟩ := hk
    obtain ⟨q, p, rfl⟩ := vFrom_eq hc
    rw [Bool.and_eq_true] at hk
    exact ⟨fun _ _ => rfl, fun Q hv => te_slice_from ok (h1.e hk.1 hS ok hv fun p μ₁ h => (h2 lo rfl).e hk.2 hS ok h fun _ _ h => h)⟩
  · exact ff hk
end
end Mine

open PySem PySem.Calls PyProof.Rows PySem.W
set_option maxRecDepth 100000
set_option linter.unusedVariables false
set_option backward.match.sparseCases false
namespace Mine

structure WT (b : Bool) (t : SetTable) : Prop where
  led : t.led = b
  dm : t.dummies = #[]
  up : t.place.toList.Pairwise (· < ·)

theorem go_spec {xs : Array Nat} {j : Nat} (up : ∀ i k, i < k → k < xs.size → xs.getD i 0 < xs.getD k 0) : ∀ (f lo hi : Nat), hi - lo ≤ f → lo ≤ hi → hi ≤ xs.size →
    (∀ i, i < lo → xs.getD i 0 < j) → (∀ i, hi ≤ i → i < xs.size → j ≤ xs.getD i 0) →
    SetTable.below.go xs j f lo hi ≤ xs.size ∧ (∀ i, i < SetTable.below.go xs j f lo hi → xs.getD i 0 < j) ∧ (∀ i, SetTable.below.go xs j f lo hi ≤ i → i < xs.size → j ≤ xs.getD i 0)
  | 0, lo, hi, h1, h2, h3, h4, h5 => by
    have e : lo = hi := by omega
    subst e
    rw [SetTable.below.go]
    exact ⟨h3, h4, h5⟩
  | f + 1, lo, hi, h1, h2, h3, h4, h5 => by
    rw [SetTable.below.go]
    by_cases hl : lo < hi
    · rw [if_pos hl]
      dsimp only
      have hm : (lo + hi) / 2 < xs.size := by omega
      have e : xs.getD ((lo + hi) / 2) j = xs.getD ((lo + hi) / 2) 0 := by
        simp only [Array.getD_eq_getD_getElem?, Array.getElem?_eq_getElem hm, Option.getD_some]
      rw [e]
      by_cases hc : xs.getD ((lo + hi) / 2) 0 < j
      · rw [if_pos hc]
        refine go_spec up f _ _ (by omega) (by omega) h3 (fun i hi' => ?_) h5
        by_cases q : i = (lo + hi) / 2
        · rw [q]; exact hc
        · exact Nat.lt_trans (up i ((lo + hi) / 2) (by omega) hm) hc
      · rw [if_neg hc]
        refine go_spec up f _ _ (by omega) (by omega) (by omega) h4 fun i hi' hs => ?_
        by_cases q : i = (lo + hi) / 2
        · rw [q]; omega
        · exact Nat.le_trans (Nat.le_of_not_lt hc) (Nat.le_of_lt (up ((lo + hi) / 2) i (by omega) hs))
    · rw [if_neg hl]
      have e : lo = hi := by omega
      subst e
      exact ⟨h3, h4, h5⟩

theorem up_of {xs : Array Nat} (h : xs.toList.Pairwise (· < ·)) : ∀ i k, i < k → k < xs.size → xs.getD i 0 < xs.getD k 0 := fun i k hik hk => by
  have z := List.pairwise_iff_getElem.mp h i k (by simp; omega) (by simpa using hk) hik
  simp only [Array.getD_eq_getD_getElem?, Array.getElem?_eq_getElem hk, Array.getElem?_eq_getElem (Nat.lt_trans hik hk), Option.getD_some]
  simpa using z

theorem below_spec {xs : Array Nat} {j : Nat} (h : xs.toList.Pairwise (· < ·)) : SetTable.below xs j ≤ xs.size ∧ (∀ i, i < SetTable.below xs j → xs.getD i 0 < j) ∧ (∀ i, SetTable.below xs j ≤ i → i < xs.size → j ≤ xs.getD i 0) := by
  unfold SetTable.below
  exact go_spec (up_of h) _ _ _ (by omega) (by omega) (Nat.le_refl _) (fun i hi => absurd hi (Nat.not_lt_zero _)) fun i h1 h2 => by omega

theorem below_at {xs : Array Nat} (h : xs.toList.Pairwise (· < ·)) {i : Nat} (j : Nat) (hi : i ≤ xs.size) (h1 : ∀ k, k < i → xs.getD k 0 < j) (h2 : i < xs.size → j ≤ xs.getD i 0) : SetTable.below xs j = i := by
  obtain ⟨a, b, c⟩ := below_spec (j := j) h
  rcases Nat.lt_trichotomy (SetTable.below xs j) i with q | q | q
  · have z := h1 _ q
    have z' := c _ (Nat.le_refl _) (by omega)
    omega
  · exact q
  · have z := b i q
    have z' := h2 (by omega)
    omega

theorem probe_spec {t : SetTable} (hd : t.dummies = #[]) {g : Nat → Int} {h : Int} : ∀ (f : Nat) (p : SetTable.Probe) (j : Nat) (d : Option Nat), p.dummy = none → SetTable.probe.go t g h f p = some (.empty j d) → t.slot j = .empty ∧ d = none
  | 0, p, j, d, hp, e => by rw [SetTable.probe.go] at e; cases e
  | f + 1, p, j, d, hp, e => by
    have ha : (t.advance p).dummy = none := by unfold SetTable.advance; split <;> exact hp
    rw [SetTable.probe.go] at e
    cases hs : t.slot p.j with
    | empty => rw [hs] at e; cases e; exact ⟨hs, hp⟩
    | dummy =>
      exfalso
      unfold SetTable.slot at hs
      rw [hd] at hs
      dsimp only at hs
      split at hs
      · cases hs
      · rw [show SetTable.has #[] p.j = false from rfl] at hs; cases hs
    | live i =>
      rw [hs] at e
      dsimp only at e
      split at e
      · cases e
      · exact probe_spec hd f _ j d ha e

set_option tactic.hygienic true in
theorem free_spec {t : SetTable} (hd : t.dummies = #[]) {h : Int} {j : Nat} {b : Bool} (e : t.freeSlot h = some (j, b)) : t.slot j = .empty := by
  unfold SetTable.freeSlot SetTable.probe at e
  split at e
  · rename_i j' d hp
    obtain ⟨h1, h2⟩ := probe_spec hd _ _ _ _ rfl hp
    subst h2
    cases e
    exact h1
  · cases e

theorem WT.put {b : Bool} {t : SetTable} (W : WT b t) {j : Nat} (hs : t.slot j = .empty) : WT b (t.put j).1 := by
  obtain ⟨a, lo, hi⟩ := below_spec (j := j) W.up
  refine ⟨W.led, ?_, ?_⟩
  · show (if SetTable.has t.dummies j then _ else t.dummies) = #[]
    rw [W.dm]; rfl
  · show (SetTable.insertAt t.place (SetTable.below t.place j) j).toList.Pairwise _
    rw [SetTable.toList_insertAt]
    have hne : t.place[SetTable.below t.place j]? ≠ some j := fun e => by
      unfold SetTable.slot at hs
      dsimp only at hs
      rw [if_pos (by rw [e]; simp)] at hs
      cases hs
    refine List.pairwise_append.mpr ⟨W.up.sublist (List.take_sublist _ _), List.pairwise_cons.mpr ⟨fun x hx => ?_, W.up.sublist (List.drop_sublist _ _)⟩, fun x hx y hy => ?_⟩
    · obtain ⟨k, hk, e⟩ := List.mem_iff_getElem.mp hx
      rw [List.getElem_drop] at e
      have hk' : SetTable.below t.place j + k < t.place.size := by simpa using (by simpa using hk : k < t.place.toList.length - SetTable.below t.place j)|> fun z => by simp at z; omega
      have z := hi _ (Nat.le_add_right _ k) hk'
      have e' : t.place.getD (SetTable.below t.place j + k) 0 = x := by
        simp only [Array.getD_eq_getD_getElem?, Array.getElem?_eq_getElem hk', Option.getD_some]
        simpa using e
      rw [e'] at z
      rcases Nat.eq_or_lt_of_le z with q | q
      · exfalso
        have hb : SetTable.below t.place j < t.place.size := by omega
        have z2 := hi _ (Nat.le_refl _) hb
        have e2 : t.place[SetTable.below t.place j]? = some (t.place.getD (SetTable.below t.place j) 0) := by
          simp only [Array.getD_eq_getD_getElem?, Array.getElem?_eq_getElem hb, Option.getD_some]
        apply hne
        rw [e2]
        congr 1
        rcases Nat.eq_zero_or_pos k with k0 | k0
        · subst k0; rw [Nat.add_zero] at e'; rw [e', q]
        · have := up_of W.up _ _ (Nat.lt_add_of_pos_right k0 : SetTable.below t.place j < SetTable.below t.place j + k) hk'
          rw [e'] at this; omega
      · exact q
    · have hx' : x < j := by
        obtain ⟨k, hk, e⟩ := List.mem_iff_getElem.mp hx
        rw [List.getElem_take] at e
        have hk1 : k < SetTable.below t.place j := by simp at hk; omega
        have hk2 : k < t.place.size := by omega
        have z := lo k hk1
        have e' : t.place.getD k 0 = x := by
          simp only [Array.getD_eq_getD_getElem?, Array.getElem?_eq_getElem hk2, Option.getD_some]
          simpa using e
        rw [e'] at z; exact z
      rcases List.mem_cons.mp hy with rfl | hy
      · exact hx'
      · obtain ⟨k, hk, e⟩ := List.mem_iff_getElem.mp hy
        rw [List.getElem_drop] at e
        have hk' : SetTable.below t.place j + k < t.place.size := by simp at hk; omega
        have z := hi _ (Nat.le_add_right _ k) hk'
        have e' : t.place.getD (SetTable.below t.place j + k) 0 = y := by
          simp only [Array.getD_eq_getD_getElem?, Array.getElem?_eq_getElem hk', Option.getD_some]
          simpa using e
        rw [e'] at z; omega

theorem WT.standIn {b : Bool} {t : SetTable} (W : WT b t) (n : Nat) : WT b (t.standIn n) :=
  ⟨W.led, rfl, by show (Array.range n).toList.Pairwise _; rw [Array.toList_range]; exact List.pairwise_lt_range⟩
theorem WT.orStandIn {b : Bool} {t : SetTable} (W : WT b t) (n : Nat) : WT b (t.orStandIn n) := by
  unfold SetTable.orStandIn
  split
  · exact W
  · exact W.standIn n
set_option tactic.hygienic true in
theorem WT.layNew {b : Bool} {t : SetTable} (W : WT b t) (es : Array (Int × Value)) (h : Int) (x : Value) : WT b (layNew t es h x).2.1 := by
  unfold PySem.layNew
  split
  · rename_i slot d e
    exact (W.put (free_spec W.dm e)).orStandIn _
  · exact W.standIn _
set_option tactic.hygienic true in
theorem WT.relayAll {b : Bool} {t : SetTable} (W : WT b t) (es : Array (Int × Value)) (n : Nat) : WT b (relayAll t es n).2.1 := by
  unfold PySem.relayAll
  split
  · rename_i t' order e
    dsimp only
    split
    · unfold SetTable.relaid SetTable.laid at e
      simp only [bind, Option.bind] at e
      split at e
      · cases e
      · rename_i owner _
        simp only [pure, Option.some.injEq, Prod.mk.injEq] at e
        obtain ⟨rfl, rfl⟩ := e
        refine ⟨W.led, rfl, ?_⟩
        dsimp only
        rw [List.pairwise_map, List.pairwise_filterMap]
        refine List.pairwise_lt_range.imp fun {a a'} hlt p hp p' hp' => ?_
        cases ho : owner.getD a none with
        | none => simp [ho] at hp
        | some k =>
          cases ho' : owner.getD a' none with
          | none => simp [ho'] at hp'
          | some k' =>
            simp [ho] at hp; simp [ho'] at hp'
            subst hp; subst hp'; exact hlt
    · exact W.standIn _
  · exact W.standIn _
theorem WT.fresh (b : Bool) : WT b (.fresh 0 0 b) := ⟨rfl, rfl, by show ([] : List Nat).Pairwise _; exact .nil⟩
theorem WT.plain {b : Bool} {t : SetTable} (W : WT b t) : WT b { t with plain := false } := ⟨W.led, W.dm, W.up⟩
end Mine

open PySem PySem.Calls PyProof.Rows PySem.W
set_option maxRecDepth 100000
set_option linter.unusedVariables false
set_option backward.match.sparseCases false
namespace Mine

section
variable {prog : Program} {w : World}
inductive SetW (prog : Program) (w : World) (h : Heap) (a : Addr) (S : Int → Bool) (n : Nat) (b : Bool) : Prop
  | mk (o : Obj) (es : Array (Int × Value)) (ep : Nat) (t : SetTable) : h.get? a = some o → o.ExactSet → o.data = .set es ep t → ElemsOf (intKind prog w) es.toList → (∀ k, S k = true ↔ ∃ e ∈ es.toList, (intKind prog w).is k e.2 = true)
    → es.size < scanBound → t.fits es.size = true → es.size = n → WT b t → SetW prog w h a S n b

variable {A : Around} {E : Value → Shared → Prop} {s : Shared} {a : Addr} {S : Int → Bool} {n : Nat} {b : Bool}

theorem SetW.at' {h h' : Heap} (x : SetW prog w h a S n b) (e : ∀ o, h.get? a = some o → h'.get? a = some o) : SetW prog w h' a S n b :=
  by
  obtain ⟨o, es, ep, t, ho, r1, r2, r3, r4, r5, r6, r7, r8⟩ := x
  exact ⟨o, es, ep, t, e o ho, r1, r2, r3, r4, r5, r6, r7, r8⟩
theorem SetW.congr {h : Heap} {S' : Int → Bool} {n' : Nat} (x : SetW prog w h a S n b) (e : ∀ k, S k = S' k) (en : n = n') : SetW prog w h a S' n' b := by
  have : S = S' := funext e
  subst this; subst en; exact x
theorem SetW.stored {h : Heap} {o : Obj} {es es' : Array (Int × Value)} {ep : Nat} {t t' : SetTable} {S' : Int → Bool} (ho : h.get? a = some o) (hx : o.ExactSet) (hd : o.data = .set es ep t)
    (hel : ElemsOf (intKind prog w) es'.toList) (hm : ∀ k, S' k = true ↔ ∃ e ∈ es'.toList, (intKind prog w).is k e.2 = true) (hb : es'.size < scanBound) (hf : t'.fits es'.size = true) (W : WT b t') :
    SetW prog w (h.update a (Obj.putSet es' t')) a S' es'.size b ∧ (h.update a (Obj.putSet es' t')).get? a = some { o with data := .set es' (ep + 1) t' } :=
  have g := (SetOf_store (knd := intKind prog w) ho hx hd hel hm hb hf).1
  ⟨⟨_, es', ep + 1, t', g, hx, rfl, hel, hm, hb, hf, rfl, W⟩, g⟩

theorem addTail {g : Bool → Sem Unit} (hg : ∀ (c : Bool) (s₁ : Shared) (Q' : Unit → Shared → Prop), Q' () s₁ → wpAny (model prog w) A (g c) Q' E s₁)
    {o : Obj} {es es1 : Array (Int × Value)} {ep : Nat} {t t2 : SetTable} (ho : s.heap.get? a = some o) (hx : o.ExactSet) (hd : o.data = .set es ep t)
    (hel : ElemsOf (intKind prog w) es1.toList) (hm : ∀ k, S k = true ↔ ∃ e ∈ es1.toList, (intKind prog w).is k e.2 = true) (hb : es1.size < scanBound) (hf : t2.fits es1.size = true) (W : WT b t2)
    {wd : Bool} {R : Option Bool → Shared → Prop} (h : ∀ h', Heap.SameBut a s.heap h' → SetW prog w h' a S es1.size b → R (some true) { s with heap := h' }) :
    wpAny (model prog w) A (do
        storeSet a es1 t2
        if (!wd && t2.tooFull) = true then do
            g (relayAll t2 es1 (SetTable.grown es1.size)).2.2
            storeSet a (relayAll t2 es1 (SetTable.grown es1.size)).1 (relayAll t2 es1 (SetTable.grown es1.size)).2.1
            pure (some true)
          else pure (some true)) R E s := by
  obtain ⟨y, g1⟩ := SetW.stored ho hx hd hel hm hb hf W
  have sb := Heap.SameBut.update s.heap a (Obj.putSet es1 t2)
  refine wpAny_bind (wpAny_storeSet_of ho hd ?_ (fits_of_scanBound hb))
  split
  · have hp := relayAll_perm t2 es1 (SetTable.grown es1.size)
    have hf2 := relayAll_fits t2 es1 (SetTable.grown es1.size)
    have W2 := W.relayAll es1 (SetTable.grown es1.size)
    have hz : (relayAll t2 es1 (SetTable.grown es1.size)).1.size = es1.size := by
      rw [← Array.length_toList, hp.length_eq, Array.length_toList]
    refine wpAny_bind (hg _ _ _ (wpAny_bind (wpAny_storeSet_of g1 rfl ?_ (fits_of_scanBound (by rw [hz]; exact hb)))))
    obtain ⟨y2, _⟩ := SetW.stored g1 hx rfl (hel.perm hp) (fun k => (hm k).trans ⟨fun ⟨e, he, q⟩ => ⟨e, hp.mem_iff.mpr he, q⟩, fun ⟨e, he, q⟩ => ⟨e, hp.mem_iff.mp he, q⟩⟩) (by rw [hz]; exact hb) hf2 W2
    rw [hz] at y2
    exact wpAny_pure (h _ (sb.trans (Heap.SameBut.update _ a _)) y2)
  · exact wpAny_pure (h _ sb y)

theorem addW {z : Int} {tk : Tok} {Q : Bool → Shared → Prop} (x : SetW prog w s.heap a S n b) (hr : n + 1 < scanBound)
    (h : ∀ (c : Bool) h', Heap.SameBut a s.heap h' → SetW prog w h' a (fun k => S k || decide (k = z)) (if S z then n else n + 1) b → Q c { s with heap := h' }) :
    wpAny (model prog w) A (setAddHashed a (.int z tk) ((intKind prog w).hash z)) Q E s := by
  have hk : (intKind prog w).is z (.int z tk) = true := intKind_is _ _ _ _
  have hsc : (Value.int z tk).scannable = true := rfl
  obtain ⟨o, es, ep, t, ho, hx, hd, hel, hm, hb, hf, hn, W⟩ := x
  unfold setAddHashed setAddHashedIn
  refine wpAny_holding (wpAny_bind (wpAny_setState_of ho hd hf ?_))
  dsimp only
  rw [byScan_of hsc hb hel]
  simp only [↓reduceIte]
  unfold setAddByScan
  refine wpAny_bind (wpAny_bind (wpAny_rule (wpAny_bind (wpAny_setScan_of hk ho hd hf hel ?_))))
  cases hr' : List.findIdx? (fun e => (intKind prog w).is z e.2) es.toList with
  | some j =>
    dsimp only
    obtain ⟨hj, hpj, _⟩ := List.findIdx?_eq_some_iff_getElem.mp hr'
    have hS : S z = true := (hm z).mpr ⟨es.toList[j], List.getElem_mem hj, hpj⟩
    refine wpAny_pure (wpAny_pure (h _ s.heap (Heap.SameBut.refl a s.heap) ⟨o, es, ep, t, ho, hx, hd, hel, fun k => ?_, hb, hf, by rw [hS]; exact hn, W⟩))
    rw [← hm k]
    by_cases e : k = z
    · subst e; simp [hS]
    · simp [e]
  | none =>
    dsimp only
    have hS : S z = false := by
      cases q : S z with
      | false => rfl
      | true =>
        obtain ⟨e, he, hp⟩ := (hm z).mp q
        have := List.findIdx?_eq_none_iff.mp hr' e he
        rw [hp] at this; cases this
    have hp := layNew_perm t es ((intKind prog w).hash z) (.int z tk)
    have hf1 := layNew_fits t es ((intKind prog w).hash z) (.int z tk)
    have W1 := W.layNew es ((intKind prog w).hash z) (.int z tk)
    generalize hL : layNew t es ((intKind prog w).hash z) (.int z tk) = L at hp hf1 W1 ⊢
    obtain ⟨es1, t1, wd, gave⟩ := L
    dsimp only at hp hf1 W1 ⊢
    rw [Array.toList_push] at hp
    have hel1 : ElemsOf (intKind prog w) es1.toList := (hel.push hk hsc).perm hp
    have hm1 := mem_push_iff hk hm hp
    have hz : es1.size = n + 1 := by rw [← Array.length_toList, hp.length_eq, List.length_append, Array.length_toList, hn]; rfl
    have hb1 : es1.size < scanBound := by rw [hz]; exact hr
    have fin : ∀ h', Heap.SameBut a s.heap h' → SetW prog w h' a (fun k => S k || decide (k = z)) es1.size b → Q true { s with heap := h' } := fun h' sb y => by
      refine h _ h' sb ?_
      rw [hS, hz] at *
      exact y
    have gv : ∀ (c : Bool) (s₁ : Shared) (Q' : Unit → Shared → Prop), Q' () s₁ → wpAny (model prog w) A (match c with | true => rule "set.scan.the-table-gave-way" | false => pure ()) Q' E s₁ :=
      fun c s₁ Q' hq => by cases c <;> first | exact wpAny_pure hq | exact wpAny_rule hq
    refine wpAny_bind (gv _ _ _ ?_)
    split
    · refine wpAny_bind ?_
      rw [hashByValue_scannable 8 hsc]
      refine wpAny_pure (addTail ?_ ho hx hd hel1 hm1 hb1 ?_ ?_ fun h' sb y => wpAny_pure (fin h' sb y))
      · intro c s₁ Q' hq; cases c <;> first | exact wpAny_pure hq | exact wpAny_rule hq
      · split
        · exact hf1
        · exact SetTable.fits_plain_off hf1
      · split
        · exact W1
        · exact W1.plain
    · refine wpAny_bind (wpAny_pure ?_)
      simp only [↓reduceIte]
      refine addTail ?_ ho hx hd hel1 hm1 hb1 hf1 W1 fun h' sb y => wpAny_pure (fin h' sb y)
      intro c s₁ Q' hq; cases c <;> first | exact wpAny_pure hq | exact wpAny_rule hq

variable {R : Result → Shared → Prop} {I : Addr} {fp wr : List Addr} {G : Array GenState → Array GenState → Prop} {P : Nat → Value → Prop} {St : Nat → Shared → Prop}
theorem updW (W : WalksS prog w A.in1 I fp wr G n P St) (D : Addr) (hD : D ∉ fp) (val : Nat → Int) (hval : ∀ i v, P i v → ∃ t, v = .int (val i) t) (hb : n + 1 < scanBound) :
    ∀ (k i : Nat) (s : Shared), n - i = k → i ≤ n → St i s → SetW prog w s.heap D (fun k' => (firstMet val i).any (· == k')) (firstMet val i).length b →
      (∀ s', Moved (D :: wr) G s s' → SetW prog w s'.heap D (fun k' => (firstMet val n).any (· == k')) (firstMet val n).length b → R (.ok (.ret .none)) s') →
      codeAny (model prog w) A (.builtin "set.update.loop" ⟨[.ref D, .ref I], []⟩) R s := by
  have hDw : D ∉ wr := fun h => hD (W.sub _ h)
  have hsub : ∀ c ∈ wr, c ∈ D :: wr := fun c hc => List.mem_cons_of_mem _ hc
  intro k
  induction k with
  | zero =>
    intro i s hk hi st x hR
    have e : i = n := by omega
    subst e
    refine codeAny_builtin F.entry_set_update_loop ?_
    rw [Around.under_plainId F.plain_set_update_loop _]
    show wpAny _ A.in1 (pyNext (.ref I) >>= _) _ _ s
    refine wpAny_bind (W.done s _ _ st fun s' hm => ?_)
    show wpAny _ A.in1 (ret Value.none) _ _ s'
    exact wpAny_pure (hR s' (hm.mono hsub) (x.at' fun o e => hm.heap D _ hDw e))
  | succ k ih =>
    intro i s hk hi st x hR
    have hlt : i < n := by omega
    refine codeAny_builtin F.entry_set_update_loop ?_
    rw [Around.under_plainId F.plain_set_update_loop _]
    show wpAny _ A.in1 (pyNext (.ref I) >>= _) _ _ s
    refine wpAny_bind (W.item i s _ _ hlt st fun v s' hP st' hm => ?_)
    obtain ⟨t, rfl⟩ := hval i v hP
    have x' : SetW prog w s'.heap D _ _ b := x.at' fun o e => hm.heap D _ hDw e
    show wpAny _ A.in1 (holding [Value.int (val i) t] (setAdd D (.int (val i) t)) >>= _) _ _ s'
    refine wpAny_bind (wpAny_holding ?_)
    unfold setAdd
    refine wpAny_holding (wpAny_bind ((intKind prog w).pyHash (k := val i) (intKind_is _ _ _ _) ?_))
    refine addW (s := { s' with toks := s'.toks + 1 }) x' (by have := firstMet_length_le val i; omega) fun c h' sb y => ?_
    have y' : SetW prog w h' D (fun k' => (firstMet val (i + 1)).any (· == k')) (firstMet val (i + 1)).length b :=
      y.congr (fun k' => by rw [firstMet_succ, step_any]) (by rw [firstMet_succ, step_length])
    refine wpAny_pure ⟨plainId_quiet F.plain_set_update_loop _, ih (i + 1) _ (by omega) hlt (W.frame _ s' _ _ st' (Nat.le_succ _) fun c hc o e => ?_) y' fun s'' hm'' y'' => ?_⟩
    · rw [sb.2 c (fun q : c = D => hD (q ▸ hc))]; exact e
    · refine hR s'' (Moved.trans W.gtrans ((hm.mono hsub).then_heap (Nat.le_succ _) fun c o hc e => ?_) hm'') y''
      rw [sb.2 c (fun q : c = D => hc (q ▸ List.mem_cons_self))]; exact e
end
end Mine

open PySem PySem.Calls PyProof.Rows PySem.W PySem.Spec
set_option maxRecDepth 100000
set_option linter.unusedVariables false
set_option backward.match.sparseCases false
namespace Mine

section
variable {prog : Program} {w : World} {A : Around} {E : Value → Shared → Prop} {s : Shared}

noncomputable def byT (w : World) : Bool := w.params.followText "set-order"
noncomputable abbrev setObj (w : World) : Obj := { cls := .type "set", dict := none, data := .set #[] 0 (.fresh 0 0 (!byT w)) }

theorem setNew_code (a : Value) {Q₁ : Value → Shared → Prop} (h : Q₁ (.ref s.heap.objs.size) { s with heap := s.heap.push (setObj w) }) :
    codeAny (model prog w) A (.call (.builtin "set.__new__") ⟨[.type "set", a], []⟩) (wants Q₁ E) s := by
  refine codeAny_of_tree ?_
  show wpAny _ A.in1 (do checkBuiltinCall "set.__new__" ⟨[.type "set", a], []⟩; again (.builtin "set.__new__" ⟨[.type "set", a], []⟩)) _ _ s
  refine wpAny_bind (wpAny_of_eq (F.newCall_set_1 a) (wpAny_pure ⟨plainId_quiet F.plain_set_new _, codeAny_builtin F.entry_set_new ?_⟩))
  rw [Around.under_plainId F.plain_set_new _]
  unfold Builtin.«set.__new__» Builtin.Frozenset.newClass
  have hsub := sub_set_self
  obtain ⟨hp, g, d, tk, os⟩ := s
  dsimp only
  wp_walk
  refine wpAny_askSetting (wpAny_pure ?_)
  dsimp only
  simp only [newObj]
  exact wpAny_bind (wpAny_alloc (wpAny_pure (wpAny_pure h)))

theorem setW_fresh {h : Heap} {a : Addr} (e : h.get? a = some (setObj w)) : SetW prog w h a (fun _ => false) 0 (!byT w) :=
  ⟨_, #[], 0, _, e, ⟨rfl, rfl, rfl⟩, rfl, fun _ he => by simp at he, fun k => by simp, by decide, rfl, rfl, WT.fresh _⟩

set_option maxHeartbeats 3200000 in
theorem setOfList {l : Addr} {items : Array Value} {ns : List Int} {Q : Value → Shared → Prop}
    (hh : A.handled = none) (hl : s.heap.IsList l items) (hi : IntsAre items.toList ns) (hb : items.size + 1 < scanBound)
    (h : ∀ (h' : Heap) (tk : Nat), SetW prog w h' s.heap.objs.size (fun k' => (firstMet (fun i => ns.getD i 0) items.size).any (· == k')) (firstMet (fun i => ns.getD i 0) items.size).length (!byT w) →
      (∀ b o, s.heap.get? b = some o → h'.get? b = some o) → Q (.ref s.heap.objs.size) { s with heap := h', toks := tk }) :
    wpAny (model prog w) A (call (.type "set") [.ref l]) Q E s := by
  obtain ⟨c, tl, hmro⟩ := F.called_set.mro
  have hmade := F.called_set.made
  have hsub := F.called_set.sub
  refine wpAny_call (codeAny_of_tree ?_)
  show wpAny _ _ (callAny (.type "set") _) _ _ _
  refine wpAny_pure ⟨Code.quiet_builtin _ (by decide +kernel), codeAny_builtin F.entry_type_call ?_⟩
  rw [Around.under_plain (weight_type_call_type "set" [.ref l] []) rfl]
  have h1 := F.called_set.notType
  have h2 := F.called_set.canCreate
  have hct := F.typeCall_set_1 (.ref l)
  repeat (any_goals (first | assumption | wp_step))
  refine codeAny_mono (setNew_code (.ref l) (E := E) (Q₁ := fun obj s₁ => obj = .ref s.heap.objs.size ∧ s₁ = { s with heap := s.heap.push (setObj w) }) ⟨rfl, rfl⟩) fun r s₁ hr => ?_
  cases r with
  | error e => exact hr
  | ok fl =>
    cases fl with
    | ret obj =>
      obtain ⟨rfl, rfl⟩ := hr
      have hS : (s.heap.push (setObj w)).get? s.heap.objs.size = some (setObj w) := Heap.get?_push_size _ rfl
      have hT : Shared.TypeIs { s with heap := s.heap.push (setObj w) } (.ref s.heap.objs.size) "set" := ⟨_, hS, rfl⟩
      have hli := F.called_set.init.lookup
      have hbi := F.called_set.init.bind (.ref s.heap.objs.size)
      repeat (any_goals (first | assumption | wp_step))
      refine codeAny_mono (codeAny_call_builtin (R := wants (fun r s₂ => r = .none ∧ ∃ h' tk, s₂ = { s with heap := h', toks := tk } ∧
          SetW prog w h' s.heap.objs.size (fun k' => (firstMet (fun i => ns.getD i 0) items.size).any (· == k')) (firstMet (fun i => ns.getD i 0) items.size).length (!byT w) ∧
          (∀ b o, s.heap.get? b = some o → h'.get? b = some o)) E) F.called_set.init.plain F.entry_set_init (check_set_init_1 hT ?_)) fun r₂ s₂ hr₂ => ?_
      · obtain ⟨ol, hol, hcl, nl, hdl⟩ := hl
        obtain ⟨ocls, odict, odata, oslots⟩ := ol
        simp only at hcl hdl
        subst hcl; subst hdl
        have hol' : (s.heap.push (setObj w)).get? l = some { cls := .type "list", dict := odict, data := .seq items nl, slots := oslots } := Heap.get?_push_of_some _ hol
        have hsls := F.sub_list_set
        have hslf := F.sub_list_frozenset
        have hne : (Value.type "list" == Value.type "dict") = false := by decide
        have hl1 : (s.heap.push (setObj w)).IsList l items := ⟨_, hol', rfl, nl, rfl⟩
        unfold Builtin.«set.__init__» noKeywords Builtin.Frozenset.updateFrom
        generalize hPI : pyIter = PI
        wp_walk
        subst hPI
        refine wpAny_pyIter_list hl1 ?_
        refine wpAny_bind (wpAny_runValue ?_)
        have hlS : l < s.heap.objs.size := Heap.lt_size hol
        have hh3 : A.in1.in1.in1.handled = none := by simp [hh]
        have hneI : l ≠ (s.heap.push (setObj w)).objs.size := by
          rw [Heap.size_push]; exact Nat.ne_of_lt (Nat.lt_succ_of_lt hlS)
        have hSf : s.heap.objs.size ∉ [(s.heap.push (setObj w)).objs.size, l] := by
          rw [Heap.size_push]; simp only [List.mem_cons, List.mem_singleton, List.not_mem_nil, or_false, not_or]
          exact ⟨Nat.ne_of_lt (Nat.lt_succ_self _), Nat.ne_of_gt hlS⟩
        have hval : ∀ (i : Nat) (v : Value), items[i]? = some v → ∃ t, v = .int ((fun i => ns.getD i 0) i) t := fun i v hv =>
          IntsAre.int_at hi i v (by rw [Array.getElem?_toList]; exact hv)
        refine updW (b := !byT w) ((Walks.list hh3 _ l hneI items).toS) s.heap.objs.size
          hSf (fun i => ns.getD i 0) hval hb (items.size - 0) 0 _ (by omega) (Nat.zero_le _)
          ⟨⟨_, Heap.get?_push_size _ rfl, rfl, rfl⟩, (hl1.push _)⟩ ?hS0 ?hR
        case hS0 =>
          exact (setW_fresh (Heap.get?_push_of_some _ hS)).congr (fun _ => rfl) rfl
        case hR =>
          intro s' hm hS'
          obtain ⟨h', g', d', tk', os'⟩ := s'
          have eg : g' = s.gens := hm.gens
          have ed : d' = s.drawn := hm.drawn
          have eo : os' = s.os := hm.os
          subst eg; subst ed; subst eo
          show wpAny _ _ _ _ _ _
          refine wpAny_pure ?_
          show wpAny _ _ (ret Value.none) _ _ _
          refine wpAny_pure ⟨rfl, h', tk', rfl, hS', fun b o e => ?_⟩
          have hb := Heap.lt_size e
          have hb1 : b ≠ s.heap.objs.size := Nat.ne_of_lt hb
          have hb2 : b ≠ (s.heap.push (setObj w)).objs.size := by
            rw [Heap.size_push]; exact Nat.ne_of_lt (Nat.lt_succ_of_lt hb)
          exact hm.heap b o (by simp only [List.mem_cons, List.mem_singleton, List.not_mem_nil, or_false, not_or]; exact ⟨hb1, hb2⟩) (Heap.get?_push_of_some _ (Heap.get?_push_of_some _ e))
      · cases r₂ with
        | error e => exact hr₂
        | ok fl₂ =>
          cases fl₂ with
          | ret r =>
            obtain ⟨rfl, h', tk, rfl, hS', hk'⟩ := hr₂
            repeat (any_goals (first | assumption | wp_step))
            exact h _ _ hS' hk'
          | _ => exact hr₂.elim
    | _ => exact hr.elim
end
end Mine

open PySem PySem.Calls PyProof.Rows PySem.W PySem.Spec
set_option maxRecDepth 100000
set_option linter.unusedVariables false
set_option backward.match.sparseCases false
namespace Mine

theorem entry_set_iter : entryFor table "set.__iter__" = some Builtin.«frozenset.__iter__» :=
  entryFor_alias (id' := "frozenset.__iter__") (by kernel_rfl) (by first | rfl | decide +kernel | (unfold String.splitOn; simp +decide [String.splitOnAux])) (by decide +kernel) (by kernel_rfl)
theorem slot_seti_next : Slot "set_iterator" "__next__" "set_iterator.__next__" :=
  .of (owner := "set_iterator") (n := "__next__") (by rw [typeLookup_type, builtinLookup_eq_fast]; kernel_rfl) (by decide +kernel) (by decide +kernel) (by decide +kernel)
    (by first | exact .inl (by decide +kernel) | exact .inr (by decide +kernel)) (by rw [isSubtype_type]; kernel_rfl)
theorem entry_seti_next : entryFor table "set_iterator.__next__" = some Builtin.«set_iterator.__next__» := entryFor_of_fast (by kernel_rfl)
theorem args_seti_next (a : Value) : argsOk "set_iterator.__next__" ⟨[a], []⟩ := by unfold argsOk; kernel_rfl
theorem slot_seti_iter : Slot "set_iterator" "__iter__" "set_iterator.__iter__" :=
  .of (owner := "set_iterator") (n := "__iter__") (by rw [typeLookup_type, builtinLookup_eq_fast]; kernel_rfl) (by decide +kernel) (by decide +kernel) (by decide +kernel)
    (by first | exact .inl (by decide +kernel) | exact .inr (by decide +kernel)) (by rw [isSubtype_type]; kernel_rfl)
theorem entry_seti_iter : entryFor table "set_iterator.__iter__" = some Builtin.«dict_keyiterator.__iter__» :=
  entryFor_alias (id' := "dict_keyiterator.__iter__") (by kernel_rfl) (by first | rfl | decide +kernel | (unfold String.splitOn; simp +decide [String.splitOnAux])) (by decide +kernel) (by kernel_rfl)
theorem args_seti_iter (a : Value) : argsOk "set_iterator.__iter__" ⟨[a], []⟩ := by unfold argsOk; kernel_rfl
theorem len_set_look : typeLookup (.type "set") "__len__" = pure (some (.builtin "set.__len__")) := by rw [typeLookup_type, builtinLookup_eq_fast]; kernel_rfl
end Mine

open PySem PySem.Calls PyProof.Rows PySem.W PySem.Spec
set_option maxRecDepth 100000
set_option linter.unusedVariables false
set_option backward.match.sparseCases false
namespace Mine

noncomputable def SetIt (I D : Addr) (n ep : Nat) (f : Value) (i : Nat) (h : Heap) : Prop :=
  ∃ o, h.get? I = some o ∧ o.cls = .type "set_iterator" ∧ o.data = .fields #[f, .int i 0, .ref D, .int n 0, .int ep 0]

section
variable {prog : Program} {w : World} {A : Around} {E : Value → Shared → Prop} {s : Shared} {I D : Addr} {n ep i : Nat} {f : Value}
theorem SetIt.typeIs (it : SetIt I D n ep f i s.heap) : s.TypeIs (.ref I) "set_iterator" := let ⟨o, ho, hc, _⟩ := it; ⟨o, ho, hc⟩
theorem SetIt.at' {h h' : Heap} (it : SetIt I D n ep f i h) (e : ∀ o, h.get? I = some o → h'.get? I = some o) : SetIt I D n ep f i h' := let ⟨o, ho, r⟩ := it; ⟨o, e o ho, r⟩
theorem SetIt.set0 {h : Heap} {x : Value} (it : SetIt I D n ep f i h) : SetIt I D n ep x i (h.update I (Obj.mapFields (·.setIfInBounds 0 x))) :=
  let ⟨o, ho, hc, hd⟩ := it
  ⟨_, Heap.get?_update_self _ ho (Obj.isFreed_of_fields (Obj.data_mapFields hd _)), (Obj.cls_mapFields ..).trans hc, by rw [Obj.data_mapFields hd]; rfl⟩
theorem SetIt.set1 {h : Heap} (it : SetIt I D n ep f i h) : SetIt I D n ep f (i + 1) (h.update I (Obj.mapFields (·.setIfInBounds 1 (rawInt ((i : Int) + 1))))) :=
  let ⟨o, ho, hc, hd⟩ := it
  ⟨_, Heap.get?_update_self _ ho (Obj.isFreed_of_fields (Obj.data_mapFields hd _)), (Obj.cls_mapFields ..).trans hc, by rw [Obj.data_mapFields hd]; simp [rawInt]⟩

variable {oD : Obj} {es : Array (Int × Value)} {t : SetTable}

set_option backward.match.sparseCases true in
theorem next_head {R : Fin → Shared → Prop} (it : SetIt I D n ep f i s.heap) (hD : s.heap.get? D = some oD) (hd : oD.data = .set es ep t) (hf : t.fits es.size = true) (hn : es.size = n)
    (h : wpAny (model prog w) A (
      if let .int slot _ := f then do
        match ← setNext D slot.toNat i ep with
        | some (x, next) =>
          setField (.ref I) 0 (rawInt next)
          setField (.ref I) 1 (rawInt ((i : Int) + 1))
          ret x
        | none => setField (.ref I) 2 .none; raiseNew (← newExc (.type "StopIteration") [])
      else do
        let some places ← seqItems? f | unsupported "internal:set_iterator"
        match places[i]? with
        | some (.int place _) =>
          let x ← setNextDrawn D place.toNat ep
          setField (.ref I) 1 (rawInt ((i : Int) + 1))
          ret x
        | some _ => unsupported "internal:set_iterator"
        | none => setField (.ref I) 0 (rawInt 0); setField (.ref I) 2 .none; raiseNew (← newExc (.type "StopIteration") [])) R E s) :
    wpAny (model prog w) A (Builtin.«set_iterator.__next__» ⟨[.ref I], []⟩) R E s := by
  obtain ⟨o, ho, hc, hdd⟩ := id it
  unfold Builtin.«set_iterator.__next__»
  show wpAny _ _ (fieldsOf (.ref I) >>= _) _ _ s
  refine wpAny_bind (wpAny_fieldsOf ho hdd ?_)
  show wpAny _ _ (setEntries D >>= _) _ _ s
  refine wpAny_bind (wpAny_setEntries_of hD hd hf ?_)
  rw [if_neg (by rw [hn]; simp)]
  exact h

theorem next_code {Q : Option Value → Shared → Prop} (it : SetIt I D n ep f i s.heap)
    (h : wpAny (model prog w) A.in1 (Builtin.«set_iterator.__next__» ⟨[.ref I], []⟩) (fun r s' => ∃ x, r = .done (.ret x) ∧ Q (some x) s') (fun e s' => s'.TypeIs e "StopIteration" ∧ Q none s') s) :
    wpAny (model prog w) A (pyNext (.ref I)) Q E s := by
  unfold pyNext
  refine wpAny_bind (wpAny_attempt (wpAny_callSpecial?_slot (name := Str.ofString "__next__") it.typeIs slot_seti_next
    (wpAny_call_entry slot_seti_next it.typeIs entry_seti_next (wpAny_mono h (fun r s' hr => ?_) fun e s' he => ?_) (args_seti_next _))))
  · obtain ⟨x, rfl, q⟩ := hr
    exact ⟨x, rfl, wpAny_pure q⟩
  · exact wpAny_bind (wpAny_isInstance (T := "StopIteration") (b := true) he.1 isSubtype_stop (wpAny_pure he.2))

theorem stop_raise {P : Fin → Shared → Prop} {E : Value → Shared → Prop} (hh : A.handled = none) (h : ∀ v h', (∀ b o, s.heap.get? b = some o → h'.get? b = some o) → Shared.TypeIs { s with heap := h' } v "StopIteration" → E v { s with heap := h' }) :
    wpAny (model prog w) A (newExc (.type "StopIteration") [] >>= fun e => raiseNew e) P E s := by
  refine wpAny_bind ?_
  simp only [newExc, newTuple]
  refine wpAny_bind (wpAny_newObj_type ?_ (by size_fits))
  refine wpAny_bind (m := firstArgMember _ _) (wpAny_of_eq (a := Value.none) (by first | rfl | (simp only [firstArgMember]; rfl)) ?_)
  refine wpAny_newObj_type ?_ (by size_fits)
  simp only [raiseNew]
  refine wpAny_bind (wpAny_handled ?_)
  rw [hh]
  refine wpAny_bind (wpAny_pure (wpAny_throw ?_))
  exact h _ _ (fun b o e => Heap.get?_push_of_some _ (Heap.get?_push_of_some _ e)) ⟨_, Heap.get?_push_size _ rfl, rfl⟩

theorem next_slot {slot slot' : Nat} {x : Value} {Q : Option Value → Shared → Prop} (it : SetIt I D n ep (.int slot 0) i s.heap) (hD : s.heap.get? D = some oD) (hd : oD.data = .set es ep t) (hf : t.fits es.size = true) (hn : es.size = n)
    (hx : ∀ (A' : Around) (E' : Value → Shared → Prop) (Q' : Option (Value × Nat) → Shared → Prop), Q' (some (x, slot')) s → wpAny (model prog w) A' (setNext D slot i ep) Q' E' s)
    (hQ : ∀ h', SetIt I D n ep (.int slot' 0) (i + 1) h' → Heap.SameBut I s.heap h' → Q (some x) { s with heap := h' }) : wpAny (model prog w) A (pyNext (.ref I)) Q E s := by
  obtain ⟨o, ho, hc, hdd⟩ := id it
  refine next_code it (next_head it hD hd hf hn ?_)
  dsimp only
  refine wpAny_bind (hx _ _ _ ?_)
  dsimp only
  have it2 := it.set0 (x := rawInt slot')
  have it3 := it2.set1
  obtain ⟨o2, ho2, _, hd2⟩ := id it2
  refine wpAny_bind (wpAny_setField ho hdd (by simp) (wpAny_bind (wpAny_setField (s := { s with heap := _ }) ho2 hd2 (by simp) (wpAny_pure ⟨x, rfl, ?_⟩))))
  exact hQ _ it3 ((Heap.SameBut.update ..).trans (Heap.SameBut.update ..))

theorem next_slot_end {slot : Nat} {Q : Option Value → Shared → Prop} (hh : A.handled = none) (it : SetIt I D n ep (.int slot 0) i s.heap) (hD : s.heap.get? D = some oD) (hd : oD.data = .set es ep t) (hf : t.fits es.size = true) (hn : es.size = n)
    (hx : ∀ (A' : Around) (E' : Value → Shared → Prop) (Q' : Option (Value × Nat) → Shared → Prop), Q' none s → wpAny (model prog w) A' (setNext D slot i ep) Q' E' s)
    (hQ : ∀ h', (∀ b o, b ≠ I → s.heap.get? b = some o → h'.get? b = some o) → Q none { s with heap := h' }) : wpAny (model prog w) A (pyNext (.ref I)) Q E s := by
  obtain ⟨o, ho, hc, hdd⟩ := id it
  refine next_code it (next_head it hD hd hf hn ?_)
  dsimp only
  refine wpAny_bind (hx _ _ _ ?_)
  dsimp only
  refine wpAny_bind (wpAny_setField ho hdd (by simp) (stop_raise hh fun v h' hk hT => ⟨hT, hQ _ fun b o hb e => hk b o ?_⟩))
  exact ((Heap.SameBut.update ..).2 b hb).trans e

variable {Tu : Addr} {oT : Obj} {ps : List Nat} {k : Nat}
theorem next_drawn {p : Nat} {x : Int × Value} {Q : Option Value → Shared → Prop} (it : SetIt I D n ep (.ref Tu) i s.heap) (hD : s.heap.get? D = some oD) (hd : oD.data = .set es ep t) (hf : t.fits es.size = true) (hn : es.size = n)
    (hT : s.heap.get? Tu = some oT) (hdT : oT.data = .seq (ps.map fun (i : Nat) => rawInt i).toArray k) (hp : ps[i]? = some p) (hx : es[p]? = some x)
    (hQ : ∀ h', SetIt I D n ep (.ref Tu) (i + 1) h' → Heap.SameBut I s.heap h' → Q (some x.2) { s with heap := h' }) : wpAny (model prog w) A (pyNext (.ref I)) Q E s := by
  obtain ⟨o, ho, hc, hdd⟩ := id it
  refine next_code it (next_head it hD hd hf hn ?_)
  dsimp only
  refine wpAny_bind (wpAny_seqItems hT hdT ?_)
  have e : (ps.map fun (i : Nat) => rawInt i).toArray[i]? = some (.int p 0) := by simp [hp, rawInt]
  dsimp only
  rw [e]
  dsimp only
  refine wpAny_bind ?_
  unfold setNextDrawn
  refine wpAny_bind (wpAny_setState_of hD hd hf ?_)
  dsimp only
  rw [if_neg (by simp)]
  rw [show ((p : Int)).toNat = p from Int.toNat_natCast p, hx]
  refine wpAny_pure (wpAny_bind (wpAny_setField ho hdd (by simp) (wpAny_pure ⟨_, rfl, hQ _ it.set1 (Heap.SameBut.update ..)⟩)))

theorem next_drawn_end {Q : Option Value → Shared → Prop} (hh : A.handled = none) (it : SetIt I D n ep (.ref Tu) i s.heap) (hD : s.heap.get? D = some oD) (hd : oD.data = .set es ep t) (hf : t.fits es.size = true) (hn : es.size = n)
    (hT : s.heap.get? Tu = some oT) (hdT : oT.data = .seq (ps.map fun (i : Nat) => rawInt i).toArray k) (hp : ps[i]? = none)
    (hQ : ∀ h', (∀ b o, b ≠ I → s.heap.get? b = some o → h'.get? b = some o) → Q none { s with heap := h' }) : wpAny (model prog w) A (pyNext (.ref I)) Q E s := by
  obtain ⟨o, ho, hc, hdd⟩ := id it
  refine next_code it (next_head it hD hd hf hn ?_)
  dsimp only
  refine wpAny_bind (wpAny_seqItems hT hdT ?_)
  have e : (ps.map fun (i : Nat) => rawInt i).toArray[i]? = none := by simpa using hp
  dsimp only
  rw [e]
  dsimp only
  have it2 := it.set0 (x := rawInt 0)
  obtain ⟨o2, ho2, _, hd2⟩ := id it2
  refine wpAny_bind (wpAny_setField ho hdd (by simp) (wpAny_bind (wpAny_setField (s := { s with heap := _ }) ho2 hd2 (by simp) (stop_raise hh fun v h' hk hT => ⟨hT, hQ _ fun b o hb e => hk b o ?_⟩))))
  exact (((Heap.SameBut.update ..).trans (Heap.SameBut.update ..)).2 b hb).trans e
end
end Mine

open PySem PySem.Calls PyProof.Rows PySem.W PySem.Spec
set_option maxRecDepth 100000
set_option linter.unusedVariables false
set_option backward.match.sparseCases false
namespace Mine

theorem get_erase_perm {α : Type} : ∀ {l : List α} {i : Nat} (h : i < l.length), (l[i] :: l.eraseIdx i).Perm l
  | a :: r, 0, h => .refl _
  | a :: r, i + 1, h => by
    have z := get_erase_perm (l := r) (i := i) (by simpa using h)
    simp only [List.getElem_cons_succ, List.eraseIdx_cons_succ]
    exact (List.Perm.swap _ _ _).trans (List.Perm.cons _ z)
theorem pick_go {α : Type} (next : Nat → Nat) : ∀ (f k : Nat) (l : List α) (out : Array α), l.length ≤ f → (pickOrder.go next f k l out).toList.Perm (out.toList ++ l)
  | 0, k, l, out, h => by
    have : l = [] := List.length_eq_zero_iff.mp (by omega)
    subst this
    simp [pickOrder.go]
  | f + 1, k, l, out, h => by
    unfold pickOrder.go
    cases l with
    | nil => simp
    | cons a r =>
      have hl : next k % (a :: r).length < (a :: r).length := Nat.mod_lt _ (by simp)
      rw [List.getElem?_eq_getElem hl]
      dsimp only
      refine (pick_go next f (k + 1) _ _ ?_).trans ?_
      · rw [List.length_eraseIdx_of_lt hl]; simp at h ⊢; omega
      · rw [Array.toList_push, List.append_assoc]
        refine List.Perm.append_left _ ?_
        exact (get_erase_perm hl)
theorem pick_perm {α : Type} (next : Nat → Nat) (xs : Array α) : (pickOrder next xs).toList.Perm xs.toList := by
  have z := pick_go next xs.size 0 xs.toList #[] (by simp)
  simpa [pickOrder] using z

section
variable {prog : Program} {w : World} {A : Around} {E : Value → Shared → Prop} {s : Shared} {I D : Addr} {n ep i : Nat} {f : Value}
theorem wpAny_choose {M : Model} {src : Source} {m : Nat} {Q : Nat → Shared → Prop} (hm : m ≠ 0) (h : ∀ i, i < m → Q i { s with drawn := s.drawn.bump src }) : wpAny M A (choose src m) Q E s :=
  fun Γ p hΓ => by
    show m ≠ 0 ∧ _
    exact ⟨hm, h _ (Nat.mod_lt _ (Nat.pos_of_ne_zero hm))⟩

theorem drawOrder_wp {α : Type} {M : Model} (n : Nat) : ∀ (xs : List α) (s : Shared) (Q : List α → Shared → Prop), n = xs.length → (∀ l d, l.Perm xs → Q l { s with drawn := d }) → wpAny M A (drawOrder n xs) Q E s := by
  induction n with
  | zero =>
    intro xs s Q hn h
    cases xs with
    | nil =>
      unfold drawOrder
      exact wpAny_pure (h [] s.drawn .nil)
    | cons a r => cases hn
  | succ n ih =>
    intro xs s Q hn h
    cases xs with
    | nil => cases hn
    | cons a r =>
      unfold drawOrder
      refine wpAny_bind (wpAny_choose (by simp) fun i hi => ?_)
      rw [List.getElem?_eq_getElem hi]
      dsimp only
      refine wpAny_bind (ih _ _ _ (by rw [List.length_eraseIdx_of_lt hi]; simp at hn ⊢; omega) fun l d hl => wpAny_pure (h _ d ?_))
      exact (List.Perm.cons _ hl).trans (get_erase_perm hi)

variable {oD : Obj} {es : Array (Int × Value)} {t : SetTable}
theorem setsByText_wp {Q : Bool → Shared → Prop} (h : Q (byT w) s) : wpAny (model prog w) A setsByText Q E s := by
  unfold setsByText
  exact wpAny_bind (wpAny_askSetting (wpAny_pure h))

theorem setNext_text {slot : Nat} {Q : Option (Value × Nat) → Shared → Prop} (hD : s.heap.get? D = some oD) (hd : oD.data = .set es ep t) (hf : t.fits es.size = true) (hb : byT w = true)
    (h : Q (((pickOrder (w.params.setOrder D ep) es)[i]?).map fun e => (e.2, slot)) s) : wpAny (model prog w) A (setNext D slot i ep) Q E s := by
  unfold setNext
  refine wpAny_bind (wpAny_setState_of hD hd hf ?_)
  dsimp only
  refine wpAny_bind (setsByText_wp ?_)
  rw [hb]
  simp only [↓reduceIte, bne_self_eq_false, Bool.false_eq_true]
  refine wpAny_bind ?_
  unfold setWalk
  refine wpAny_bind (wpAny_setState_of hD hd hf ?_)
  dsimp only
  refine wpAny_bind (setsByText_wp ?_)
  rw [hb]
  simp only [↓reduceIte]
  exact wpAny_bind (wpAny_askSetting (wpAny_pure (wpAny_pure h)))

set_option backward.match.sparseCases true in
theorem setNext_plain {slot : Nat} {Q : Option (Value × Nat) → Shared → Prop} (hD : s.heap.get? D = some oD) (hd : oD.data = .set es ep t) (hf : t.fits es.size = true) (hb : byT w = false) (hl : t.led = true) (hp : (!t.plain && decide (es.size > 1)) = false)
    (h : Q (match es[SetTable.below t.place slot]?, t.place[SetTable.below t.place slot]? with
    | some (_, x), some j => some (x, j + 1)
    | _, _ => none) s) : wpAny (model prog w) A (setNext D slot i ep) Q E s := by
  unfold setNext
  refine wpAny_bind (wpAny_setState_of hD hd hf ?_)
  dsimp only
  refine wpAny_bind (setsByText_wp ?_)
  rw [hb]
  simp only [Bool.false_eq_true, ↓reduceIte]
  split
  · rename_i hc
    have hc' : (!t.plain && decide (es.size > 1)) = true := hc
    rw [hp] at hc'; cases hc'
  · refine wpAny_bind ?_
    show wpAny _ _ (if (!t.led && !es.isEmpty) = true then (unsupported "set:maker-not-led" : Sem Unit) else pure ()) _ _ s
    rw [hl]
    simp only [Bool.not_true, Bool.false_and, Bool.false_eq_true, ↓reduceIte]
    exact wpAny_pure (wpAny_pure h)

theorem setDrawn_wp {Q : Bool → Shared → Prop} (hD : s.heap.get? D = some oD) (hd : oD.data = .set es ep t) (hf : t.fits es.size = true) (h : Q (!byT w && (!t.plain && decide (es.size > 1))) s) : wpAny (model prog w) A (setDrawn D) Q E s := by
  unfold setDrawn
  refine wpAny_bind (wpAny_setState_of hD hd hf ?_)
  dsimp only
  exact wpAny_bind (setsByText_wp (wpAny_pure h))

theorem walkSlot {L : List (Int × Value)} {slot : Nat → Nat} (hne : D ≠ I) (hd : oD.data = .set es ep t) (hf : t.fits es.size = true) (hn : es.size = n) (hL : L.length = n)
    (N : ∀ i (s : Shared) (A' : Around) (E' : Value → Shared → Prop) (Q' : Option (Value × Nat) → Shared → Prop), i ≤ n → s.heap.get? D = some oD → Q' ((L[i]?).map fun e => (e.2, slot (i + 1))) s → wpAny (model prog w) A' (setNext D (slot i) i ep) Q' E' s)
    (A : Around) (hh : A.handled = none) :
    Walks prog w A I [I, D] [I] n (fun i v => ∃ e, L[i]? = some e ∧ v = e.2) (fun i h => SetIt I D n ep (.int (slot i) 0) i h ∧ h.get? D = some oD) where
  sub := fun b hb => by simp at hb; simp [hb]
  frame := fun _ _ _ st hk => ⟨st.1.at' fun o e => hk I (by simp) o e, hk D (by simp) _ st.2⟩
  item := fun i s Q E hi st hQ => by
    have e : L[i]? = some (L[i]'(by omega)) := List.getElem?_eq_getElem (by omega)
    refine next_slot (x := (L[i]'(by omega)).2) (slot' := slot (i + 1)) st.1 st.2 hd hf hn (fun A' E' Q' q => N i s A' E' Q' (Nat.le_of_lt hi) st.2 (by rw [e]; exact q)) fun h' it' sb => ?_
    exact hQ _ h' s.toks ⟨_, e, rfl⟩ ⟨it', (sb.2 D hne).trans st.2⟩ fun b o hb q => (sb.2 b fun z => hb (by simp [z])).trans q
  done := fun s Q E st hQ => by
    have e : L[n]? = none := List.getElem?_eq_none (by omega)
    refine next_slot_end hh st.1 st.2 hd hf hn (fun A' E' Q' q => N n s A' E' Q' (Nat.le_refl _) st.2 (by rw [e]; exact q)) fun h' hk => hQ h' s.toks fun b o hb q => hk b o (fun z => hb (by simp [z])) q
  self := fun i s Q E st hQ => by
    refine wpAny_pyIter_slot st.1.typeIs slot_seti_iter (wpAny_call_entry slot_seti_iter st.1.typeIs entry_seti_iter ?_ (args_seti_iter _))
    show wpAny _ _ (ret (.ref I)) _ _ s
    exact wpAny_pure ⟨_, rfl, "set_iterator", _, st.1.typeIs, slot_seti_next.lookup, hQ⟩

theorem walkDrawn {L : List (Int × Value)} {ps : List Nat} {Tu : Addr} {oT : Obj} {k : Nat} (hne : D ≠ I) (hnT : Tu ≠ I) (hd : oD.data = .set es ep t) (hf : t.fits es.size = true) (hn : es.size = n) (hdT : oT.data = .seq (ps.map fun (i : Nat) => rawInt i).toArray k)
    (hps : ps.length = n) (hb : ∀ p ∈ ps, p < n) (hL : L = ps.map fun p => es.getD p (0, .none)) (A : Around) (hh : A.handled = none) :
    Walks prog w A I [I, D, Tu] [I] n (fun i v => ∃ e, L[i]? = some e ∧ v = e.2) (fun i h => SetIt I D n ep (.ref Tu) i h ∧ h.get? D = some oD ∧ h.get? Tu = some oT) where
  sub := fun b hb => by simp at hb; simp [hb]
  frame := fun _ _ _ st hk => ⟨st.1.at' fun o e => hk I (by simp) o e, hk D (by simp) _ st.2.1, hk Tu (by simp) _ st.2.2⟩
  item := fun i s Q E hi st hQ => by
    have hi' : i < ps.length := by omega
    have e1 : ps[i]? = some ps[i] := List.getElem?_eq_getElem hi'
    have hlt : ps[i] < es.size := by rw [hn]; exact hb _ (List.getElem_mem hi')
    have e2 : es[ps[i]]? = some es[ps[i]] := Array.getElem?_eq_getElem hlt
    refine next_drawn st.1 st.2.1 hd hf hn st.2.2 hdT e1 e2 fun h' it' sb => ?_
    exact hQ _ h' s.toks ⟨_, by rw [hL, List.getElem?_map, e1]; simp [Array.getElem?_eq_getElem hlt], rfl⟩ ⟨it', (sb.2 D hne).trans st.2.1, (sb.2 Tu hnT).trans st.2.2⟩ fun b o hb q => (sb.2 b fun z => hb (by simp [z])).trans q
  done := fun s Q E st hQ => by
    have e : ps[n]? = none := List.getElem?_eq_none (by omega)
    refine next_drawn_end hh st.1 st.2.1 hd hf hn st.2.2 hdT e fun h' hk => hQ h' s.toks fun b o hb q => hk b o (fun z => hb (by simp [z])) q
  self := fun i s Q E st hQ => by
    refine wpAny_pyIter_slot st.1.typeIs slot_seti_iter (wpAny_call_entry slot_seti_iter st.1.typeIs entry_seti_iter ?_ (args_seti_iter _))
    show wpAny _ _ (ret (.ref I)) _ _ s
    exact wpAny_pure ⟨_, rfl, "set_iterator", _, st.1.typeIs, slot_seti_next.lookup, hQ⟩
end
end Mine

open PySem PySem.Calls PyProof.Rows PySem.W PySem.Spec
set_option maxRecDepth 100000
set_option linter.unusedVariables false
set_option backward.match.sparseCases false
namespace Mine

section
variable {prog : Program} {w : World} {A : Around} {E : Value → Shared → Prop} {s : Shared} {D : Addr} {n ep : Nat} {oD : Obj} {es : Array (Int × Value)} {t : SetTable}

inductive SetWalks (prog : Program) (w : World) (I D : Addr) (es : Array (Int × Value)) (h₀ h : Heap) : Prop
  | mk (fp : List Addr) (L : List (Int × Value)) (St : Nat → Heap → Prop) : L.Perm es.toList → (∀ A : Around, A.handled = none → Walks prog w A I fp [I] es.size (fun i v => ∃ e : Int × Value, L[i]? = some e ∧ v = e.2) St) → St 0 h → (∀ b ∈ fp, b = D ∨ h₀.get? b = none) → I ∈ fp → SetWalks prog w I D es h₀ h

noncomputable def slotAt (t : SetTable) : Nat → Nat
  | 0 => 0
  | j + 1 => t.place.getD j 0 + 1
theorem setIter {Q : Value → Shared → Prop} (hD : s.heap.get? D = some oD) (hc : oD.cls = .type "set") (hd : oD.data = .set es ep t) (hf : t.fits es.size = true) (W : WT (!byT w) t) (hz : es.size ≤ 1000)
    (hQ : ∀ h' d' I, SetWalks prog w I D es s.heap h' → s.heap.get? I = none → (∀ b o, s.heap.get? b = some o → h'.get? b = some o) → Q (.ref I) { s with heap := h', drawn := d' }) :
    wpAny (model prog w) A (pyIter (.ref D)) Q E s := by
  have hT : s.TypeIs (.ref D) "set" := ⟨oD, hD, hc⟩
  refine wpAny_pyIter_slot hT F.slot_set_iter (wpAny_call_entry F.slot_set_iter hT entry_set_iter ?_ (F.args_set_iter_1 _))
  unfold Builtin.«frozenset.__iter__»
  show wpAny _ _ (Builtin.Frozenset.sizeOf D >>= _) _ _ s
  refine wpAny_bind ?_
  unfold Builtin.Frozenset.sizeOf
  refine wpAny_bind (wpAny_setEntries_of hD hd hf (wpAny_pure ?_))
  refine wpAny_bind (m := setDrawn D) (setDrawn_wp hD hd hf ?_)
  cases hb : (!byT w && (!t.plain && decide (es.size > 1))) with
  | false =>
    simp only [Bool.false_eq_true, ↓reduceIte]
    refine wpAny_bind (wpAny_pure ?_)
    refine wpAny_bind (wpAny_setEpoch_of hD hd hf ?_)
    refine wpAny_bind (wpAny_newObj_type (wpAny_pure ⟨_, rfl, "set_iterator", _, ⟨_, Heap.get?_push_size _ rfl, rfl⟩, slot_seti_next.lookup, ?_⟩))
    have hI : SetIt s.heap.objs.size D es.size ep (.int 0 0) 0 (s.heap.push { cls := .type "set_iterator", data := .fields #[rawInt 0, rawInt 0, .ref D, rawInt es.size, rawInt ep] }) := ⟨_, Heap.get?_push_size _ rfl, rfl, rfl⟩
    have hlt := Heap.lt_size hD
    have hne : D ≠ s.heap.objs.size := Nat.ne_of_lt hlt
    have hps : t.place.size = es.size := by
      simp only [SetTable.fits, Bool.and_eq_true, beq_iff_eq] at hf; exact hf.1
    refine hQ _ s.drawn _ ?_ (none_size _) fun b o e => Heap.get?_push_of_some _ e
    have hfp : ∀ b ∈ [s.heap.objs.size, D], b = D ∨ s.heap.get? b = none := fun b hb => by
      simp only [List.mem_cons, List.not_mem_nil, or_false] at hb
      rcases hb with rfl | rfl
      · exact .inr (none_size _)
      · exact .inl rfl
    cases hbt : byT w with
    | true =>
      refine ⟨_, (pickOrder (w.params.setOrder D ep) es).toList, _, pick_perm _ _, fun A hh => walkSlot (slot := fun _ => 0) hne hd hf rfl (by rw [(pick_perm _ _).length_eq]; simp) (fun i s' A' E' Q' hi hD' q => setNext_text hD' hd hf hbt (by simpa using q)) A hh, ⟨hI, Heap.get?_push_of_some _ hD⟩, hfp, by simp⟩
    | false =>
      rw [hbt] at hb W
      have hb' : (!t.plain && decide (es.size > 1)) = false := by simpa using hb
      have hl : t.led = true := by simpa using W.led
      refine ⟨_, es.toList, _, .refl _, fun A hh => walkSlot (slot := slotAt t) hne hd hf rfl (by simp) (fun i s' A' E' Q' hi hD' q => setNext_plain hD' hd hf hbt hl hb' ?_) A hh, ⟨hI, Heap.get?_push_of_some _ hD⟩, hfp, by simp⟩
      have hbel : SetTable.below t.place (slotAt t i) = i := by
        refine below_at W.up _ (by omega) (fun k hk => ?_) fun hi' => ?_
        · cases i with
          | zero => cases hk
          | succ j =>
            show t.place.getD k 0 < t.place.getD j 0 + 1
            rcases Nat.lt_or_ge k j with q | q
            · have := up_of W.up k j q (by omega); omega
            · have : k = j := by omega
              subst this; omega
        · cases i with
          | zero => exact Nat.zero_le _
          | succ j =>
            exact up_of W.up j (j + 1) (Nat.lt_succ_self _) hi'
      rw [hbel]
      rcases Nat.lt_or_ge i es.size with q1 | q1
      · rw [Array.getElem?_eq_getElem q1, Array.getElem?_eq_getElem (by omega : i < t.place.size)]
        have z : es.toList[i]? = some es[i] := by rw [Array.getElem?_toList]; exact Array.getElem?_eq_getElem q1
        rw [z] at q
        have z2 : t.place.getD i 0 = t.place[i]'(by omega) := by simp [Array.getD, show i < t.place.size by omega]
        simpa [z2, slotAt] using q
      · rw [Array.getElem?_eq_none q1]
        have z : es.toList[i]? = none := List.getElem?_eq_none (by simpa using q1)
        rw [z] at q
        simpa using q
  | true =>
    simp only [↓reduceIte]
    refine wpAny_bind (drawOrder_wp es.size (List.range es.size) s _ (by simp) fun ps d' hps => ?_)
    have hpl : ps.length = es.size := by rw [hps.length_eq]; simp
    refine wpAny_bind (wpAny_newTuple (s := { s with drawn := d' }) ?_ (by rw [List.length_map, hpl, sizeLine_eq]; omega))
    refine wpAny_bind (wpAny_setEpoch_of (s := { s with heap := _, drawn := d' }) (Heap.get?_push_of_some _ hD) hd hf ?_)
    refine wpAny_bind (wpAny_newObj_type (s := { s with heap := _, drawn := d' }) (wpAny_pure ⟨_, rfl, "set_iterator", _, ⟨_, Heap.get?_push_size _ rfl, rfl⟩, slot_seti_next.lookup, ?_⟩))
    generalize hT1 : s.heap.push { cls := .type "tuple", data := .seq (List.map (fun (i : Nat) => rawInt i) ps).toArray } = h1
    have z1 : h1.get? s.heap.objs.size = some { cls := .type "tuple", data := .seq (List.map (fun (i : Nat) => rawInt i) ps).toArray } := by rw [← hT1]; exact Heap.get?_push_size _ rfl
    have zs : h1.objs.size = s.heap.objs.size + 1 := by rw [← hT1]; exact Heap.size_push ..
    have zk : ∀ b o, s.heap.get? b = some o → h1.get? b = some o := fun b o e => by rw [← hT1]; exact Heap.get?_push_of_some _ e
    have hlt := Heap.lt_size hD
    have hne : D ≠ h1.objs.size := by rw [zs]; exact Nat.ne_of_lt (Nat.lt_succ_of_lt hlt)
    have hnew : s.heap.get? h1.objs.size = none := by
      cases e : s.heap.get? h1.objs.size with
      | none => rfl
      | some o => have := Heap.lt_size e; rw [zs] at this; exact absurd (Nat.lt_of_succ_lt this) (Nat.lt_irrefl _)
    refine hQ _ d' _ ⟨[h1.objs.size, D, s.heap.objs.size], ps.map fun p => es.getD p (0, .none), _, ?_, fun A hh => walkDrawn (Tu := s.heap.objs.size) hne (by rw [zs]; exact Nat.ne_of_lt (Nat.lt_succ_self _)) hd hf rfl rfl hpl (fun p hp => by simpa using hps.mem_iff.mp hp) rfl A hh,
      ⟨⟨_, Heap.get?_push_size _ rfl, rfl, rfl⟩, Heap.get?_push_of_some _ (zk _ _ hD), Heap.get?_push_of_some _ z1⟩, fun b hb => ?_, by simp⟩ ?_ fun b o e => Heap.get?_push_of_some _ (zk _ _ e)
    · refine (hps.map _).trans ?_
      have e : (List.range es.size).map (fun p => es.getD p (0, Value.none)) = es.toList := by
        refine List.ext_getElem (by simp) fun i h1 h2 => ?_
        have hi : i < es.size := by simpa using h2
        simp [Array.getD, hi]
      rw [e]
    · simp only [List.mem_cons, List.not_mem_nil, or_false] at hb
      rcases hb with rfl | rfl | rfl
      · exact .inr hnew
      · exact .inl rfl
      · exact .inr (none_size _)
    · exact hnew
end
end Mine

open PySem PySem.Calls PyProof.Rows PySem.W PySem.Spec
set_option maxRecDepth 100000
set_option linter.unusedVariables false
set_option backward.match.sparseCases false
namespace Mine

section
variable {prog : Program} {w : World} {A : Around} {E : Value → Shared → Prop} {s : Shared} {D : Addr} {n ep : Nat} {oD : Obj} {es : Array (Int × Value)} {t : SetTable}

theorem items_list {L : List (Int × Value)} {acc : Array Value} {n : Nat} (hL : L.length = n) (h : ItemsOf (fun i v => ∃ e : Int × Value, L[i]? = some e ∧ v = e.2) acc n) : acc.toList = L.map (·.2) := by
  refine List.ext_getElem (by simp [h.1, hL]) fun i h1 h2 => ?_
  have hi : i < acc.size := by simpa using h1
  obtain ⟨e, e1, e2⟩ := h.2 i acc[i] (Array.getElem?_eq_getElem hi)
  have hi' : i < L.length := by simpa using h2
  rw [List.getElem?_eq_getElem hi'] at e1
  cases e1
  simpa using e2

theorem split_set : splitId "set.__len__" = some ("set", "__len__") := by decide +kernel
theorem hint_set {Q : Bool → Shared → Prop} (hT : s.TypeIs (.ref D) "set") (h : Q false s) : wpAny (model prog w) A (Builtin.List.listLengthHint (.ref D)) Q E s := by
  refine wpAny_bind (wpAny_specialOf hT len_set_look ?_)
  generalize hid : ("set.__len__" : String) = id0
  wp_delta
  generalize hsp : splitId id0 = o
  have hsp := hsp.symm.trans (hid ▸ split_set)
  subst hsp
  refine wpAny_bind (wpAny_isInstance (b := true) hT (by rw [isSubtype_type]; kernel_rfl) ?_)
  refine wpAny_ite_false rfl ?_
  refine wpAny_ite_true (by subst hid; decide +kernel) ?_
  refine wpAny_bind (wpAny_typeOf hT ?_)
  exact wpAny_pure h
theorem collectSet {Q : List Value → Shared → Prop} (hh : A.handled = none) (hD : s.heap.get? D = some oD) (hc : oD.cls = .type "set") (hd : oD.data = .set es ep t) (hf : t.fits es.size = true) (W : WT (!byT w) t) (hz : es.size ≤ 1000)
    (hQ : ∀ (s' : Shared) (L : List (Int × Value)), L.Perm es.toList → (∀ b o, s.heap.get? b = some o → s'.heap.get? b = some o) → s'.gens = s.gens → s'.os = s.os → Q (L.map (·.2)) s') :
    wpAny (model prog w) A (collect (.ref D)) Q E s := by
  unfold collect
  refine wpAny_bind (wpAny_runValue (codeAny_builtin F.entry_proto_collect ?_))
  rw [Around.under_plainId F.plain_proto_collect _]
  show wpAny _ A.in1 (newList [] >>= fun l => again (.builtin "list.__iadd__" ⟨[l, .ref D], []⟩)) _ _ s
  refine wpAny_bind (wpAny_newObj_type ?_)
  refine wpAny_pure ⟨plainId_quiet F.plain_list_iadd _, codeAny_builtin F.entry_list_iadd ?_⟩
  rw [Around.under_plainId F.plain_list_iadd _]
  generalize h1e : s.heap.push { cls := .type "list", data := .seq ([] : List Value).toArray } = h1
  have hS1 : h1.get? s.heap.objs.size = some { cls := .type "list", data := .seq ([] : List Value).toArray } := by rw [← h1e]; exact Heap.get?_push_size _ rfl
  have hk1 : ∀ b o, s.heap.get? b = some o → h1.get? b = some o := fun b o e => by rw [← h1e]; exact Heap.get?_push_of_some _ e
  have hD1 := hk1 _ _ hD
  have hlt := Heap.lt_size hD
  have hne : s.heap.objs.size ≠ D := (Nat.ne_of_lt hlt).symm
  show wpAny _ A.in1 (Builtin.List.listExtendWith (.ref s.heap.objs.size) (.ref D) (.ref s.heap.objs.size)) _ _ _
  have hT : Shared.TypeIs { s with heap := h1 } (.ref D) "set" := ⟨oD, hD1, hc⟩
  refine wpAny_bind (wpAny_typeOf hT ?_)
  have e1 : Builtin.List.listSameRef (.ref s.heap.objs.size) (.ref D) = false := by simp [Builtin.List.listSameRef, hne]
  refine wpAny_ite_false (by rw [e1]; rfl) ?_
  refine wpAny_bind (setIter (s := { s with heap := h1 }) hD1 hc hd hf W hz fun h2 d2 I ⟨fp, L, St, hL, hw, st, hfp, hI⟩ hIn hk2 => ?_)
  refine wpAny_bind (wpAny_holding ?_)
  have hT2 : Shared.TypeIs { s with heap := h2, drawn := d2 } (.ref D) "set" := ⟨oD, hk2 _ _ hD1, hc⟩
  refine hint_set hT2 ?_
  have hSf : s.heap.objs.size ∉ fp := fun hm => by
    rcases hfp _ hm with q | q
    · exact hne q
    · have q' : h1.get? s.heap.objs.size = none := q
      rw [hS1] at q'; cases q'
  refine wpAny_ite_true (by decide +kernel) ?_
  refine wpAny_bind (wpAny_rule ?_)
  have hS2 : h2.get? s.heap.objs.size = some { cls := .type "list", data := .seq ([] : List Value).toArray } := hk2 _ _ hS1
  refine wpAny_bind ?_
  show wpAny _ A.in1 (updateSeq s.heap.objs.size (·.push .none) >>= fun _ => updateSeq s.heap.objs.size (·.pop)) _ _ _
  refine wpAny_bind (wpAny_updateSeq hS2 rfl ?_)
  have hS3 := Heap.get?_update_self (Obj.mapSeq (·.push Value.none)) hS2 rfl
  refine wpAny_updateSeq hS3 rfl ?_
  have hS4 := Heap.get?_update_self (Obj.mapSeq (·.pop)) hS3 rfl
  have oth : ∀ b o, b ≠ s.heap.objs.size → h2.get? b = some o →
      ((h2.update s.heap.objs.size (Obj.mapSeq (·.push Value.none))).update s.heap.objs.size (Obj.mapSeq (·.pop))).get? b = some o :=
    fun b o hb e => (Heap.get?_update_other _ _ (Ne.symm hb)).trans ((Heap.get?_update_other _ _ (Ne.symm hb)).trans e)
  have hIs : s.heap.get? I = none := by
    cases e : s.heap.get? I with
    | none => rfl
    | some o => have z := hk1 _ _ e; have z' : h1.get? I = none := hIn; rw [z'] at z; cases z
  have hh1 : A.in1.handled = none := by simp [hh]
  refine wpAny_pure ⟨plainId_quiet F.plain_extend_loop _, codeAny_extend_loopS (hw A.in1 hh1).toS (by rw [sizeLine_eq]; omega) _ hSf _ es.size 0 _ _ _ rfl (Nat.zero_le _)
    ((hw A.in1 hh1).frame 0 h2 _ st fun b hb o e => oth b o (fun q => hSf (q ▸ hb)) e) hS4 (ItemsOf.nil _) fun s' acc' c' hm hS' hacc => ?_⟩
  show wpAny _ A (load s.heap.objs.size >>= _) _ _ s'
  refine wpAny_bind (wpAny_load hS' ?_)
  refine wpAny_pure ?_
  have hLl : L.length = es.size := by rw [hL.length_eq]; simp
  rw [items_list hLl hacc]
  refine hQ s' L hL (fun b o e => hm.heap b o (fun q => ?_) (oth b o (Nat.ne_of_lt (Heap.lt_size e)) (hk2 _ _ (hk1 _ _ e)))) hm.gens hm.os
  simp only [List.mem_cons, List.not_mem_nil, or_false] at q
  rcases q with q | q
  · exact absurd q (Nat.ne_of_lt (Heap.lt_size e))
  · rw [q, hIs] at e; cases e

theorem sortedHeap_at {h : Heap} {a : Addr} {xs : Array Value} {k : Nat} (ho : h.get? a = some (seqObj "list" xs k)) (us : List Value) (out : Array Value) :
    ∃ c, (sortedHeap h a us out).get? a = some (listOf out c) := by
  have ha := Heap.lt_size ho
  have e1 := get?_update_seq ho (fun _ => #[])
  have e2 : (((h.update a (Obj.mapSeq fun _ => #[])).push (seqObj "tuple" us.toArray 0)).push (seqObj "list" #[] 0)).get? a = _ := Heap.get?_push_of_some _ (Heap.get?_push_of_some _ e1)
  exact ⟨_, get?_update_seq e2 (fun _ => out)⟩
theorem sortedHeap_old {h : Heap} {a b : Addr} {us : List Value} {out : Array Value} {o : Obj} (hb : b < h.objs.size) (hne : b ≠ a) (e : h.get? b = some o) : (sortedHeap h a us out).get? b = some o := by
  unfold sortedHeap
  rw [Heap.get?_update_other _ _ (Ne.symm hne)]
  exact Heap.get?_push_of_some _ (Heap.get?_push_of_some _ ((Heap.get?_update_other _ _ (Ne.symm hne)).trans e))

theorem sortedSet {S : Int → Bool} {Q : Value → Shared → Prop} (hh : A.handled = none) (x : SetW prog w s.heap D S n (!byT w)) (h60 : n < 64)
    (h : ∀ (s' : Shared) (R : Addr) (c : Nat) (out : List Value) (ns' : List Int), (∀ b o, s.heap.get? b = some o → s'.heap.get? b = some o) → s'.gens = s.gens → s'.os = s.os → s.heap.get? R = none →
      s'.heap.get? R = some (listOf out.toArray c) → IntsAre out ns' → ns'.Pairwise (· ≤ ·) → ns'.length = n → (∀ k, S k = true ↔ k ∈ ns') → Q (.ref R) s') :
    wpAny (model prog w) A (call (.builtin "sorted") [.ref D]) Q E s := by
  obtain ⟨oD, es, ep, t, hD, hx, hd, hel, hm, hb, hf, hn, W⟩ := x
  refine Calls.call_function_entry kind_sorted plain_sorted entry_sorted (args_sorted1 _) ?_
  unfold Builtin.«sorted»
  refine wpAny_bind (m := checkCount "sorted" 1 1 _) (wpAny_pure ?_)
  refine wpAny_bind (collectSet (by simp [hh]) hD hx.1 hd hf W (by omega) fun s1 L hL hk hg ho => ?_)
  have hLl : L.length = n := by rw [hL.length_eq, Array.length_toList, hn]
  obtain ⟨ns, hI, hmem⟩ : ∃ ns, IntsAre (L.map (·.2)) ns ∧ ∀ k, k ∈ ns ↔ ∃ e ∈ L, (intKind prog w).is k e.2 = true := by
    have hel' : ElemsOf (intKind prog w) L := hel.perm hL
    clear hL hLl
    induction L with
    | nil => exact ⟨[], .nil, by simp⟩
    | cons e r ih =>
      obtain ⟨ns, h1, h2⟩ := ih hel'.tail
      obtain ⟨⟨k, hk, _⟩, _⟩ := hel'.head
      obtain ⟨tk, he⟩ : ∃ tk, e.2 = .int k tk := Value.isInt_shape hk
      refine ⟨k :: ns, ?_, fun k' => ?_⟩
      · rw [List.map_cons, he]; exact .cons k tk h1
      · rw [List.mem_cons, h2]
        constructor
        · rintro (rfl | ⟨e', he', q⟩)
          · exact ⟨e, .head _, hk⟩
          · exact ⟨e', .tail _ he', q⟩
        · rintro ⟨e', he', q⟩
          rcases List.mem_cons.mp he' with rfl | he'
          · exact .inl ((intKind prog w).inj _ _ _ q hk)
          · exact .inr ⟨e', he', q⟩
  refine wpAny_bind (wpAny_newList ?_)
  have hoL : (s1.heap.push (seqObj "list" (L.map (·.2)).toArray 0)).get? s1.heap.objs.size = some (seqObj "list" (L.map (·.2)).toArray 0) := Heap.get?_push_size _ rfl
  refine wpAny_bind (wpAny_holding (wpAny_call_entry (s := { s1 with heap := s1.heap.push (seqObj "list" (L.map (·.2)).toArray 0) }) slot_list_sort ⟨_, hoL, rfl⟩ entry_list_sort (list_sort_tree hoL hI (by rw [List.length_map, hLl]; exact h60) fun out ns' a1 a2 a3 => ⟨_, rfl, ?_⟩) (args_list_sort _)))
  refine wpAny_pure ⟨_, rfl, ?_⟩
  obtain ⟨c, hc⟩ := sortedHeap_at hoL (L.map (·.2)) out
  have hold : ∀ b o, s.heap.get? b = some o → (sortedHeap (s1.heap.push (seqObj "list" (L.map (·.2)).toArray 0)) s1.heap.objs.size (L.map (·.2)) out).get? b = some o := fun b o e => by
    have hlt := Heap.lt_size (hk _ _ e)
    have hb : b < (s1.heap.push (seqObj "list" (L.map (·.2)).toArray 0)).objs.size := by rw [Heap.size_push]; exact Nat.lt_succ_of_lt hlt
    have he : (s1.heap.push (seqObj "list" (L.map (·.2)).toArray 0)).get? b = some o := Heap.get?_push_of_some _ (hk _ _ e)
    exact sortedHeap_old hb (Nat.ne_of_lt hlt) he
  have hR : s.heap.get? s1.heap.objs.size = none := by
    cases e : s.heap.get? s1.heap.objs.size with
    | none => rfl
    | some o => exact absurd (Heap.lt_size (hk _ _ e)) (Nat.lt_irrefl _)
  have hm2 : ∀ k, S k = true ↔ k ∈ ns' := fun k => by
    rw [hm, a2.mem_iff, hmem]
    exact ⟨fun ⟨e, he, q⟩ => ⟨e, hL.mem_iff.mpr he, q⟩, fun ⟨e, he, q⟩ => ⟨e, hL.mem_iff.mp he, q⟩⟩
  have hl2 : ns'.length = n := by rw [a2.length_eq, ← hI.length, List.length_map, hLl]
  generalize sortedHeap (s1.heap.push (seqObj "list" (L.map (·.2)).toArray 0)) s1.heap.objs.size (L.map (·.2)) out = H at hc hold ⊢
  exact h _ _ c out.toList ns' hold hg ho hR (by rw [Array.toArray_toList]; exact hc) a1 a3 hl2 hm2
end

theorem nodup_in {D : List Int} (hd : D.Nodup) : ∀ {l : List Int}, (∀ x ∈ D, x ∈ l) → ∃ r, l.Perm (D ++ r) := by
  induction D with
  | nil => exact fun {l} _ => ⟨l, .refl _⟩
  | cons d D ih =>
    intro l h
    obtain ⟨hd1, hd2⟩ := List.nodup_cons.mp hd
    have p := List.perm_cons_erase (h d (.head _))
    obtain ⟨r, hr⟩ := ih hd2 (l := l.erase d) fun x hx => by
      have hne : x ≠ d := fun e => hd1 (e ▸ hx)
      exact (List.mem_erase_of_ne hne).mpr (h x (.tail _ hx))
    exact ⟨r, p.trans (hr.cons d)⟩
theorem nodup_perm {D l : List Int} (hd : D.Nodup) (h : ∀ x ∈ D, x ∈ l) (hl : l.length ≤ D.length) : l.Perm D := by
  obtain ⟨r, hr⟩ := nodup_in hd h
  have := hr.length_eq
  rw [List.length_append] at this
  have : r = [] := List.length_eq_zero_iff.mp (by omega)
  rw [this, List.append_nil] at hr
  exact hr
theorem nodup_le {D l : List Int} (hd : D.Nodup) (h : ∀ x ∈ D, x ∈ l) : D.length ≤ l.length := by
  obtain ⟨r, hr⟩ := nodup_in hd h
  rw [hr.length_eq, List.length_append]
  exact Nat.le_add_right _ _
theorem dedupI_mem : ∀ {l : List Int} {x : Int}, x ∈ dedupI l ↔ x ∈ l
  | [], x => by simp [dedupI]
  | a :: r, x => by
    simp only [dedupI]
    split
    · rename_i hc
      rw [dedupI_mem, List.mem_cons]
      constructor
      · exact .inr
      · rintro (rfl | h)
        · exact dedupI_mem.mp (by simpa using hc)
        · exact h
    · rw [List.mem_cons, List.mem_cons, dedupI_mem]
theorem dedupI_nodup : ∀ l : List Int, (dedupI l).Nodup
  | [] => .nil
  | a :: r => by
    simp only [dedupI]
    split
    · exact dedupI_nodup r
    · rename_i hc
      exact List.nodup_cons.mpr ⟨by simpa using hc, dedupI_nodup r⟩
theorem firstMet_nodup (val : Nat → Int) : ∀ i, (firstMet val i).Nodup
  | 0 => by rw [firstMet_zero]; exact .nil
  | i + 1 => by
    rw [firstMet_succ]
    unfold step_dedup
    split
    · exact firstMet_nodup val i
    · rename_i hc
      refine List.nodup_append.mpr ⟨firstMet_nodup val i, List.nodup_cons.mpr ⟨by simp, .nil⟩, fun a ha b hb => ?_⟩
      rw [List.mem_singleton] at hb
      subst hb
      intro e
      exact hc (List.any_eq_true.mpr ⟨a, ha, by simp [e]⟩)
theorem range_map_get (ns : List Int) : (List.range ns.length).map (fun i => ns.getD i 0) = ns := by
  refine List.ext_getElem (by simp) fun i h1 h2 => ?_
  simp [List.getD_eq_getElem?_getD, h2]
theorem firstMet_mem (ns : List Int) (k : Int) : k ∈ firstMet (fun i => ns.getD i 0) ns.length ↔ k ∈ ns := by
  have e := firstMet_any (fun i => ns.getD i 0) ns.length k
  rw [range_map_get] at e
  have z : ∀ l : List Int, l.any (· == k) = true ↔ k ∈ l := fun l => by
    rw [List.any_eq_true]
    exact ⟨fun ⟨x, hx, q⟩ => by simp at q; exact q ▸ hx, fun h => ⟨k, h, by simp⟩⟩
  rw [← z, ← z, e]
theorem sorted_dedup {ns ns' : List Int} (hs : ns'.Pairwise (· ≤ ·)) (hl : ns'.length = (firstMet (fun i => ns.getD i 0) ns.length).length) (hm : ∀ k, k ∈ ns ↔ k ∈ ns') : ns' = sortI (dedupI ns) := by
  have h1 : (firstMet (fun i => ns.getD i 0) ns.length).length ≤ (dedupI ns).length := nodup_le (firstMet_nodup _ _) fun x hx => dedupI_mem.mpr ((firstMet_mem ns x).mp hx)
  have p : ns'.Perm (dedupI ns) := nodup_perm (dedupI_nodup ns) (fun x hx => (hm x).mp (dedupI_mem.mp hx)) (by omega)
  exact sorted_eq (p.trans (sortI_perm _).symm) hs (sortI_sorted _)

set_option tactic.hygienic true in
theorem sortset_go {Γ : Gl} {n : Nat} {A : Around} {F : List Addr} {μ : Mu} {s : Shared} {v : Value} {l : List PV} {ns : List Int} {Q : PV → Mu → Prop} (hA : Room n A) (G : GS Γ F μ s) (hv : VR (im F μ s.heap) v (.lst l)) (hn : intsP l = some ns) (hl : l.length ≤ 60)
    (h : newL ((sortI (dedupI ns)).map PV.int) μ Q) : wpAny (model Γ.prog Γ.w) A (call (.type "set") [v]) (fun sv s₁ => wpAny (model Γ.prog Γ.w) A (call (.builtin "sorted") [sv]) (Post Γ F s μ Q) (fun _ _ => False) s₁) (fun _ _ => False) s := by
  obtain ⟨hh, _, _⟩ := hA
  cases hv with
  | lst q r =>
    rename_i a vs m
    have hi := ints_are r hn
    have hvl : vs.length = ns.length := hi.length
    have hll := intsP_len hn
    refine setOfList (items := vs.toArray) (ns := ns) hh (IsL.isList q.1) (by simpa using hi) (by rw [List.size_toArray]; unfold scanBound; omega) fun h' tk x hk => ?_
    have hvs : vs.toArray.size = ns.length := by rw [List.size_toArray]; exact hvl
    rw [hvs] at x
    have hfl := firstMet_length_le (fun i => ns.getD i 0) ns.length
    refine sortedSet (s := { s with heap := h', toks := tk }) hh x (by omega) fun s' R c out ns' hk' hg ho hR hR' hI hs hlen hmem => ?_
    have z : ∀ l : List Int, ∀ k, l.any (· == k) = true ↔ k ∈ l := fun l k => by
      rw [List.any_eq_true]
      exact ⟨fun ⟨x, hx, q⟩ => by simp at q; exact q ▸ hx, fun h => ⟨k, h, by simp⟩⟩
    have e := sorted_dedup hs hlen fun k => by rw [← hmem, z, firstMet_mem]
    subst e
    have hk2 : ∀ b o, s.heap.get? b = some o → s'.heap.get? b = some o := fun b o e => hk' b o (hk b o e)
    have hRn : s.heap.get? R = none := by
      cases e : s.heap.get? R with
      | none => rfl
      | some o => have z := hk _ _ e; have z' : h'.get? R = none := hR; rw [z'] at z; cases z
    have z := Post.growL (s := { s with gens := s.gens }) (h' := s'.heap) (tk := s'.toks) G hk2 hRn hR' h (ints_back hI)
    obtain ⟨p, μ', q1, q2, q3, q4⟩ := z
    exact ⟨p, μ', q1, ⟨q2.keep, q2.off, q2.live, q2.mo, hg.trans G.gens, ho.trans G.os⟩, ⟨q3.keep, q3.held, q3.fresh, q3.live⟩, q4⟩
end Mine

open PySem PySem.Calls PyProof.Rows PySem.W
set_option maxRecDepth 100000
set_option linter.unusedVariables false
set_option linter.unusedSectionVars false
set_option backward.match.sparseCases false
namespace Mine

section
variable {Γ : Gl} {n : Nat} {S : Sc} {Φ : Fm} {ρ : Rho} {μ : Mu} {A : Around} {s : Shared}

theorem beq_str {x y : Str} (h : (x == y) = true) : x = y := beq_iff_eq.mp h

theorem isGv_eq {f : Value} {x : Str} (h : isGv f x = true) : ∃ a, f = .ref a ∧ gvL.lookup x = some a := by
  cases f <;> first | exact ff h | exact ⟨_, rfl, beq_iff_eq.mp h⟩
theorem se_call (gt : GTab Γ) {f : Value} {es : List ME} (h1 : SEs Γ n es) : SE Γ n (.call f es) := by
  refine se_dflt (fun ρ μ Q => rfl) fun S e Φ ρ μ hk hS ok => ?_
  replace hk := anyE hk
  obtain ⟨y, hc, hk⟩ := hk
  obtain ⟨x, es'⟩ := y
  obtain ⟨np, pos, rfl⟩ := vNC_eq hc
  simp only [Bool.and_eq_true] at hk
  obtain ⟨⟨⟨k1, k2⟩, k3⟩, k4⟩ := hk
  obtain ⟨g1, g2⟩ := glob_of k1 hS
  obtain ⟨a, rfl, k5⟩ := isGv_eq k2
  obtain ⟨t1, t2⟩ := gt.fn _ _ k5
  exact ⟨fun _ _ => rfl, fun Q hv => te_call ok g1 g2 t1 k3 t2 (h1.args k3 k4 hS ok hv fun _ _ h => h)⟩
theorem se_bi (gt : GTab Γ) {b : BI} {es : List ME} (h1 : SEs Γ n es) : SE Γ n (.bi b es) := by
  refine se_dflt (fun ρ μ Q => rfl) fun S e Φ ρ μ hk hS ok => ?_
  replace hk := anyE hk
  obtain ⟨y, hc, hk⟩ := hk
  obtain ⟨x, es'⟩ := y
  obtain ⟨np, pos, rfl⟩ := vNC_eq hc
  simp only [Bool.and_eq_true] at hk
  obtain ⟨⟨⟨k1, k2⟩, k3⟩, k4⟩ := hk
  obtain ⟨g1, g2⟩ := glob_of k1 hS
  exact ⟨fun _ _ => rfl, fun Q hv => te_bi ok g1 g2 (beq_str k2 ▸ gt.bi b) k3 (h1.args k3 k4 hS ok hv fun _ _ h => h)⟩
theorem se_sortset (gt : GTab Γ) {a : ME} (h1 : SE Γ n a) : SE Γ n (.sortset a) := by
  refine se_dflt (fun ρ μ Q => rfl) fun S e Φ ρ μ hk hS ok => ?_
  replace hk := anyE hk
  obtain ⟨⟨x, c⟩, hc, hk⟩ := hk
  obtain ⟨np, pos, rfl⟩ := call1_eq hc
  replace hk := anyE hk
  obtain ⟨⟨y, u⟩, hc', hk⟩ := hk
  obtain ⟨np', pos', e1⟩ := call1_eq hc'
  replace e1 : c = .Call (.Name y np') [u] [] pos' := e1
  subst e1
  refine ⟨fun _ _ => rfl, fun Q hv => ?_⟩
  simp only [Bool.and_eq_true] at hk
  rw [ve_sortset] at hv
  obtain ⟨⟨⟨⟨⟨k1, k2⟩, k3⟩, k4⟩, k5⟩, k6⟩ := hk
  obtain ⟨g1, g2⟩ := glob_of k1 hS
  obtain ⟨g3, g4⟩ := glob_of k3 hS
  have e := beq_str k2
  subst e
  have e := beq_str k4
  subst e
  intro A s hA G R
  refine wpAny_Call_ofName (name_global ok g1 g2 (gt.bi .sorted) G ?_)
  refine callWith_of (P := fun _ => True) rfl (fun h' _ => ⟨.machine, .inr (.inl rfl), Looks.of_pure rfl⟩) (evalArgs_plain (spliced_cons ?_))
  refine wpAny_Call_ofName (name_global ok g3 g4 gt.set G ?_)
  rw [star_plain k5]
  refine callWith_of (P := fun _ => True) rfl (fun h' _ => ⟨.machine, .inr (.inl rfl), Looks.of_pure rfl⟩) (evalArgs_plain (spliced_cons ?_))
  refine TE.wp (h1.e k6 hS ok hv fun _ _ h => h) hA G R ok fun v s₁ p μ₁ h₁ G₁ x R₁ hv => spliced_nil ⟨trivial, ?_⟩
  cases p <;> first | exact h₁.elim | skip
  obtain ⟨ns, e1, e2, e3⟩ := h₁
  exact wpAny_mono (sortset_go hA G₁ hv e1 e2 e3) (fun sv s₂ P => spliced_nil ⟨trivial, wpAny_mono P (fun _ _ P => P.trans x) fun _ _ e => e⟩) fun _ _ e => e
theorem se_append {o e : ME} (h1 : SE Γ n o) (h2 : SE Γ n e) : SE Γ n (.append o e) := by
  refine se_dflt (fun ρ μ Q => rfl) fun S c Φ ρ μ hk hS ok => ?_
  replace hk := anyE hk
  obtain ⟨⟨o', x, apos, as, pos⟩, hc, hk⟩ := hk
  replace hk := anyE hk
  obtain ⟨a1, ha, hk⟩ := hk
  replace ha : as = [a1] := one1_eq ha
  subst ha
  cases vMC_eq hc
  simp only [Bool.and_eq_true] at hk
  obtain ⟨⟨⟨⟨⟨k1, k2⟩, k3⟩, k4⟩, k5⟩, k6⟩ := hk
  have e := beq_str k1
  subst e
  exact ⟨fun _ _ => rfl, fun Q hv => te_append ok k2 k3 k4 (h1.e k5 hS ok hv fun p μ₁ h => ⟨h.1, h2.e k6 hS ok h.2 fun _ _ h => h⟩)⟩
theorem se_pop {o : ME} (h1 : SE Γ n o) : SE Γ n (.pop o) := by
  refine se_dflt (fun ρ μ Q => rfl) fun S c Φ ρ μ hk hS ok => ?_
  replace hk := anyE hk
  obtain ⟨⟨o', x, apos, as, pos⟩, hc, hk⟩ := hk
  simp only [Bool.and_eq_true] at hk
  obtain ⟨k0, ⟨⟨k1, k2⟩, k3⟩, k4⟩ := hk
  replace k0 : as = [] := List.isEmpty_iff.mp k0
  subst k0
  cases vMC_eq hc
  have e := beq_str k1
  subst e
  exact ⟨fun _ _ => rfl, fun Q hv => te_pop ok k2 k3 (h1.e k4 hS ok hv fun p μ₁ h => h)⟩
set_option tactic.hygienic true in
theorem se_meth {o : ME} {k : Nat} {es : List ME} (h1 : SE Γ n o) (h2 : SEs Γ n es) : SE Γ n (.meth o k es) := by
  refine se_dflt (fun ρ μ Q => rfl) fun S c Φ ρ μ hk hS ok => ?_
  replace hk := anyE hk
  obtain ⟨y, hc, hk⟩ := hk
  obtain ⟨o', x, apos, as, pos⟩ := y
  cases vMC_eq hc
  simp only [Bool.and_eq_true] at hk
  refine ⟨fun _ _ => rfl, fun Q hv => ?_⟩
  rw [ve_meth] at hv
  obtain ⟨⟨⟨⟨⟨⟨k1, k2⟩, k3⟩, k4⟩, k5⟩, k6⟩, k7⟩ := hk
  have e := beq_iff_eq.mp k1
  have e2 : methNames.getD k "" = x := by rw [List.getD_eq_getElem?_getD, e]; rfl
  refine te_meth (m := es.length) ok e k2 k3 k4 k5 (h1.e k6 hS ok hv fun p μ₁ h => ?_)
  obtain ⟨C, d, sl, f, as, hp, hf, hm, h0, h⟩ := h
  exact ⟨C, d, sl, f, as, hp, hf, hm, e2 ▸ h0, h2.args k3 k7 hS ok h fun _ _ h => h⟩


theorem te_sdict2 {a b : ME} {a' b' : Expr} {k1 k2 : Str} {c1 c2 : Nat} {p1 p2 pos : Pos} {Q : PV → Mu → Prop} (ok : FmOk Γ Φ) (hS : ScFm S Φ) (h1 : SE Γ n a) (h2 : SE Γ n b) (ka : okE S a a' = true) (kb : okE S b b' = true) (hne : k1 ≠ k2)
    (hv : vcE Γ n a ρ μ fun p μ₁ => vcE Γ n b ρ μ₁ fun q μ₂ => ∀ d, μ₂ d = none → Q (.ref d) (μ₂.set d (.sdict [(k1, p), (k2, q)]))) :
    TE Γ n Φ ρ μ (eval (.Dict [some (.Constant (.str k1) c1 p1), some (.Constant (.str k2) c2 p2)] [a', b'] pos) Φ.env) Q := fun A s hA G R => by
  generalize hD : s.heap.objs.size = D
  have hDn : s.heap.get? D = none := by rw [← hD]; exact none_size _
  have he : ∀ b o', s.heap.get? b = some o' → (s.heap.push { cls := .type "dict", data := .dict #[] }).get? b = some o' := fun b o' e => Heap.get?_push_of_some _ e
  have hDo : (s.heap.push { cls := .type "dict", data := .dict #[] }).get? D = some { cls := .type "dict", data := .dict #[] } := by rw [← hD]; exact Heap.get?_push_size _ rfl
  have hDF : D ∉ Φ.F := loc_ne G ok hDn
  have ok₂ : FmOk Γ { Φ with F := D :: Φ.F } := ok.inF fun a ha => List.mem_cons_of_mem _ ha
  have hS₂ : ScFm S { Φ with F := D :: Φ.F } := ⟨hS.names, hS.st, hS.tab⟩
  have hDW : D ∉ Φ.W := fun z => hDF (ok.sub D z)
  refine wpAny_Dict_walk (knd := strKind Γ.prog Γ.w) rfl rfl (by simp) (by simp) ?_
  rw [hD]
  have G₁ : GS Γ (D :: Φ.F) μ { s with heap := s.heap.push { cls := .type "dict", data := .dict #[] }, toks := s.toks } := G.more hDn he hDo
  have x₁ : Step [] s μ { s with heap := s.heap.push { cls := .type "dict", data := .dict #[] }, toks := s.toks } μ := Step.of_ext he
  have R₁ : FR { Φ with F := D :: Φ.F } ρ μ { s with heap := s.heap.push { cls := .type "dict", data := .dict #[] }, toks := s.toks } := R.in_ x₁ ok G fun b hb hn => by
    rcases List.mem_cons.mp hb with rfl | hb
    · exact hDn
    · exact absurd hb hn
  have tokG : ∀ {μ' : Mu} {s' : Shared} {F : List Addr}, GS Γ F μ' s' → GS Γ F μ' { s' with toks := s'.toks + 1 } := fun G => G.of_ext fun _ _ e => e
  have tokS : ∀ {μ' : Mu} {s' : Shared}, Step [] s' μ' { s' with toks := s'.toks + 1 } μ' := Step.of_ext fun _ _ e => e
  show wpAny _ _ (evalPairs [(eval (.Constant (.str k1) c1 p1) Φ.env, do let x ← eval a' Φ.env; standAt pos; pure x), (eval (.Constant (.str k2) c2 p2) Φ.env, do let x ← eval b' Φ.env; standAt pos; pure x)]) _ _ _
  refine evalPairs_cons (wpAny_Constant_str (wpAny_bind (TE.wp (h1.e ka hS₂ ok₂ hv fun _ _ h => h) hA (tokG G₁) (R₁.step ok₂ G₁ tokS) ok₂ fun v s₂ p μ₂ h₂ G₂ x₂ R₂ hv₂ => wpAny_bind (wpAny_standAt (wpAny_pure ?_)))))
  refine evalPairs_cons (wpAny_Constant_str (wpAny_bind (TE.wp (h2.e kb hS₂ ok₂ h₂ fun _ _ h => h) hA (tokG G₂) (R₂.step ok₂ G₂ tokS) ok₂ fun u s₃ q μ₃ h₃ G₃ x₃ R₃ hu => wpAny_bind (wpAny_standAt (wpAny_pure (evalPairs_nil ?_))))))
  have y : Step [] { s with heap := s.heap.push { cls := .type "dict", data := .dict #[] }, toks := s.toks } μ s₃ μ₃ := ((tokS.trans x₂).trans tokS).trans x₃
  have hDm := (G₃.live D List.mem_cons_self).2
  have hD₃ : s₃.heap.get? D = some { cls := .type "dict", data := .dict #[] } := y.keep D _ hDo (by rw [(G₁.live D List.mem_cons_self).2]; rfl) (by simp)
  refine ⟨[(k1, v), (k2, u)], ⟨strKind_is _ _ _ _, rfl, strKind_is _ _ _ _, rfl, trivial⟩, ?_, fun h' hd hs => ?_⟩
  · exact ⟨_, #[], 0, hD₃, ⟨rfl, rfl, rfl⟩, rfl, fun _ he => by simp at he, Pairs.nil, List.nodup_nil⟩
  · have em : merged [] [(k1, v), (k2, u)] = [(k1, v), (k2, u)] := by
      simp [merged, stored, hne]
    rw [em] at hd
    have hi : ∀ a o, im (D :: Φ.F) μ₃ s₃.heap a o → im Φ.F (μ₃.set D (.sdict [(k1, p), (k2, q)])) h' a o := fun a o z => by
      have hne' : a ≠ D := fun e => z.2.2 (e ▸ List.mem_cons_self)
      exact ⟨(hs.2 a hne').trans z.1, by rw [Mu.set_ne hne']; exact z.2.1, fun w => z.2.2 (List.mem_cons_of_mem _ w)⟩
    have hv₃ := hv₂.mono (tokS.trans x₃).toIm0
    refine ⟨.ref D, _, h₃ D hDm, ?_, ?_, .ref D⟩
    · refine ⟨fun b o e => ?_, fun b o e => ?_, fun b hb => ?_, fun b m e => ?_, G₃.gens, G₃.os⟩
      · exact (hs.2 b fun z => (G₃.off b o e).2 (z ▸ List.mem_cons_self)).trans (G₃.keep b o e)
      · have z := (G₃.off b o e).2
        exact ⟨by rw [Mu.set_ne (show b ≠ D from fun e => z (by rw [e]; exact List.mem_cons_self))]; exact (G₃.off b o e).1, fun w => z (List.mem_cons_of_mem _ w)⟩
      · have hbD : b ≠ D := fun e => hDF (e ▸ hb)
        obtain ⟨⟨o, e⟩, r⟩ := G₃.live b (List.mem_cons_of_mem _ hb)
        exact ⟨⟨o, (hs.2 b hbD).trans e⟩, by rw [Mu.set_ne hbD]; exact r⟩
      · by_cases z : b = D
        · subst z; rw [Mu.set_self] at e; cases e
          exact ⟨_, hd, .cons (hv₃.mono hi) (.cons (hu.mono hi) .nil)⟩
        · rw [Mu.set_ne z] at e
          exact (G₃.mo b m e).mono hi fun o q => (hs.2 b z).trans q
    · have z := (x₁.trans y).adopt (D := D) (m := .sdict [(k1, p), (k2, q)]) hDn hDm
      refine ⟨fun a o e hm hw => ?_, z.held, z.fresh, fun a o e => ?_⟩
      · have hne' : a ≠ D := fun e' => by rw [e', hDn] at e; cases e
        exact (hs.2 a hne').trans (z.keep a o e hm hw)
      · have hne' : a ≠ D := fun e' => by rw [e', hDn] at e; cases e
        obtain ⟨o', e'⟩ := z.live a o e
        exact ⟨o', (hs.2 a hne').trans e'⟩
set_option tactic.hygienic true in
theorem se_sdict2 {a b : ME} {k1 k2 : Str} (h1 : SE Γ n a) (h2 : SE Γ n b) : SE Γ n (.sdict2 k1 a k2 b) := by
  refine se_dflt (fun ρ μ Q => rfl) fun S e Φ ρ μ hk hS ok => ?_
  cases e <;> first | exact ff hk | skip
  rename_i ks es pos
  rcases es with _ | ⟨a', _ | ⟨b', _ | ⟨_, _⟩⟩⟩ <;> first | exact ff hk | skip
  refine ⟨fun _ _ => rfl, fun Q hv => ?_⟩
  simp only [ok_sdict2, Bool.and_eq_true, Bool.not_eq_true', beq_eq_false_iff_ne, beq_iff_eq] at hk
  rw [ve_sdict2] at hv
  obtain ⟨⟨⟨k, k0⟩, k3⟩, k4⟩ := hk
  obtain ⟨c1, p1, c2, p2, rfl⟩ := keys2_eq k
  exact te_sdict2 ok hS h1 h2 k3 k4 k0 hv

theorem foldedSet_id {e : Expr} (h : notSet e = true) (env : Env) (x : Value) : foldedSetIterable e env x = pure x := by
  cases e <;> first | rfl | exact ff h
theorem si_seq {a : ME} (h1 : SE Γ n a) : SI Γ n (.seq a) := by
  intro S t e Φ ρ μ hk hS ok Q hv
  have hk : (notSet e && okE S a e) = true := hk
  rw [Bool.and_eq_true] at hk
  rw [vi_seq] at hv
  exact ti_seq ok (h1.e hk.2 hS ok hv fun p μ₁ h => h)
theorem tl1 {a : ME} {e : Expr} (h1 : SE Γ n a) (hp : plainArgs [e] = true) (hk : okE S a e = true) (hS : ScFm S Φ) (ok : FmOk Γ Φ) {pos : Pos} {Q : PV → Mu → Prop} {Q' : List PV → Mu → Prop} (hv : vcE Γ n a ρ μ Q) (hq : ∀ p μ', Q p μ' → Q' [p] μ') :
    TL Γ n Φ ρ μ 1 (spliced (backTo pos (starEach [e] Φ.env))) Q' := by
  rw [star_plain hp]
  exact tl_cons ok (h1.e hk hS ok hv fun p μ₁ h => tl_nil ok (hq _ _ h))
theorem tl2 {a b : ME} {e e' : Expr} (h1 : SE Γ n a) (h2 : SE Γ n b) (hp : plainArgs [e, e'] = true) (hk : okE S a e = true) (hk' : okE S b e' = true) (hS : ScFm S Φ) (ok : FmOk Γ Φ) {pos : Pos} {Q : PV → PV → Mu → Prop} {Q' : List PV → Mu → Prop}
    (hv : vcE Γ n a ρ μ fun p μ₁ => vcE Γ n b ρ μ₁ fun q μ₂ => Q p q μ₂) (hq : ∀ p q μ', Q p q μ' → Q' [p, q] μ') : TL Γ n Φ ρ μ 2 (spliced (backTo pos (starEach [e, e'] Φ.env))) Q' := by
  rw [star_plain hp]
  exact tl_cons ok (h1.e hk hS ok hv fun p μ₁ h => tl_cons ok (h2.e hk' hS ok h fun q μ₂ h => tl_nil ok (hq _ _ _ h)))
theorem si_range1 (gt : GTab Γ) {a : ME} (h1 : SE Γ n a) : SI Γ n (.range1 a) := by
  intro S t e Φ ρ μ hk hS ok Q hv
  replace hk := anyE hk
  obtain ⟨⟨x, e'⟩, hc, hk⟩ := hk
  obtain ⟨np, pos, rfl⟩ := call1_eq hc
  simp only [Bool.and_eq_true] at hk
  rw [vi_range1] at hv
  obtain ⟨⟨⟨k1, k2⟩, k3⟩, k4⟩ := hk
  obtain ⟨g1, g2⟩ := glob_of k1 hS
  have e := beq_str k2
  subst e
  refine ti_range1 ok g1 g2 gt.range k3 (tl1 h1 k3 k4 hS ok hv fun p μ' h => ?_)
  exact h
theorem si_range2 (gt : GTab Γ) {a b : ME} (h1 : SE Γ n a) (h2 : SE Γ n b) : SI Γ n (.range2 a b) := by
  intro S t e Φ ρ μ hk hS ok Q hv
  replace hk := anyE hk
  obtain ⟨⟨x, e', e''⟩, hc, hk⟩ := hk
  obtain ⟨np, pos, rfl⟩ := call2_eq hc
  simp only [Bool.and_eq_true] at hk
  rw [vi_range2] at hv
  obtain ⟨⟨⟨⟨k1, k2⟩, k3⟩, k4⟩, k5⟩ := hk
  obtain ⟨g1, g2⟩ := glob_of k1 hS
  have e := beq_str k2
  subst e
  refine ti_range2 ok g1 g2 gt.range k3 (tl2 h1 h2 k3 k4 k5 hS ok hv fun p q μ' h => ?_)
  exact h
theorem si_zip (gt : GTab Γ) {a b : ME} (h1 : SE Γ n a) (h2 : SE Γ n b) : SI Γ n (.zip a b) := by
  intro S t e Φ ρ μ hk hS ok Q hv
  rw [ok_zip, Bool.and_eq_true] at hk
  obtain ⟨ht, hk⟩ := hk
  obtain ⟨_, _, _, rfl⟩ := isTup_eq ht
  replace hk := anyE hk
  obtain ⟨⟨x, e', e''⟩, hc, hk⟩ := hk
  obtain ⟨np, pos, rfl⟩ := call2_eq hc
  simp only [Bool.and_eq_true] at hk
  rw [vi_zip] at hv
  obtain ⟨⟨⟨⟨k1, k2⟩, k3⟩, k4⟩, k5⟩ := hk
  obtain ⟨g1, g2⟩ := glob_of k1 hS
  have e := beq_str k2
  subst e
  refine ti_zip ok g1 g2 gt.zip k3 (tl2 h1 h2 k3 k4 k5 hS ok hv fun p q μ' h => ?_)
  exact h
theorem si_enum (gt : GTab Γ) {a : ME} (h1 : SE Γ n a) : SI Γ n (.enum a) := by
  intro S t e Φ ρ μ hk hS ok Q hv
  rw [ok_enum, Bool.and_eq_true] at hk
  obtain ⟨ht, hk⟩ := hk
  obtain ⟨_, _, _, rfl⟩ := isTup_eq ht
  replace hk := anyE hk
  obtain ⟨⟨x, e'⟩, hc, hk⟩ := hk
  obtain ⟨np, pos, rfl⟩ := call1_eq hc
  simp only [Bool.and_eq_true] at hk
  rw [vi_enum] at hv
  obtain ⟨⟨⟨k1, k2⟩, k3⟩, k4⟩ := hk
  obtain ⟨g1, g2⟩ := glob_of k1 hS
  have e := beq_str k2
  subst e
  refine ti_enum ok g1 g2 gt.enum k3 (tl1 h1 k3 k4 hS ok hv fun p μ' h => ?_)
  exact h

theorem initOf_at (S names : Sc) : ∀ (i j : Nat) (x : Str), (initOf S names)[i]? = some (some j) → (names.map (·.1))[i]? = some x → (x, .free) ∈ names ∧ S[j]?.map (·.1) = some x := fun i j x h hx => by
  unfold initOf at h
  rw [List.getElem?_map] at h hx
  cases q : names[i]? with
  | none => rw [q] at hx; cases hx
  | some p =>
    rw [q] at h hx
    cases hx
    simp only [Option.map_some, Option.some.injEq] at h
    split at h
    · rename_i hk
      have hk' := beq_iff_eq.mp hk
      refine ⟨by have := List.mem_of_getElem? q; rw [← hk']; exact this, ?_⟩
      obtain ⟨hl, hp, _⟩ := List.findIdx?_eq_some_iff_getElem.mp h
      rw [List.getElem?_eq_getElem hl]
      simpa using hp
    · cases h
theorem compOk_of {sc : Scope} (h : okScope S sc = true) (hS : ScFm S Φ) : CompOk Φ sc (initOf S sc.names) := by
  unfold okScope at h
  simp only [Bool.and_eq_true, beq_iff_eq, decide_eq_true_eq] at h
  obtain ⟨⟨h1, h2⟩, h3⟩ := h
  refine ⟨h1, h2, fun x hx => ?_, by simp [initOf], fun i j x a b => ?_⟩
  · have z := List.all_eq_true.mp h3 _ hx
    simp only [Bool.or_eq_true, bne_iff_ne, ne_eq, not_true_eq_false, beq_iff_eq, false_or] at z
    rcases z with z | z
    · rcases hS.tab.read _ _ (mem_of_lookup z) with w | ⟨w, _⟩
      · exact .inl w
      · cases w
    · rcases hS.tab.read _ _ (mem_of_lookup z) with w | ⟨_, w⟩
      · exact .inr w
      · exact .inl w
  · obtain ⟨c, d⟩ := initOf_at S sc.names i j x a b
    exact ⟨c, by rw [hS.names, List.getElem?_map]; exact d⟩
theorem scFm_comp {sc : Scope} {Φc : Fm} (h : (sc.names.map (·.1)).Nodup) (c : CompFm Φ Φc sc) : ScFm sc.names Φc := ⟨c.names, c.st, relabel_tab h c.scope⟩
mutual
theorem bindT_mono {K K' : Rho → Prop} (hk : ∀ ρ, K ρ → K' ρ) : ∀ (tg : TG) (p : PV) (ρ : Rho), bindT tg p ρ K → bindT tg p ρ K'
  | .one i, p, ρ, h => hk _ h
  | .many ts, p, ρ, h => by
    cases p <;> first | exact False.elim h | skip
    have h : _ ∧ bindTs ts _ ρ K := h
    exact ⟨h.1, bindTs_mono hk ts _ ρ h.2⟩
theorem bindTs_mono {K K' : Rho → Prop} (hk : ∀ ρ, K ρ → K' ρ) : ∀ (ts : List TG) (ps : List PV) (ρ : Rho), bindTs ts ps ρ K → bindTs ts ps ρ K'
  | [], [], ρ, h => hk _ h
  | [], _ :: _, ρ, h => False.elim h
  | _ :: _, [], ρ, h => False.elim h
  | t :: ts, p :: ps, ρ, h => bindT_mono (fun ρ' h => bindTs_mono hk ts ps ρ' h) t p ρ h
end
theorem comp_vc {elt : ME} {tg : TG} {ifs : List ME} {elt' : Expr} {ifs' : List Expr} {sc : Scope} {items : List PV} {Q : PV → Mu → Prop} (h1 : SE Γ n elt) (h2 : SEs Γ n ifs) (nd : (sc.names.map (·.1)).Nodup) (ke : okE sc.names elt elt' = true) (ki : okEs sc.names ifs ifs' = true) {init : List (Option Nat)}
    (h : items.length ≤ big ∧ ∃ J : Nat → List PV → Mu → Prop, J 0 [] μ ∧
      (∀ i x acc μ', nth items i = some x → J i acc μ' → bindT tg x (initR init ρ) fun ρ' => vcIfs Γ n ifs ρ' μ' fun c μ₂ =>
        if c then vcE Γ n elt ρ' μ₂ fun v μ₃ => J (i + 1) (acc ++ [v]) μ₃ else J (i + 1) acc μ₂) ∧
      (∀ acc μ', J items.length acc μ' → newL acc μ' Q)) : CompVC Γ n Φ ρ sc init tg ifs' elt' Q items μ := by
  obtain ⟨a, J, b, c, d⟩ := h
  refine ⟨a, J, b, fun i x acc μ' hx hJ => bindT_mono (fun ρ' hv Φc ok fm => ?_) _ _ _ (c i x acc μ' hx hJ), d⟩
  have hS := scFm_comp nd fm
  refine TF.mono ((h2 _ _ Φc ρ' μ' ki hS ok).2.1 _ hv) fun c μ₂ hc => ?_
  cases c with
  | false => exact hc
  | true => exact h1.e ke hS ok hc fun _ _ h => h
theorem okScope_nd {sc : Scope} (h : okScope S sc = true) : (sc.names.map (·.1)).Nodup := by
  unfold okScope at h
  simp only [Bool.and_eq_true, beq_iff_eq, decide_eq_true_eq] at h
  exact h.1.2
theorem iter_notSet {it : IT} {t e : Expr} (h : okI S it t e = true) : notSet e = true := by
  cases e <;> first | rfl | skip
  cases it <;> first | exact ff h | exact ff (Bool.and_eq_true_iff.mp h).2
set_option tactic.hygienic true in
theorem comp_parts {elt : ME} {tg : TG} {it : IT} {ifs : List ME} {init : List (Option Nat)} {e : Expr} (h : okE S (.comp elt tg it ifs init) e = true) : ∃ elt' target iter ifs' sc pos, e = .ListComp elt' [⟨target, iter, ifs', 0⟩] sc pos ∧ okScope S sc = true ∧ init = initOf S sc.names ∧
    okTG sc.names tg target = true ∧ okI S it target iter = true ∧ okEs sc.names ifs ifs' = true ∧ okE sc.names elt elt' = true := by
  cases e <;> first | exact ff h | skip
  rename_i elt' gens sc pos
  rcases gens with _ | ⟨⟨target, iter, ifs', as⟩, _ | ⟨_, _⟩⟩ <;> first | exact ff h | skip
  simp only [ok_comp, Bool.and_eq_true, beq_iff_eq, decide_eq_true_eq] at h
  obtain ⟨⟨⟨⟨⟨⟨z, a⟩, b⟩, c⟩, d⟩, e⟩, f⟩ := h
  subst z
  exact ⟨_, _, _, _, _, _, rfl, a, b, c, d, e, f⟩
theorem se_comp {elt : ME} {tg : TG} {it : IT} {ifs : List ME} {init : List (Option Nat)} (h1 : SE Γ n elt) (h2 : SI Γ n it) (h3 : SEs Γ n ifs) : SE Γ n (.comp elt tg it ifs init) := by
  refine se_dflt (fun ρ μ Q => rfl) fun S e Φ ρ μ hk hS ok => ?_
  obtain ⟨elt', target, iter, ifs', sc, pos, rfl, a, b, c, d, e, f⟩ := comp_parts hk
  refine ⟨fun _ _ => rfl, fun Q hv => ?_⟩
  rw [ve_comp] at hv
  subst b
  have nd := okScope_nd a
  exact te_comp ok (compOk_of a hS) (fun x => foldedSet_id (iter_notSet d) _ x) (fun Φc fm => tg_of (scFm_comp nd fm) _ _ c) (TI.mono (h2 S target iter Φ ρ μ d hS ok _ hv) fun items μ₁ h => comp_vc h1 h3 nd f e h)
end
end Mine

open PySem PySem.Calls PyProof.Rows PySem.W
set_option maxRecDepth 100000
set_option linter.unusedVariables false
set_option linter.unusedSectionVars false
set_option backward.match.sparseCases false
namespace Mine

section
variable {Γ : Gl} {n : Nat} {S : Sc} {Φ : Fm} {ρ : Rho} {μ : Mu} {A : Around} {s : Shared}

theorem so_none : SO Γ n none := fun m h => by cases h
theorem so_some {m : ME} (h : SE Γ n m) : SO Γ n (some m) := fun m' e => by cases e; exact h
theorem soundE (gt : GTab Γ) (m : ME) : SE Γ n m :=
  ME.rec (motive_1 := fun m => SE Γ n m) (motive_2 := fun it => SI Γ n it) (motive_3 := fun ms => SEs Γ n ms) (motive_4 := fun o => SO Γ n o)
    se_dead (fun _ => se_const) (fun _ => se_loc) (fun _ _ _ a b => se_bin a b) (fun _ a => se_neg a) (fun _ _ _ a b => se_cmp a b) (fun _ _ _ a b => se_chain a b) (fun _ _ a b => se_band a b) (fun _ _ a b => se_bor a b) (fun _ a => se_bnot a)
    (fun _ _ _ a b c => se_ite a b c) (fun _ a => se_tup a) (fun _ a => se_lst a) se_dict0 (fun _ _ _ _ a b => se_sdict2 a b) (fun _ _ a b => se_sub a b) (fun _ _ _ a b c => se_slice a b c) (fun _ _ a => se_attr a) (fun _ _ a => se_call gt a) (fun _ _ a => se_bi gt a) (fun _ a => se_sortset gt a)
    (fun _ _ a b => se_append a b) (fun _ a => se_pop a) (fun _ _ _ a b => se_meth a b) (fun _ _ _ _ _ a b c => se_comp a b c)
    (fun _ a => si_seq a) (fun _ a => si_range1 gt a) (fun _ _ a b => si_range2 gt a b) (fun _ _ a b => si_zip gt a b) (fun _ a => si_enum gt a)
    ses_nil (fun _ _ a b => ses_cons a b) so_none (fun _ a => so_some a) m
theorem soundI (gt : GTab Γ) (it : IT) : SI Γ n it := by
  cases it with
  | seq a => exact si_seq (soundE gt a)
  | range1 a => exact si_range1 gt (soundE gt a)
  | range2 a b => exact si_range2 gt (soundE gt a) (soundE gt b)
  | zip a b => exact si_zip gt (soundE gt a) (soundE gt b)
  | enum a => exact si_enum gt (soundE gt a)
theorem soundEs (gt : GTab Γ) : ∀ ms : List ME, SEs Γ n ms
  | [] => ses_nil
  | m :: ms => ses_cons (soundE gt m) (soundEs gt ms)

noncomputable def SS (Γ : Gl) (n : Nat) (m : MS) : Prop := ∀ S st Φ ρ μ, okS S m st = true → ScFm S Φ → FmOk Γ Φ → ∀ Q, vcS Γ n m ρ μ Q → TS Γ n Φ ρ μ (exec st Φ.env) Q
noncomputable def SSs (Γ : Gl) (n : Nat) (ms : List MS) : Prop := ∀ S ss Φ ρ μ, okSs S ms ss = true → ScFm S Φ → FmOk Γ Φ → ∀ Q, vcSs Γ n ms ρ μ Q → TS Γ n Φ ρ μ (execs ss Φ.env) Q

theorem swap_plain {v t : Expr} (h : isComp v = false) (l : Nat) (env : Env) : swapsWith v (some t) l env = pure false := by
  cases v <;> first | rfl | exact ff h.symm
theorem swap_none {v : Expr} (h : isComp v = false) (l : Nat) (env : Env) : swapsWith v none l env = pure false := by
  cases v <;> first | rfl | exact ff h.symm
theorem look_eq (hS : ScFm S Φ) (x : Str) : (Φ.env.kindOf x == some .local) = (S.lookup x == some .local) := by
  cases h : (S.lookup x == some NameKind.local) with
  | true =>
    have e := beq_iff_eq.mp h
    rcases hS.tab.read _ _ (mem_of_lookup e) with z | ⟨z, _⟩
    · rw [z]; rfl
    · cases z
  | false =>
    apply beq_false_of_ne
    intro e
    obtain ⟨k, h1, h2⟩ := hS.tab.back _ _ e
    rcases h2 with rfl | ⟨_, z⟩
    · rw [lookup_nodup hS.tab.nd h1] at h
      simp at h
    · cases z
noncomputable def SwR (u : Option (Option (List Str))) (v : Sem (Option (List Str))) : Prop := ∀ r, u = some r → v = pure r
theorem SwR.ite {c : Prop} [Decidable c] {a b : Option (Option (List Str))} {a' b' : Sem (Option (List Str))} (h1 : SwR a a') (h2 : SwR b b') : SwR (if c then a else b) (if c then a' else b') := by
  by_cases h : c
  · rw [if_pos h, if_pos h]; exact h1
  · rw [if_neg h, if_neg h]; exact h2
set_option tactic.hygienic true in
theorem swapped_eq {ts : List Expr} {k : Nat} {tpos : Pos} {v : Expr} {r : Option (List Str)} {env : Env} {look : Str → Bool} (hk : env.scope.kind = .function) (hl : ∀ x, (env.kindOf x == some .local) = look x) (h : swapCalc look ts v = some r) :
    swappedStores [.Tuple ts k tpos] v env = pure r := by
  have el : look = fun x => env.kindOf x == some .local := by funext x; exact (hl x).symm
  subst el
  have hb : (env.blockKind != .function) = false := by
    unfold Env.blockKind
    rw [hk]; rfl
  unfold swappedStores
  cases v <;> first | (cases h; rfl) | skip
  rename_i vs vk vp
  dsimp only
  rw [hb, Bool.or_false]
  have key : SwR (swapCalc (fun x => env.kindOf x == some .local) ts (.Tuple vs vk vp)) (if (!(ts.length == 2 || ts.length == 3) || vs.length != ts.length) = true then pure none else if vs.any isStar = true then pure none else
      if ((ts.filterMap (nameIf (fun x => env.kindOf x == some .local) ((ts.head?.map (·.pos.line)).getD 0))).length != ts.length || (ts.filterMap (nameIf (fun x => env.kindOf x == some .local) ((ts.head?.map (·.pos.line)).getD 0))).eraseDups.length != (ts.filterMap (nameIf (fun x => env.kindOf x == some .local) ((ts.head?.map (·.pos.line)).getD 0))).length) = true then pure none
      else if vs.all (foldedForSure 8) = true then pure none
      else if vs.all (constantsAlone 8) = true then (do
        unsupported "assign.tuple-of-constant-expressions:order-of-the-stores"
        pure (some (ts.filterMap (nameIf (fun x => env.kindOf x == some .local) ((ts.head?.map (·.pos.line)).getD 0)))))
      else pure (some (ts.filterMap (nameIf (fun x => env.kindOf x == some .local) ((ts.head?.map (·.pos.line)).getD 0))))) :=
    SwR.ite (fun r e => by cases e; rfl) (SwR.ite (fun r e => by cases e; rfl) (SwR.ite (fun r e => by cases e; rfl) (SwR.ite (fun r e => by cases e; rfl) (SwR.ite (fun r e => nn e) fun r e => by cases e; rfl))))
  have z := key r h
  by_cases c : (!(ts.length == 2 || ts.length == 3) || vs.length != ts.length) = true
  · rw [if_pos c] at z ⊢; exact z
  · rw [if_neg c] at z ⊢; exact z

theorem onesOf_eq : ∀ {ts : List TG} {is : List Nat}, onesOf ts = some is → ts = is.map TG.one
  | [], is, h => by cases (show some [] = some is from h); rfl
  | .one i :: r, is, h => by
    replace h : (onesOf r).map (i :: ·) = some is := h
    cases q : onesOf r with
    | none => rw [q] at h; exact nn h
    | some js => rw [q] at h; cases h; rw [onesOf_eq q]; rfl
  | .many _ :: _, is, h => nn h

theorem ss_dead : SS Γ n .dead := by
  intro S st Φ ρ μ hk hS ok Q hv
  exact False.elim hv
set_option tactic.hygienic true in
theorem ss_assign1 (gt : GTab Γ) {i : Nat} {e : ME} : SS Γ n (.assign1 i e) := by
  intro S st Φ ρ μ hk hS ok Q hv
  replace hk := anyE hk
  obtain ⟨⟨t, v⟩, ha, hk⟩ := hk
  obtain ⟨pos, rfl⟩ := asgT_eq ha
  simp only [Bool.and_eq_true] at hk
  obtain ⟨⟨k0, k4⟩, k3⟩ := hk
  have kt := tg_of hS _ _ k0
  cases kt with
  | one k2 k1 =>
  rename_i x tpos
  rw [vs_assign1] at hv
  cases hc : isComp v with
  | false => exact ts_assign ok (.one k2 k1) (swap_plain hc _ _) rfl ((soundE gt e).e k3 hS ok hv fun p μ₁ h => h)
  | true =>
    have hm : isCompM e = true := by rw [hc] at k4; exact k4
    cases e <;> first | exact ff hm | skip
    rename_i elt tg it ifs init
    obtain ⟨elt', target, iter, ifs', sc, cpos, rfl, a, b, c, d, e, f⟩ := comp_parts k3
    subst b
    have nd := okScope_nd a
    rw [ve_comp] at hv
    exact ts_assign_comp ok (compOk_of a hS) k2 k1 rfl (fun x => foldedSet_id (iter_notSet d) _ x) (fun Φc fm => tg_of (scFm_comp nd fm) _ _ c)
      (TI.mono (soundI gt it S target iter Φ ρ μ d hS ok _ hv) fun items μ₁ h => comp_vc (soundE gt elt) (soundEs gt ifs) nd f e h)
set_option tactic.hygienic true in
theorem ss_assignT (gt : GTab Γ) {ts : List TG} {e : ME} : SS Γ n (.assignT ts e) := by
  intro S st Φ ρ μ hk hS ok Q hv
  replace hk := anyE hk
  obtain ⟨⟨t, v⟩, ha, hk⟩ := hk
  obtain ⟨pos, rfl⟩ := asgT_eq ha
  simp only [Bool.and_eq_true, Bool.not_eq_true'] at hk
  obtain ⟨⟨⟨k1, k2⟩, k3⟩, k4⟩ := hk
  cases ht : vTup t with
  | none => rw [okSwapT, ht] at k3; exact ff k3
  | some es =>
  rw [okSwapT, ht] at k3
  replace k3 : okSwap S ts es v = true := k3
  obtain ⟨k, tpos, rfl⟩ := vTup_eq ht
  rw [ok_many] at k2
  rw [vs_assignT] at hv
  unfold okSwap at k3
  split at k3
  · cases k3
  · rename_i hc
    exact ts_assign ok (.many (tgs_of hS ts es k2)) (swap_plain k1 _ _) (swapped_eq ok.kind (look_eq hS) hc) ((soundE gt e).e k4 hS ok hv fun p μ₁ h => h)
  · rename_i xs hc
    split at k3
    · rename_i is ho
      simp only [Bool.and_eq_true, decide_eq_true_eq, List.all_eq_true] at k3
      obtain ⟨⟨g1, g2⟩, g3⟩ := k3
      have et := onesOf_eq ho
      subst et
      refine ts_assign_swapped ok (fun i hi => own_of (g3 i hi) hS) ?_ g2 (swap_plain k1 _ _) (swapped_eq ok.kind (look_eq hS) hc) ((soundE gt e).e k4 hS ok hv fun p μ₁ h => h)
      rw [← g1]
      apply List.map_congr_left
      intro i _
      rw [hS.names, List.getElem?_map]
    · cases k3
theorem ss_assignA (gt : GTab Γ) {o : ME} {k : Nat} {e : ME} : SS Γ n (.assignA o k e) := by
  intro S st Φ ρ μ hk hS ok Q hv
  replace hk := anyE hk
  obtain ⟨⟨t, v⟩, ha, hk⟩ := hk
  obtain ⟨pos, rfl⟩ := asgT_eq ha
  simp only [Bool.and_eq_true, Bool.not_eq_true'] at hk
  obtain ⟨⟨k1, k3⟩, k5⟩ := hk
  replace k5 := anyE k5
  obtain ⟨y, hy, k5⟩ := k5
  have ey : t = .Attribute y.1 y.2.1 y.2.2 := vAttr_eq hy
  subst ey
  simp only [Bool.and_eq_true, beq_iff_eq] at k5
  obtain ⟨k2, k4⟩ := k5
  rw [vs_assignA] at hv
  exact ts_attr ok k2 (swap_plain k1 _ _) rfl ((soundE gt e).e k3 hS ok hv fun p μ₁ h => (soundE gt o).e k4 hS ok h fun _ _ h => h)
theorem ss_assignS (gt : GTab Γ) {o i e : ME} : SS Γ n (.assignS o i e) := by
  intro S st Φ ρ μ hk hS ok Q hv
  replace hk := anyE hk
  obtain ⟨⟨t, v⟩, ha, hk⟩ := hk
  obtain ⟨pos, rfl⟩ := asgT_eq ha
  simp only [Bool.and_eq_true, Bool.not_eq_true'] at hk
  obtain ⟨⟨k1, k2⟩, k5⟩ := hk
  replace k5 := anyE k5
  obtain ⟨y, hy, k5⟩ := k5
  obtain ⟨p5, ey⟩ := vSub_eq hy
  replace ey : t = .Subscript y.1 y.2 p5 := ey
  subst ey
  simp only [Bool.and_eq_true] at k5
  obtain ⟨k3, k4⟩ := k5
  rw [vs_assignS] at hv
  exact ts_item ok (swap_plain k1 _ _) ((soundE gt e).e k2 hS ok hv fun p μ₁ h => (soundE gt o).e k3 hS ok h fun _ _ h => (soundE gt i).e k4 hS ok h fun _ _ h => h)
theorem ss_expr (gt : GTab Γ) {e : ME} : SS Γ n (.expr e) := by
  intro S st Φ ρ μ hk hS ok Q hv
  cases st <;> first | exact ff hk | skip
  simp only [ok_expr, Bool.and_eq_true, Bool.not_eq_true'] at hk
  rw [vs_expr] at hv
  exact ts_expr ok (swap_none hk.1 _ _) ((soundE gt e).e hk.2 hS ok hv fun _ _ h => h)
theorem ss_sup {es : List ME} : SS Γ n (.sup es) := by
  intro S st Φ ρ μ hk hS ok Q hv
  exact ff hk
theorem ss_ifS (gt : GTab Γ) {t : ME} {b o : List MS} (h1 : SSs Γ n b) (h2 : SSs Γ n o) : SS Γ n (.ifS t b o) := by
  intro S st Φ ρ μ hk hS ok Q hv
  cases st <;> first | exact ff hk | skip
  simp only [ok_ifS, Bool.and_eq_true] at hk
  rw [vs_ifS] at hv
  refine ts_if ok ((soundE gt t).b hk.1.1 hS ok hv fun c μ₁ h => ?_)
  cases c with
  | true => exact h1 S _ Φ ρ μ₁ hk.1.2 hS ok _ h
  | false => exact h2 S _ Φ ρ μ₁ hk.2 hS ok _ h
set_option tactic.hygienic true in
theorem ss_forS (gt : GTab Γ) {tg : TG} {it : IT} {b : List MS} (h1 : SSs Γ n b) : SS Γ n (.forS tg it b) := by
  intro S st Φ ρ μ hk hS ok Q hv
  cases st <;> first | exact ff hk | skip
  rename_i target iter body orelse pos
  cases orelse <;> first | exact ff hk | skip
  simp only [ok_forS, Bool.and_eq_true] at hk
  rw [vs_forS] at hv
  obtain ⟨⟨k1, k2⟩, k3⟩ := hk
  have sc : ∀ {Φ' : Fm}, SameFm Φ Φ' → ScFm S Φ' := fun fm => ⟨fm.names.trans hS.names, fm.st.trans hS.st, ⟨hS.tab.nd, fun x k hm => by rw [fm.env]; exact hS.tab.read x k hm, fun x k h => hS.tab.back x k (by rw [← fm.env]; exact h)⟩⟩
  refine ts_for ok (fun x => foldedSet_id (iter_notSet k2) _ x) (fun Φ' fm => tg_of (sc fm) _ _ k1) (TI.mono (soundI gt it S target iter Φ ρ μ k2 hS ok _ hv) fun items μ₁ h => ?_)
  obtain ⟨a, J, b, c, d⟩ := h
  exact ⟨a, J, b, fun i x ρ' μ' hx hJ => bindT_mono (fun ρ₂ hb Φ' ok' fm => h1 S _ Φ' ρ₂ μ' k3 (sc fm) ok' _ hb) _ _ _ (c i x ρ' μ' hx hJ), d⟩
set_option tactic.hygienic true in
theorem ss_whileS (gt : GTab Γ) {t : ME} {b : List MS} (h1 : SSs Γ n b) : SS Γ n (.whileS t b) := by
  intro S st Φ ρ μ hk hS ok Q hv
  cases st <;> first | exact ff hk | skip
  rename_i test body orelse pos
  cases orelse <;> first | exact ff hk | skip
  simp only [ok_whileS, Bool.and_eq_true] at hk
  rw [vs_whileS] at hv
  obtain ⟨J, N, h0, h⟩ := hv
  refine ts_while ok J N h0 fun m ρ' μ' hJ => (soundE gt t).b hk.1 hS ok (h m ρ' μ' hJ) fun c μ₁ h => ?_
  cases c with
  | true => exact h1 S _ Φ ρ' μ₁ hk.2 hS ok _ h
  | false => exact h
theorem ss_ret (gt : GTab Γ) {e : Option ME} : SS Γ n (.ret e) := by
  intro S st Φ ρ μ hk hS ok Q hv
  cases e with
  | none =>
    replace hk := anyE hk
    obtain ⟨v, hc, hk⟩ := hk
    obtain ⟨p, rfl⟩ := vRet_eq hc
    cases v with
    | none => exact ts_ret0 hv
    | some _ => exact ff hk
  | some e =>
    replace hk := anyE hk
    obtain ⟨v, hc, hk⟩ := hk
    replace hk := anyE hk
    obtain ⟨v, rfl, hk⟩ := hk
    obtain ⟨p, rfl⟩ := vRet_eq hc
    exact ts_ret ok ((soundE gt e).e hk hS ok hv fun _ _ h => h)
theorem sss_nil : SSs Γ n [] := by
  intro S ss Φ ρ μ hk hS ok Q hv
  cases ss <;> first | exact ff hk | skip
  exact tss_nil hv
theorem sss_cons {m : MS} {ms : List MS} (h1 : SS Γ n m) (h2 : SSs Γ n ms) : SSs Γ n (m :: ms) := by
  intro S ss Φ ρ μ hk hS ok Q hv
  cases ss <;> first | exact ff hk | skip
  simp only [ok_scons, Bool.and_eq_true] at hk
  rw [vk_cons] at hv
  refine tss_cons (TS.mono (h1 S _ Φ ρ μ hk.1 hS ok _ hv) fun f ρ' μ' h => ?_)
  cases f with
  | next => exact h2 S _ Φ ρ' μ' hk.2 hS ok _ h
  | cont => exact h
  | brk => exact h
  | ret p => exact h
theorem soundS (gt : GTab Γ) (m : MS) : SS Γ n m :=
  MS.rec (motive_1 := fun m => SS Γ n m) (motive_2 := fun ms => SSs Γ n ms) ss_dead (fun _ _ => ss_assign1 gt) (fun _ _ => ss_assignT gt) (fun _ _ _ => ss_assignA gt) (fun _ _ _ => ss_assignS gt) (fun _ => ss_expr gt) (fun _ => ss_sup)
    (fun _ _ _ a b => ss_ifS gt a b) (fun _ _ _ a => ss_forS gt a) (fun _ _ a => ss_whileS gt a) (fun _ => ss_ret gt) sss_nil (fun _ _ a b => sss_cons a b) m
theorem soundSs (gt : GTab Γ) : ∀ ms : List MS, SSs Γ n ms
  | [] => sss_nil
  | m :: ms => sss_cons (soundS gt m) (soundSs gt ms)

theorem callT_vc (gt : GTab Γ) {a : Addr} {fd : FuncData} {body : List Stmt} {params : List Nat} {ms : List MS} {args : List PV} {Q : PV → Mu → Prop} (f : FnOk Γ a fd body params) (hk : okSs fd.scope.names ms body = true) (hlen : args.length = params.length)
    (h : vcSs Γ n ms (setMany (fd.scope.names.map fun _ => none) params args) μ (RetQ Q)) : CallT Γ (n + 1) (.ref a) args μ Q :=
  callT_fn f hlen fun Φ ok fm => by
    have hS : ScFm fd.scope.names Φ := ⟨fm.names, fm.st, f.nd, fun x k hm => .inl (by unfold Env.kindOf; rw [fm.scope]; exact lookup_nodup f.nd hm), fun x k' hk => ⟨k', by unfold Env.kindOf at hk; rw [fm.scope] at hk; exact mem_of_lookup hk, .inl rfl⟩⟩
    exact soundSs gt ms _ _ Φ _ μ hk hS ok _ h
end
end Mine

open PySem PySem.Calls PyProof.Rows PySem.W
set_option maxRecDepth 100000
set_option backward.match.sparseCases false
namespace Mine

noncomputable def m_put_behind : List MS := [.ifS (.band (.cmp .Gt (.bi .len [.loc 0]) (.const (.int 0))) (.cmp .LtE (.loc 1) (.bin .Add (.sub (.sub (.loc 0) (.neg (.const (.int 1)))) (.const (.int 1))) (.const (.int 1))))) [.ifS (.cmp .Gt (.loc 2) (.sub (.sub (.loc 0) (.neg (.const (.int 1)))) (.const (.int 1)))) [.assignS (.loc 0) (.neg (.const (.int 1))) (.tup [.sub (.sub (.loc 0) (.neg (.const (.int 1)))) (.const (.int 0)), .loc 2])] []] [.expr (.append (.loc 0) (.tup [.loc 1, .loc 2]))]]
noncomputable def m_from_values : List MS := [.assign1 1 (.lst []),
    .forS (.one 2) (.seq (.bi .sorted [.loc 0])) [.expr (.call (.ref 57) [.loc 1, .loc 2, .loc 2])],
    .ret (some (.bi .tuple [.loc 1]))]
noncomputable def m_least : List MS := [.ret (some (.sub (.sub (.loc 0) (.const (.int 0))) (.const (.int 0))))]
noncomputable def m_greatest : List MS := [.ret (some (.sub (.sub (.loc 0) (.neg (.const (.int 1)))) (.const (.int 1))))]
noncomputable def m_up_to : List MS := [.ret (some (.bi .tuple [.comp (.tup [.loc 1, .bi .min [.loc 2, .loc 4]]) (.many [.one 1, .one 2]) (.seq (.loc 0)) [.cmp .LtE (.loc 1) (.loc 4)] [none, none, none, none, some 1]]))]
noncomputable def m_from_on : List MS := [.ret (some (.bi .tuple [.comp (.tup [.bi .max [.loc 1, .loc 4], .loc 2]) (.many [.one 1, .one 2]) (.seq (.loc 0)) [.cmp .GtE (.loc 2) (.loc 4)] [none, none, none, none, some 1]]))]
noncomputable def m_without : List MS := [.ret (some (.bin .Add (.call (.ref 97) [.loc 0, .bin .Sub (.loc 1) (.const (.int 1))]) (.call (.ref 102) [.loc 0, .bin .Add (.loc 1) (.const (.int 1))])))]
noncomputable def m_struck : List MS := [.assignT [.one 2, .one 3] (.tup [.sub (.loc 0) (.const (.int 1)), .sub (.loc 0) (.const (.int 2))]),
    .ifS (.cmp .Eq (.loc 2) (.const (.str "<="))) [.ret (some (.call (.ref 97) [.loc 1, .loc 3]))] [],
    .ifS (.cmp .Eq (.loc 2) (.const (.str ">="))) [.ret (some (.call (.ref 102) [.loc 1, .loc 3]))] [],
    .ret (some (.ite (.cmp .Eq (.loc 2) (.const (.str "="))) (.dead) (.call (.ref 109) [.loc 1, .loc 3])))]
noncomputable def m_Store__init : List MS := [.assignA (.loc 0) 0 (.lst []),
    .assignA (.loc 0) 1 (.lst []),
    .assignA (.loc 0) 2 (.lst []),
    .assignA (.loc 0) 3 (.lst []),
    .assignA (.loc 0) 4 (.dict0),
    .assignA (.loc 0) 5 (.neg (.const (.int 1))),
    .assignA (.loc 0) 6 (.const (.bool false)),
    .assignA (.loc 0) 7 (.tup [])]
noncomputable def m_Store_new_var : List MS := [.expr (.append (.attr (.loc 0) 0) (.loc 1)),
    .expr (.append (.attr (.loc 0) 1) (.loc 1)),
    .ifS (.cmp .Eq (.loc 1) (.tup [])) [.expr (.meth (.loc 0) 5 [.tup []])] [],
    .ret (some (.bin .Sub (.bi .len [.attr (.loc 0) 0]) (.const (.int 1))))]
noncomputable def m_Store_low : List MS := [.ret (some (.call (.ref 71) [.sub (.attr (.loc 0) 0) (.loc 1)]))]
noncomputable def m_Store_high : List MS := [.ret (some (.call (.ref 78) [.sub (.attr (.loc 0) 0) (.loc 1)]))]
noncomputable def m_Store_enter : List MS := [.assign1 4 (.sub (.loc 1) (.const (.int 0))),
    .assign1 5 (.sub (.attr (.loc 0) 0) (.loc 4)),
    .assign1 6 (.call (.ref 130) [.loc 1, .loc 5]),
    .ifS (.cmp .Eq (.loc 6) (.tup [])) [.ret (some (.meth (.loc 0) 5 [.bin .Add (.ite (.cmp .Is (.loc 2) (.const .none)) (.tup []) (.loc 2)) (.tup [.dead])]))] [],
    .ifS (.cmp .Eq (.loc 6) (.loc 5)) [.ret (some (.const (.bool true)))] [],
    .expr (.append (.attr (.loc 0) 2) (.tup [.loc 4, .loc 5, .loc 1, .loc 2, .loc 3])),
    .assignS (.attr (.loc 0) 0) (.loc 4) (.loc 6),
    .assignS (.attr (.loc 0) 4) (.loc 4) (.const (.bool true)),
    .ret (some (.const (.bool true)))]
noncomputable def m_Store_decide : List MS := [.ret (some (.meth (.loc 0) 3 [.loc 1, .const .none, .neg (.const (.int 1))]))]
noncomputable def m_Store_push : List MS := [.expr (.append (.attr (.loc 0) 3) (.bi .len [.attr (.loc 0) 2]))]
noncomputable def m_Store_pop : List MS := [.ifS (.cmp .Lt (.loc 1) (.const (.int 1))) [.ret none] [],
    .assign1 2 (.sub (.attr (.loc 0) 3) (.bin .Sub (.bi .len [.attr (.loc 0) 3]) (.loc 1))),
    .assignA (.loc 0) 3 (.slice (.attr (.loc 0) 3) none (some (.bin .Sub (.bi .len [.attr (.loc 0) 3]) (.loc 1)))),
    .whileS (.cmp .Gt (.bi .len [.attr (.loc 0) 2]) (.loc 2)) [.assign1 3 (.pop (.attr (.loc 0) 2)),
    .assignS (.attr (.loc 0) 0) (.sub (.loc 3) (.const (.int 0))) (.sub (.loc 3) (.const (.int 1)))],
    .assignA (.loc 0) 4 (.dict0),
    .assignA (.loc 0) 6 (.cmp .In (.tup []) (.attr (.loc 0) 1)),
    .assignA (.loc 0) 7 (.tup [])]
noncomputable def m_Propagator__init : List MS := [.assignA (.loc 0) 8 (.neg (.const (.int 1))),
    .assignA (.loc 0) 9 (.bi .tuple [.loc 1]),
    .assignA (.loc 0) 10 (.loc 2)]
noncomputable def m_as_numbers : List MS := [.assign1 3 (.bi .tuple [.loc 0]),
    .ifS (.bor (.cmp .NotEq (.bi .len [.loc 3]) (.loc 1)) (.cmp .Lt (.bi .min [.bin .Add (.loc 3) (.tup [.const (.int 0)])]) (.const (.int 0)))) [.dead] [],
    .ret (some (.loc 3))]
noncomputable def m_Cumulative__init : List MS := [.assignA (.loc 0) 11 (.call (.ref 340) [.loc 2, .bi .len [.attr (.loc 0) 9], .const (.str "cumulative: each task lasts a number from 0 on")]),
    .assignA (.loc 0) 12 (.call (.ref 340) [.loc 3, .bi .len [.attr (.loc 0) 9], .const (.str "cumulative: each task needs a number from 0 on")]),
    .assignA (.loc 0) 13 (.sub (.call (.ref 340) [.tup [.loc 4], .const (.int 1), .const (.str "cumulative: the limit is a number from 0 on")]) (.const (.int 0)))]
noncomputable def m_Cumulative_tasks : List MS := [.ret (some (.comp (.loc 1) (.one 1) (.range1 (.bi .len [.attr (.loc 0) 9])) [.band (.cmp .Gt (.sub (.attr (.loc 2) 11) (.loc 1)) (.const (.int 0))) (.cmp .Gt (.sub (.attr (.loc 2) 12) (.loc 1)) (.const (.int 0)))] [none, none, some 0]))]
noncomputable def m_Cumulative_sure_times : List MS := [.assign1 2 (.lst []),
    .forS (.one 3) (.seq (.meth (.loc 0) 8 [])) [.assignT [.one 4, .one 5] (.tup [.meth (.loc 1) 2 [.sub (.attr (.loc 0) 9) (.loc 3)], .bin .Add (.meth (.loc 1) 1 [.sub (.attr (.loc 0) 9) (.loc 3)]) (.sub (.attr (.loc 0) 11) (.loc 3))]),
    .ifS (.cmp .Lt (.loc 4) (.loc 5)) [.expr (.append (.loc 2) (.tup [.loc 4, .loc 5, .loc 3]))] []],
    .ret (some (.loc 2))]
noncomputable def m_Cumulative_blocks : List MS := [.assign1 2 (.meth (.loc 0) 9 [.loc 1]),
    .assign1 5 (.sortset (.bin .Add (.comp (.loc 1) (.many [.one 1, .one 2, .one 3]) (.seq (.loc 2)) [] [none, none, none, none]) (.comp (.loc 2) (.many [.one 1, .one 2, .one 3]) (.seq (.loc 2)) [] [none, none, none, none]))),
    .assign1 6 (.lst []),
    .forS (.many [.one 3, .one 4]) (.zip (.loc 5) (.slice (.loc 5) (some (.const (.int 1))) none)) [.assign1 7 (.comp (.loc 3) (.many [.one 1, .one 2, .one 3]) (.seq (.loc 2)) [.band (.cmp .LtE (.loc 1) (.loc 4)) (.cmp .LtE (.loc 5) (.loc 2))] [none, none, none, none, some 3, some 4]),
    .ifS (.cmp .Gt (.bi .len [.loc 7]) (.const (.int 0))) [.expr (.append (.loc 6) (.tup [.loc 3, .loc 4, .loc 7]))] []],
    .ret (some (.loc 6))]
noncomputable def m_Cumulative_enough_of : List MS := [.assignT [.one 3, .one 4] (.tup [.lst [], .const (.int 0)]),
    .forS (.one 5) (.seq (.loc 1)) [.ifS (.cmp .GtE (.loc 4) (.loc 2)) [.ret (some (.loc 3))] [],
    .expr (.append (.loc 3) (.loc 5)),
    .assign1 4 (.bin .Add (.loc 4) (.sub (.attr (.loc 0) 12) (.loc 5)))],
    .ret (some (.ite (.cmp .GtE (.loc 4) (.loc 2)) (.loc 3) (.const .none)))]
noncomputable def m_Cumulative_reasons_for : List MS := [.assign1 4 (.lst []),
    .forS (.one 5) (.seq (.loc 1)) [.expr (.append (.loc 4) (.tup [.sub (.attr (.loc 0) 9) (.loc 5), .const (.str "<="), .loc 2])),
    .expr (.append (.loc 4) (.tup [.sub (.attr (.loc 0) 9) (.loc 5), .const (.str ">="), .bin .Sub (.loc 3) (.sub (.attr (.loc 0) 11) (.loc 5))]))],
    .ret (some (.loc 4))]
noncomputable def m_law_draw : List MS := [.assignT [.one 2, .one 3] (.tup [.sub (.loc 0) (.const (.str "at")), .sub (.loc 0) (.const (.str "cells"))]),
    .assignS (.loc 0) (.const (.str "at")) (.bin .Add (.loc 2) (.const (.int 1))),
    .ifS (.cmp .Lt (.loc 2) (.bi .len [.loc 3])) [.ret (some (.bin .Mod (.sub (.loc 3) (.loc 2)) (.loc 1)))] [],
    .ret (some (.bin .Mod (.bin .Mod (.bin .Add (.bin .Add (.bin .Add (.bin .Mult (.bin .Mult (.const (.int 7)) (.loc 2)) (.loc 2)) (.bin .Mult (.const (.int 11)) (.loc 2))) (.bin .Mult (.const (.int 3)) (.bi .len [.loc 3]))) (.const (.int 5))) (.const (.int 97))) (.loc 1)))]
noncomputable def m_law_bars : List MS := [.assignT [.one 2, .one 3, .one 4] (.loc 0),
    .ifS (.cmp .Eq (.loc 3) (.const (.str "<="))) [.ret (some (.cmp .Gt (.loc 1) (.loc 4)))] [],
    .ifS (.cmp .Eq (.loc 3) (.const (.str ">="))) [.ret (some (.cmp .Lt (.loc 1) (.loc 4)))] [],
    .ret (some (.ite (.cmp .Eq (.loc 3) (.const (.str "="))) (.cmp .NotEq (.loc 1) (.loc 4)) (.cmp .Eq (.loc 1) (.loc 4))))]
noncomputable def m_law_starts : List MS := [.assign1 1 (.call (.ref 434) [.loc 0, .const (.int 3)]),
    .assign1 2 (.comp (.bin .Add (.loc 3) (.loc 1)) (.one 1) (.range1 (.const (.int 5))) [.cmp .Eq (.call (.ref 434) [.loc 4, .const (.int 3)]) (.const (.int 1))] [none, none, none, some 1, some 0]),
    .ret (some (.ite (.cmp .NotEq (.loc 2) (.lst [])) (.slice (.loc 2) none (some (.const (.int 4)))) (.lst [.loc 1])))]
noncomputable def m_law_sure : List MS := [.assign1 2 (.dict0),
    .forS (.one 3) (.range1 (.const (.int 14))) [.assign1 4 (.lst []),
    .forS (.many [.one 5, .many [.one 6, .one 7]]) (.enum (.loc 0)) [.ifS (.band (.cmp .Gt (.loc 7) (.const (.int 0))) (.cmp .Eq (.comp (.loc 1) (.one 1) (.seq (.sub (.loc 1) (.loc 5))) [.bnot (.chain (.loc 1) [.LtE, .Lt] [.loc 3, .bin .Add (.loc 1) (.loc 2)])] [none, none, some 6, some 3]) (.lst []))) [.expr (.append (.loc 4) (.loc 5))] []],
    .assignS (.loc 2) (.loc 3) (.loc 4)],
    .ret (some (.loc 2))]
noncomputable def m_law_is_block_right : List MS := [.assignT [.one 5, .one 6, .one 7] (.loc 1),
    .assign1 8 (.meth (.loc 0) 12 [.loc 7, .loc 5, .loc 6]),
    .ifS (.cmp .NotEq (.comp (.const (.int 1)) (.one 1) (.seq (.loc 8)) [.cmp .NotEq (.comp (.loc 1) (.one 1) (.seq (.sub (.loc 2) (.sub (.loc 1) (.const (.int 0))))) [.call (.ref 441) [.loc 3, .loc 1]] [none, none, none, some 1]) (.lst [])] [none, none, some 4]) (.lst [])) [.ret (some (.const (.bool false)))] [],
    .forS (.one 10) (.seq (.loc 7)) [.assign1 11 (.comp (.loc 1) (.one 1) (.seq (.loc 8)) [.cmp .Eq (.sub (.loc 1) (.const (.int 0))) (.loc 2)] [none, none, some 10]),
    .forS (.one 9) (.seq (.sub (.loc 3) (.loc 10))) [.ifS (.band (.cmp .Eq (.comp (.const (.int 1)) (.one 1) (.seq (.loc 11)) [.call (.ref 441) [.loc 1, .loc 3]] [none, none, none, some 9]) (.lst [])) (.bnot (.chain (.loc 9) [.LtE, .LtE, .LtE] [.loc 5, .loc 6, .bin .Add (.loc 9) (.sub (.sub (.loc 2) (.loc 10)) (.const (.int 0)))]))) [.ret (some (.const (.bool false)))] []]],
    .ret (some (.const (.bool true)))]
noncomputable def m_law_is_enough_right : List MS := [.assignT [.one 4, .one 5] (.tup [.meth (.loc 0) 11 [.loc 1, .loc 3], .bi .sum [.comp (.sub (.sub (.loc 2) (.loc 1)) (.const (.int 1))) (.one 1) (.seq (.loc 1)) [] [none, none, some 2]]]),
    .ifS (.cmp .Lt (.loc 5) (.loc 3)) [.ret (some (.cmp .Is (.loc 4) (.const .none)))] [],
    .assign1 6 (.comp (.loc 1) (.one 1) (.range1 (.bin .Add (.bi .len [.loc 1]) (.const (.int 1)))) [.cmp .GtE (.bi .sum [.comp (.sub (.sub (.loc 2) (.loc 1)) (.const (.int 1))) (.one 1) (.seq (.slice (.loc 4) none (some (.loc 1)))) [] [none, none, some 5]]) (.loc 3)] [none, none, none, some 3, some 1, some 2]),
    .ret (some (.cmp .Eq (.loc 4) (.slice (.loc 1) none (some (.sub (.loc 6) (.const (.int 0)))))))]
noncomputable def m_law_is_now_right : List MS := [.assignT [.one 6, .one 7] (.tup [.call (.ref 451) [.loc 3, .loc 5], .meth (.loc 1) 10 [.loc 2]]),
    .assign1 8 (.lst []),
    .forS (.one 9) (.range1 (.bi .len [.loc 3])) [.assign1 10 (.comp (.loc 1) (.one 1) (.seq (.loc 6)) [.cmp .In (.loc 2) (.sub (.loc 3) (.loc 1))] [none, none, some 9, some 6]),
    .ifS (.cmp .NotEq (.loc 10) (.lst [])) [.expr (.append (.loc 8) (.tup [.sub (.loc 10) (.const (.int 0)), .bin .Add (.sub (.loc 10) (.neg (.const (.int 1)))) (.const (.int 1)), .loc 9]))] []],
    .ifS (.cmp .NotEq (.meth (.loc 1) 9 [.loc 2]) (.loc 8)) [.ret (some (.const (.bool false)))] [],
    .assign1 11 (.lst []),
    .forS (.many [.one 12, .one 13, .one 14]) (.seq (.loc 7)) [.assign1 11 (.bin .Add (.loc 11) (.comp (.tup [.loc 1, .loc 2]) (.one 1) (.range2 (.loc 12) (.loc 13)) [] [none, none, some 14]))],
    .ifS (.cmp .NotEq (.loc 11) (.comp (.tup [.loc 1, .sub (.loc 2) (.loc 1)]) (.one 1) (.seq (.loc 6)) [.cmp .NotEq (.sub (.loc 2) (.loc 1)) (.lst [])] [none, none, some 6])) [.ret (some (.const (.bool false)))] [],
    .forS (.many [.one 15, .one 16]) (.zip (.loc 7) (.slice (.loc 7) (some (.const (.int 1))) none)) [.ifS (.band (.cmp .Eq (.sub (.loc 15) (.const (.int 1))) (.sub (.loc 16) (.const (.int 0)))) (.cmp .Eq (.sub (.loc 15) (.const (.int 2))) (.sub (.loc 16) (.const (.int 2))))) [.ret (some (.const (.bool false)))] []],
    .assign1 17 (.tup [.const (.int 0), .bin .Add (.const (.int 1)) (.call (.ref 434) [.loc 0, .const (.int 4)]), .bin .Add (.const (.int 2)) (.call (.ref 434) [.loc 0, .const (.int 7)])]),
    .forS (.one 18) (.seq (.loc 7)) [.ifS (.bnot (.call (.ref 456) [.loc 1, .loc 18, .loc 3, .loc 4, .loc 5])) [.ret (some (.const (.bool false)))] [],
    .ifS (.bnot (.bi .all [.comp (.call (.ref 461) [.loc 4, .sub (.loc 3) (.const (.int 2)), .loc 5, .loc 1]) (.one 1) (.seq (.loc 17)) [] [none, none, none, some 18, some 1, some 3]])) [.ret (some (.const (.bool false)))] []],
    .ret (some (.const (.bool true)))]
noncomputable def m_law : List MS := [.assign1 1 (.sdict2 "cells" (.comp (.bin .Mod (.loc 1) (.const (.int 1000003))) (.one 1) (.seq (.slice (.loc 0) none (some (.const (.int 60))))) [] [none, none]) "at" (.const (.int 0))),
    .assignT [.one 2, .one 3, .one 4] (.tup [.bin .Add (.const (.int 2)) (.call (.ref 434) [.loc 1, .const (.int 3)]), .call (.ref 287) [], .lst []]),
    .assign1 6 (.comp (.call (.ref 446) [.loc 3]) (.one 1) (.range1 (.loc 2)) [] [none, none, none, some 1]),
    .assign1 7 (.comp (.tup [.call (.ref 434) [.loc 3, .const (.int 6)], .call (.ref 434) [.loc 3, .const (.int 4)]]) (.one 1) (.range1 (.loc 2)) [] [none, none, none, some 1]),
    .assign1 8 (.call (.ref 425) [.comp (.meth (.loc 3) 0 [.call (.ref 64) [.loc 1]]) (.one 1) (.seq (.loc 6)) [] [none, none, none, some 3], .comp (.loc 1) (.many [.one 1, .one 2]) (.seq (.loc 7)) [] [none, none, none], .comp (.loc 2) (.many [.one 1, .one 2]) (.seq (.loc 7)) [] [none, none, none], .call (.ref 434) [.loc 1, .const (.int 6)]]),
    .assign1 9 (.bi .list [.loc 6]),
    .ifS (.bnot (.call (.ref 466) [.loc 1, .loc 8, .loc 3, .loc 7, .loc 6, .loc 9])) [.ret (some (.const (.bool false)))] [],
    .forS (.one 10) (.range1 (.bin .Add (.const (.int 2)) (.call (.ref 434) [.loc 1, .const (.int 3)]))) [.ifS (.band (.cmp .NotEq (.loc 4) (.lst [])) (.cmp .Eq (.call (.ref 434) [.loc 1, .const (.int 4)]) (.const (.int 3)))) [.expr (.meth (.loc 3) 7 [.const (.int 1)]),
    .assign1 9 (.pop (.loc 4))] [.assignT [.one 5, .one 11, .one 12] (.tup [.call (.ref 434) [.loc 1, .loc 2], .sub (.tup [.const (.str "<="), .const (.str ">="), .const (.str "!=")]) (.call (.ref 434) [.loc 1, .const (.int 3)]), .call (.ref 434) [.loc 1, .const (.int 7)]]),
    .assign1 13 (.comp (.loc 1) (.one 1) (.seq (.sub (.loc 9) (.loc 5))) [.bnot (.call (.ref 441) [.tup [.loc 3, .loc 4, .loc 5], .loc 1])] [none, none, none, some 5, some 11, some 12]),
    .ifS (.cmp .NotEq (.loc 13) (.lst [])) [.expr (.meth (.loc 3) 6 []),
    .expr (.meth (.loc 3) 4 [.tup [.loc 5, .loc 11, .loc 12]]),
    .expr (.append (.loc 4) (.bi .list [.loc 9])),
    .assignS (.loc 9) (.loc 5) (.loc 13)] []],
    .ifS (.bnot (.call (.ref 466) [.loc 1, .loc 8, .loc 3, .loc 7, .loc 6, .loc 9])) [.ret (some (.const (.bool false)))] []],
    .ret (some (.const (.bool true)))]

noncomputable def FN (Γ : Gl) (a : Addr) (ms : List MS) (params : List Nat) (nn : Nat) : Prop := ∃ fd body, FnOk Γ a fd body params ∧ okSs fd.scope.names ms body = true ∧ fd.scope.names.length = nn
theorem replicate_none {α : Type} : ∀ l : List α, (l.map fun _ => (none : Option PV)) = List.replicate l.length none
  | [] => rfl
  | _ :: r => by rw [List.map_cons, replicate_none r, List.length_cons, List.replicate_succ]
theorem FN.call {Γ : Gl} {n : Nat} (gt : GTab Γ) {a : Addr} {ms : List MS} {params : List Nat} {nn : Nat} {args : List PV} {μ : Mu} {Q : PV → Mu → Prop} (f : FN Γ a ms params nn) (hlen : args.length = params.length)
    (h : vcSs Γ n ms (setMany (List.replicate nn none) params args) μ (RetQ Q)) : CallT Γ (n + 1) (.ref a) args μ Q := by
  obtain ⟨fd, body, f, hk, hl⟩ := f
  exact callT_vc gt f hk hlen (by rw [replicate_none, hl]; exact h)
structure PR (Γ : Gl) : Prop where
  gt : GTab Γ
  f57 : FN Γ 57 m_put_behind [0, 1, 2] 4
  f64 : FN Γ 64 m_from_values [0] 6
  f71 : FN Γ 71 m_least [0] 1
  f78 : FN Γ 78 m_greatest [0] 1
  f97 : FN Γ 97 m_up_to [0, 1] 3
  f102 : FN Γ 102 m_from_on [0, 1] 3
  f109 : FN Γ 109 m_without [0, 1] 4
  f130 : FN Γ 130 m_struck [0, 1] 8
  f151 : FN Γ 151 m_Store__init [0] 1
  f158 : FN Γ 158 m_Store_new_var [0, 1] 3
  f186 : FN Γ 186 m_Store_low [0, 1] 3
  f193 : FN Γ 193 m_Store_high [0, 1] 3
  f235 : FN Γ 235 m_Store_enter [0, 1, 2, 3] 9
  f249 : FN Γ 249 m_Store_decide [0, 1] 2
  f263 : FN Γ 263 m_Store_push [0] 2
  f270 : FN Γ 270 m_Store_pop [0, 1] 5
  f305 : FN Γ 305 m_Propagator__init [0, 1, 2] 4
  f340 : FN Γ 340 m_as_numbers [0, 1, 2] 8
  f361 : FN Γ 361 m_Cumulative_tasks [0] 3
  f368 : FN Γ 368 m_Cumulative_sure_times [0, 1] 6
  f373 : FN Γ 373 m_Cumulative_blocks [0, 1] 12
  f380 : FN Γ 380 m_Cumulative_enough_of [0, 1, 2] 6
  f387 : FN Γ 387 m_Cumulative_reasons_for [0, 1, 2, 3] 6
  f434 : FN Γ 434 m_law_draw [0, 1] 5
  f441 : FN Γ 441 m_law_bars [0, 1] 5
  f446 : FN Γ 446 m_law_starts [0] 5
  f451 : FN Γ 451 m_law_sure [0, 1] 10
  f456 : FN Γ 456 m_law_is_block_right [0, 1, 2, 3, 4] 12
  f461 : FN Γ 461 m_law_is_enough_right [0, 1, 2, 3] 10
  f466 : FN Γ 466 m_law_is_now_right [0, 1, 2, 3, 4, 5] 26
  f471 : FN Γ 471 m_law [0] 20
end Mine

open PySem PySem.Calls PyProof.Rows PySem.W
set_option maxRecDepth 100000
set_option linter.unusedVariables false
set_option backward.match.sparseCases false
namespace Mine

section
variable {Γ : Gl} {n : Nat} {ρ : Rho} {μ : Mu} {Q : PV → Mu → Prop} {QB : Bool → Mu → Prop} {W : (PV → Mu → Prop) → Prop} {QS : FP → Rho → Mu → Prop}
theorem comp_pure {α : Type} {elt : ME} {tg : TG} {ifs : List ME} {init : List (Option Nat)} {items : List PV} (l : List α) (h : α → PV) (g : α → Option PV) (hi : items = l.map h) (hlen : l.length ≤ big)
    (hb : ∀ a ∈ l, ∀ k : Option PV → Mu → Prop, k (g a) μ → bindT tg (h a) (initR init ρ) fun ρ' => vcIfs Γ n ifs ρ' μ fun c μ₂ => if c then vcE Γ n elt ρ' μ₂ fun v μ₃ => k (some v) μ₃ else k none μ₂)
    (hq : newL (l.filterMap g) μ Q) : CompB Γ n elt tg ifs init ρ Q items μ := by
  subst hi
  refine comp_rule (by simpa using hlen) (fun i acc μ' => μ' = μ ∧ acc = (l.take i).filterMap g) (⟨rfl, by simp⟩) (fun i x acc μ' hx hJ => ?_) fun acc μ' hJ => ?_
  · obtain ⟨rfl, rfl⟩ := hJ
    rw [nth_eq, List.getElem?_map] at hx
    cases ha : l[i]? with
    | none => rw [ha] at hx; cases hx
    | some a =>
      rw [ha] at hx
      cases hx
      have z := hb a (List.mem_of_getElem? ha) (fun o μ₃ => μ₃ = μ' ∧ (match o with | some v => (l.take i).filterMap g ++ [v] | none => (l.take i).filterMap g) = (l.take (i + 1)).filterMap g) ⟨rfl, by
        rw [List.take_add_one, ha, List.filterMap_append]
        cases q : g a <;> simp [q]⟩
      exact z
  · obtain ⟨rfl, rfl⟩ := hJ
    rw [List.length_map, List.take_of_length_le (Nat.le_refl _)]
    exact hq
end
end Mine

open PySem PySem.Calls PyProof.Rows PySem.W
set_option maxRecDepth 100000
set_option linter.unusedVariables false
set_option backward.match.sparseCases false
namespace Mine

abbrev Dom := List (Int × Int)
noncomputable def prP (p : Int × Int) : PV := .tup [.int p.1, .int p.2]
noncomputable def dP (d : Dom) : PV := .tup (d.map prP)
theorem ret_done {Q : PV → Mu → Prop} {p : PV} {ρ : Rho} {μ : Mu} (h : Q p μ) : RetQ Q (.ret p) ρ μ := FZ.done ⟨p, rfl, h⟩
theorem next_done {Q : PV → Mu → Prop} {ρ : Rho} {μ : Mu} (h : Q .none μ) : RetQ Q .next ρ μ := FZ.done ⟨_, rfl, h⟩
theorem nth_last {l : List PV} {p : PV} : nth (l ++ [p]) l.length = some p := by rw [nth_eq]; simp
theorem itemAt_last {l : List PV} {p : PV} : itemAt (l ++ [p]) (-1) = some p := by
  unfold itemAt
  rw [if_neg (by decide), if_pos (by simp; omega)]
  have e : (((l ++ [p]).length : Int) + -1).toNat = l.length := by simp; omega
  rw [e]; exact nth_last
theorem itemAt_nat {l : List PV} {p : PV} {i : Nat} (h : l[i]? = some p) : itemAt l i = some p := by
  unfold itemAt
  rw [if_pos (by omega), nth_eq]
  simpa using h
theorem sub_tup {l : List PV} {j : Int} {v : PV} {μ : Mu} {k : PV → Prop} (hj : j.natAbs ≤ big) (h : itemAt l j = some v) (hk : k v) : subV (.tup l) (.int j) μ k := .tup hj h hk
theorem sub_lst {l : List PV} {j : Int} {v : PV} {μ : Mu} {k : PV → Prop} (hj : j.natAbs ≤ big) (h : itemAt l j = some v) (hk : k v) : subV (.lst l) (.int j) μ k := .lst hj h hk
theorem sub_ref {a : Addr} {l : List PV} {j : Int} {v : PV} {μ : Mu} {k : PV → Prop} (hm : μ a = some (.list l)) (hj : j.natAbs ≤ big) (h : itemAt l j = some v) (hk : k v) : subV (.ref a) (.int j) μ k := .list hm hj h hk

section
variable {Γ : Gl} {n : Nat} {μ : Mu} {Q : PV → Mu → Prop}
theorem c_least (P : PR Γ) {a b : Int} {r : Dom} (h : Q (.int a) μ) : CallT Γ (n + 1) (.ref 71) [dP ((a, b) :: r)] μ Q := by
  refine FN.call P.gt P.f71 rfl ?_
  dsimp only [m_least, vk_nil, vk_cons, vl_nil, vl_cons, vf_nil, vf_cons, vo_none, vo_some, vt_one, vt_more, vi_seq, oo_int, oo_lst, vi_range1, vi_range2, vi_zip, vi_enum, vb_bnot, vb_band, vb_bor, vb_ite, vb_cmp, vb_chain, vb_const, vb_loc, vb_bin, vb_neg, vb_tup, vb_lst, vb_sub, vb_slice, vb_attr, vb_call, vb_bi, vb_meth, ve_dead, ve_const, ve_loc, ve_bin, ve_neg, ve_cmp, ve_band, ve_bor, ve_bnot, ve_ite, ve_tup, ve_lst, ve_dict0, ve_sdict2, ve_sub, ve_slice, ve_attr, ve_call, ve_bi, ve_sortset, ve_append, ve_pop, ve_meth, ve_comp, vs_dead, vs_assign1, vs_assignT, vs_assignA, vs_assignS, vs_expr, vs_ifS, vs_forS, vs_whileS, vs_ret0, vs_ret, setMany, setS, getS, initR, List.replicate, bindT, bindTs, unpackV, List.length_cons, List.length_nil]
  exact sub_tup (v := prP (a, b)) (by decide) rfl (sub_tup (v := .int a) (by decide) rfl (ret_done h))
theorem c_greatest (P : PR Γ) {a b : Int} {r : Dom} (h : Q (.int b) μ) : CallT Γ (n + 1) (.ref 78) [dP (r ++ [(a, b)])] μ Q := by
  refine FN.call P.gt P.f78 rfl ?_
  dsimp only [m_greatest, vk_nil, vk_cons, vl_nil, vl_cons, vf_nil, vf_cons, vo_none, vo_some, vt_one, vt_more, vi_seq, oo_int, oo_lst, vi_range1, vi_range2, vi_zip, vi_enum, vb_bnot, vb_band, vb_bor, vb_ite, vb_cmp, vb_chain, vb_const, vb_loc, vb_bin, vb_neg, vb_tup, vb_lst, vb_sub, vb_slice, vb_attr, vb_call, vb_bi, vb_meth, ve_dead, ve_const, ve_loc, ve_bin, ve_neg, ve_cmp, ve_band, ve_bor, ve_bnot, ve_ite, ve_tup, ve_lst, ve_dict0, ve_sdict2, ve_sub, ve_slice, ve_attr, ve_call, ve_bi, ve_sortset, ve_append, ve_pop, ve_meth, ve_comp, vs_dead, vs_assign1, vs_assignT, vs_assignA, vs_assignS, vs_expr, vs_ifS, vs_forS, vs_whileS, vs_ret0, vs_ret, setMany, setS, getS, initR, List.replicate, bindT, bindTs, unpackV, List.length_cons, List.length_nil]
  exact sub_tup (v := prP (a, b)) (by decide) (by rw [List.map_append]; exact itemAt_last) (sub_tup (v := .int b) (by decide) rfl (ret_done h))

noncomputable def uptoD (d : Dom) (k : Int) : Dom := d.filterMap fun p => if p.1 ≤ k then some (p.1, if k < p.2 then k else p.2) else none
noncomputable def fromD (d : Dom) (k : Int) : Dom := d.filterMap fun p => if k ≤ p.2 then some (if p.1 < k then k else p.1, p.2) else none
noncomputable def withoutD (d : Dom) (v : Int) : Dom := uptoD d (v - 1) ++ fromD d (v + 1)
theorem newL_lst {l : List PV} {K : PV → Mu → Prop} (hl : l.length ≤ big) (h : K (.lst l) μ) : newL l μ K := ⟨hl, .inl h⟩
theorem newL_ref {l : List PV} {K : PV → Mu → Prop} (hl : l.length ≤ big) (h : ∀ a, μ a = none → K (.ref a) (μ.set a (.list l))) : newL l μ K := ⟨hl, .inr h⟩
theorem filterMap_len {α β : Type} (g : α → Option β) (l : List α) (h : l.length ≤ big) : (l.filterMap g).length ≤ big := Nat.le_trans (List.length_filterMap_le _ _) h
theorem c_up_to (P : PR Γ) {d : Dom} {k : Int} (hd : d.length ≤ big) (h : Q (dP (uptoD d k)) μ) : CallT Γ (n + 1) (.ref 97) [dP d, .int k] μ Q := by
  refine FN.call P.gt P.f97 rfl ?_
  dsimp only [m_up_to, vk_nil, vk_cons, vl_nil, vl_cons, vf_nil, vf_cons, vo_none, vo_some, vt_one, vt_more, vi_seq, oo_int, oo_lst, vi_range1, vi_range2, vi_zip, vi_enum, vb_bnot, vb_band, vb_bor, vb_ite, vb_cmp, vb_chain, vb_const, vb_loc, vb_bin, vb_neg, vb_tup, vb_lst, vb_sub, vb_slice, vb_attr, vb_call, vb_bi, vb_meth, ve_dead, ve_const, ve_loc, ve_bin, ve_neg, ve_cmp, ve_band, ve_bor, ve_bnot, ve_ite, ve_tup, ve_lst, ve_dict0, ve_sdict2, ve_sub, ve_slice, ve_attr, ve_call, ve_bi, ve_sortset, ve_append, ve_pop, ve_meth, ve_comp, vs_dead, vs_assign1, vs_assignT, vs_assignA, vs_assignS, vs_expr, vs_ifS, vs_forS, vs_whileS, vs_ret0, vs_ret, setMany, setS, getS, initR, List.replicate, bindT, bindTs, unpackV, List.length_cons, List.length_nil]
  refine comp_pure (α := Int × Int) d prP (fun p => if p.1 ≤ k then some (prP (p.1, if k < p.2 then k else p.2)) else none) rfl hd (fun p _ kk hk => ?_) ?_
  · ((try dsimp only [prP, vk_nil, vk_cons, vl_nil, vl_cons, vf_nil, vf_cons, vo_none, vo_some, vt_one, vt_more, vi_seq, oo_int, oo_lst, vi_range1, vi_range2, vi_zip, vi_enum, vb_bnot, vb_band, vb_bor, vb_ite, vb_cmp, vb_chain, vb_const, vb_loc, vb_bin, vb_neg, vb_tup, vb_lst, vb_sub, vb_slice, vb_attr, vb_call, vb_bi, vb_meth, ve_dead, ve_const, ve_loc, ve_bin, ve_neg, ve_cmp, ve_band, ve_bor, ve_bnot, ve_ite, ve_tup, ve_lst, ve_dict0, ve_sdict2, ve_sub, ve_slice, ve_attr, ve_call, ve_bi, ve_sortset, ve_append, ve_pop, ve_meth, ve_comp, vs_dead, vs_assign1, vs_assignT, vs_assignA, vs_assignS, vs_expr, vs_ifS, vs_forS, vs_whileS, vs_ret0, vs_ret, setMany, setS, getS, initR, List.replicate, bindT, bindTs, unpackV, List.length_cons, List.length_nil, cv_lt, cv_le, cv_gt, cv_ge, cv_eq, cv_ne, cv_in, cv_isn, cv_isl, cv_ist, cv_isr]); simp only [prP, vk_nil, vk_cons, vl_nil, vl_cons, vf_nil, vf_cons, vo_none, vo_some, vt_one, vt_more, vi_seq, oo_int, oo_lst, vi_range1, vi_range2, vi_zip, vi_enum, vb_bnot, vb_band, vb_bor, vb_ite, vb_cmp, vb_chain, vb_const, vb_loc, vb_bin, vb_neg, vb_tup, vb_lst, vb_sub, vb_slice, vb_attr, vb_call, vb_bi, vb_meth, ve_dead, ve_const, ve_loc, ve_bin, ve_neg, ve_cmp, ve_band, ve_bor, ve_bnot, ve_ite, ve_tup, ve_lst, ve_dict0, ve_sdict2, ve_sub, ve_slice, ve_attr, ve_call, ve_bi, ve_sortset, ve_append, ve_pop, ve_meth, ve_comp, vs_dead, vs_assign1, vs_assignT, vs_assignA, vs_assignS, vs_expr, vs_ifS, vs_forS, vs_whileS, vs_ret0, vs_ret, setMany, setS, getS, initR, List.replicate, bindT, bindTs, unpackV, List.length_cons, List.length_nil, cv_lt, cv_le, cv_gt, cv_ge, cv_eq, cv_ne, cv_in, cv_isn, cv_isl, cv_ist, cv_isr, true_and])
    by_cases c : p.1 ≤ k
    · rw [if_pos c] at hk
      simp only [c, decide_true, if_true, bi_len, bi_min2, bi_max2, bi_minT, bi_sum, bi_sorted, bi_list, bi_tuple, bi_all]
      exact hk
    · rw [if_neg c] at hk
      simp only [c, decide_false, Bool.false_eq_true, if_false]
      exact hk
  · refine newL_lst (filterMap_len _ _ hd) ?_
    simp only [bi_len, bi_min2, bi_max2, bi_minT, bi_sum, bi_sorted, bi_list, bi_tuple, bi_all, dr_ref, dr_lst, dr_tup, dr_int, dr_str, dr_none, dr_bool, dr_obj]
    refine ⟨filterMap_len _ _ hd, ret_done ?_⟩
    have e : (d.filterMap fun p => if p.1 ≤ k then some (prP (p.1, if k < p.2 then k else p.2)) else none) = (uptoD d k).map prP := by
      unfold uptoD
      rw [List.map_filterMap]
      congr 1
      funext p
      split <;> rfl
    rw [e]
    exact h
theorem c_from_on (P : PR Γ) {d : Dom} {k : Int} (hd : d.length ≤ big) (h : Q (dP (fromD d k)) μ) : CallT Γ (n + 1) (.ref 102) [dP d, .int k] μ Q := by
  refine FN.call P.gt P.f102 rfl ?_
  dsimp only [m_from_on, vk_nil, vk_cons, vl_nil, vl_cons, vf_nil, vf_cons, vo_none, vo_some, vt_one, vt_more, vi_seq, oo_int, oo_lst, vi_range1, vi_range2, vi_zip, vi_enum, vb_bnot, vb_band, vb_bor, vb_ite, vb_cmp, vb_chain, vb_const, vb_loc, vb_bin, vb_neg, vb_tup, vb_lst, vb_sub, vb_slice, vb_attr, vb_call, vb_bi, vb_meth, ve_dead, ve_const, ve_loc, ve_bin, ve_neg, ve_cmp, ve_band, ve_bor, ve_bnot, ve_ite, ve_tup, ve_lst, ve_dict0, ve_sdict2, ve_sub, ve_slice, ve_attr, ve_call, ve_bi, ve_sortset, ve_append, ve_pop, ve_meth, ve_comp, vs_dead, vs_assign1, vs_assignT, vs_assignA, vs_assignS, vs_expr, vs_ifS, vs_forS, vs_whileS, vs_ret0, vs_ret, setMany, setS, getS, initR, List.replicate, bindT, bindTs, unpackV, List.length_cons, List.length_nil]
  refine comp_pure (α := Int × Int) d prP (fun p => if k ≤ p.2 then some (prP (if p.1 < k then k else p.1, p.2)) else none) rfl hd (fun p _ kk hk => ?_) ?_
  · ((try dsimp only [prP, vk_nil, vk_cons, vl_nil, vl_cons, vf_nil, vf_cons, vo_none, vo_some, vt_one, vt_more, vi_seq, oo_int, oo_lst, vi_range1, vi_range2, vi_zip, vi_enum, vb_bnot, vb_band, vb_bor, vb_ite, vb_cmp, vb_chain, vb_const, vb_loc, vb_bin, vb_neg, vb_tup, vb_lst, vb_sub, vb_slice, vb_attr, vb_call, vb_bi, vb_meth, ve_dead, ve_const, ve_loc, ve_bin, ve_neg, ve_cmp, ve_band, ve_bor, ve_bnot, ve_ite, ve_tup, ve_lst, ve_dict0, ve_sdict2, ve_sub, ve_slice, ve_attr, ve_call, ve_bi, ve_sortset, ve_append, ve_pop, ve_meth, ve_comp, vs_dead, vs_assign1, vs_assignT, vs_assignA, vs_assignS, vs_expr, vs_ifS, vs_forS, vs_whileS, vs_ret0, vs_ret, setMany, setS, getS, initR, List.replicate, bindT, bindTs, unpackV, List.length_cons, List.length_nil, cv_lt, cv_le, cv_gt, cv_ge, cv_eq, cv_ne, cv_in, cv_isn, cv_isl, cv_ist, cv_isr]); simp only [prP, vk_nil, vk_cons, vl_nil, vl_cons, vf_nil, vf_cons, vo_none, vo_some, vt_one, vt_more, vi_seq, oo_int, oo_lst, vi_range1, vi_range2, vi_zip, vi_enum, vb_bnot, vb_band, vb_bor, vb_ite, vb_cmp, vb_chain, vb_const, vb_loc, vb_bin, vb_neg, vb_tup, vb_lst, vb_sub, vb_slice, vb_attr, vb_call, vb_bi, vb_meth, ve_dead, ve_const, ve_loc, ve_bin, ve_neg, ve_cmp, ve_band, ve_bor, ve_bnot, ve_ite, ve_tup, ve_lst, ve_dict0, ve_sdict2, ve_sub, ve_slice, ve_attr, ve_call, ve_bi, ve_sortset, ve_append, ve_pop, ve_meth, ve_comp, vs_dead, vs_assign1, vs_assignT, vs_assignA, vs_assignS, vs_expr, vs_ifS, vs_forS, vs_whileS, vs_ret0, vs_ret, setMany, setS, getS, initR, List.replicate, bindT, bindTs, unpackV, List.length_cons, List.length_nil, cv_lt, cv_le, cv_gt, cv_ge, cv_eq, cv_ne, cv_in, cv_isn, cv_isl, cv_ist, cv_isr, true_and])
    by_cases c : k ≤ p.2
    · rw [if_pos c] at hk
      simp only [c, decide_true, if_true, bi_len, bi_min2, bi_max2, bi_minT, bi_sum, bi_sorted, bi_list, bi_tuple, bi_all]
      exact hk
    · rw [if_neg c] at hk
      simp only [c, decide_false, Bool.false_eq_true, if_false]
      exact hk
  · refine newL_lst (filterMap_len _ _ hd) ?_
    simp only [bi_len, bi_min2, bi_max2, bi_minT, bi_sum, bi_sorted, bi_list, bi_tuple, bi_all, dr_ref, dr_lst, dr_tup, dr_int, dr_str, dr_none, dr_bool, dr_obj]
    refine ⟨filterMap_len _ _ hd, ret_done ?_⟩
    have e : (d.filterMap fun p => if k ≤ p.2 then some (prP (if p.1 < k then k else p.1, p.2)) else none) = (fromD d k).map prP := by
      unfold fromD
      rw [List.map_filterMap]
      congr 1
      funext p
      split <;> rfl
    rw [e]
    exact h
theorem uptoD_len (d : Dom) (k : Int) : (uptoD d k).length ≤ d.length := List.length_filterMap_le _ _
theorem fromD_len (d : Dom) (k : Int) : (fromD d k).length ≤ d.length := List.length_filterMap_le _ _
theorem c_without (P : PR Γ) {d : Dom} {v : Int} (hd : d.length ≤ 1000) (h : Q (dP (withoutD d v)) μ) : CallT Γ (n + 2) (.ref 109) [dP d, .int v] μ Q := by
  have hb : (1000 : Nat) ≤ big := by decide
  refine FN.call P.gt P.f109 rfl ?_
  dsimp only [m_without, vk_nil, vk_cons, vl_nil, vl_cons, vf_nil, vf_cons, vo_none, vo_some, vt_one, vt_more, vi_seq, oo_int, oo_lst, vi_range1, vi_range2, vi_zip, vi_enum, vb_bnot, vb_band, vb_bor, vb_ite, vb_cmp, vb_chain, vb_const, vb_loc, vb_bin, vb_neg, vb_tup, vb_lst, vb_sub, vb_slice, vb_attr, vb_call, vb_bi, vb_meth, ve_dead, ve_const, ve_loc, ve_bin, ve_neg, ve_cmp, ve_band, ve_bor, ve_bnot, ve_ite, ve_tup, ve_lst, ve_dict0, ve_sdict2, ve_sub, ve_slice, ve_attr, ve_call, ve_bi, ve_sortset, ve_append, ve_pop, ve_meth, ve_comp, vs_dead, vs_assign1, vs_assignT, vs_assignA, vs_assignS, vs_expr, vs_ifS, vs_forS, vs_whileS, vs_ret0, vs_ret, setMany, setS, getS, initR, List.replicate, bindT, bindTs, unpackV, List.length_cons, List.length_nil, bv_add, bv_sub, bv_mul, bv_mod, bv_tup, bv_lst]
  refine c_up_to P (by omega) (c_from_on P (by omega) ?_)
  have h1 := uptoD_len d (v - 1)
  have h2 := fromD_len d (v + 1)
  simp only [dP, bv_add, bv_sub, bv_mul, bv_mod, bv_tup, bv_lst]
  refine ⟨by simp only [List.length_map]; unfold big; omega, ret_done ?_⟩
  rw [← List.map_append]
  exact h
noncomputable def litP (x : Int) (sg : Str) (k : Int) : PV := .tup [.int x, .str sg, .int k]
noncomputable def struckD (sg : Str) (k : Int) (d : Dom) : Dom := if sg = "<=" then uptoD d k else if sg = ">=" then fromD d k else withoutD d k
theorem c_struck (P : PR Γ) {x k : Int} {sg : Str} {d : Dom} (hs : sg = "<=" ∨ sg = ">=" ∨ sg = "!=") (hd : d.length ≤ 1000) (h : Q (dP (struckD sg k d)) μ) : CallT Γ (n + 3) (.ref 130) [litP x sg k, dP d] μ Q := by
  have hb : (1000 : Nat) ≤ big := by decide
  refine FN.call P.gt P.f130 rfl ?_
  dsimp only [m_struck, vk_nil, vk_cons, vl_nil, vl_cons, vf_nil, vf_cons, vo_none, vo_some, vt_one, vt_more, vi_seq, oo_int, oo_lst, vi_range1, vi_range2, vi_zip, vi_enum, vb_bnot, vb_band, vb_bor, vb_ite, vb_cmp, vb_chain, vb_const, vb_loc, vb_bin, vb_neg, vb_tup, vb_lst, vb_sub, vb_slice, vb_attr, vb_call, vb_bi, vb_meth, ve_dead, ve_const, ve_loc, ve_bin, ve_neg, ve_cmp, ve_band, ve_bor, ve_bnot, ve_ite, ve_tup, ve_lst, ve_dict0, ve_sdict2, ve_sub, ve_slice, ve_attr, ve_call, ve_bi, ve_sortset, ve_append, ve_pop, ve_meth, ve_comp, vs_dead, vs_assign1, vs_assignT, vs_assignA, vs_assignS, vs_expr, vs_ifS, vs_forS, vs_whileS, vs_ret0, vs_ret, setMany, setS, getS, initR, List.replicate, bindT, bindTs, unpackV, List.length_cons, List.length_nil]
  refine sub_tup (v := .str sg) (by decide) rfl (sub_tup (v := .int k) (by decide) rfl ?_)
  ((try dsimp only [vk_nil, vk_cons, vl_nil, vl_cons, vf_nil, vf_cons, vo_none, vo_some, vt_one, vt_more, vi_seq, oo_int, oo_lst, vi_range1, vi_range2, vi_zip, vi_enum, vb_bnot, vb_band, vb_bor, vb_ite, vb_cmp, vb_chain, vb_const, vb_loc, vb_bin, vb_neg, vb_tup, vb_lst, vb_sub, vb_slice, vb_attr, vb_call, vb_bi, vb_meth, ve_dead, ve_const, ve_loc, ve_bin, ve_neg, ve_cmp, ve_band, ve_bor, ve_bnot, ve_ite, ve_tup, ve_lst, ve_dict0, ve_sdict2, ve_sub, ve_slice, ve_attr, ve_call, ve_bi, ve_sortset, ve_append, ve_pop, ve_meth, ve_comp, vs_dead, vs_assign1, vs_assignT, vs_assignA, vs_assignS, vs_expr, vs_ifS, vs_forS, vs_whileS, vs_ret0, vs_ret, setMany, setS, getS, initR, List.replicate, bindT, bindTs, unpackV, List.length_cons, List.length_nil, cv_lt, cv_le, cv_gt, cv_ge, cv_eq, cv_ne, cv_in, cv_isn, cv_isl, cv_ist, cv_isr, dr_ref, dr_lst, dr_tup, dr_int, dr_str, dr_none, dr_bool, dr_obj, ev_int, ev_str, ev_nil]); simp only [vk_nil, vk_cons, vl_nil, vl_cons, vf_nil, vf_cons, vo_none, vo_some, vt_one, vt_more, vi_seq, oo_int, oo_lst, vi_range1, vi_range2, vi_zip, vi_enum, vb_bnot, vb_band, vb_bor, vb_ite, vb_cmp, vb_chain, vb_const, vb_loc, vb_bin, vb_neg, vb_tup, vb_lst, vb_sub, vb_slice, vb_attr, vb_call, vb_bi, vb_meth, ve_dead, ve_const, ve_loc, ve_bin, ve_neg, ve_cmp, ve_band, ve_bor, ve_bnot, ve_ite, ve_tup, ve_lst, ve_dict0, ve_sdict2, ve_sub, ve_slice, ve_attr, ve_call, ve_bi, ve_sortset, ve_append, ve_pop, ve_meth, ve_comp, vs_dead, vs_assign1, vs_assignT, vs_assignA, vs_assignS, vs_expr, vs_ifS, vs_forS, vs_whileS, vs_ret0, vs_ret, setMany, setS, getS, initR, List.replicate, bindT, bindTs, unpackV, List.length_cons, List.length_nil, true_and, cv_lt, cv_le, cv_gt, cv_ge, cv_eq, cv_ne, cv_in, cv_isn, cv_isl, cv_ist, cv_isr, dr_ref, dr_lst, dr_tup, dr_int, dr_str, dr_none, dr_bool, dr_obj, ev_int, ev_str, ev_nil])
  rcases hs with rfl | rfl | rfl
  · simp only [beq_self_eq_true, if_true]
    exact c_up_to P (by omega) (ret_done (by simpa [struckD] using h))
  · have e : ((">=" : Str) == ("<=" : Str)) = false := by decide
    simp only [e, Bool.false_eq_true, if_false, beq_self_eq_true, if_true]
    exact c_from_on P (by omega) (ret_done (by rw [struckD, if_neg (by decide), if_pos rfl] at h; exact h))
  · have e : (("!=" : Str) == ("<=" : Str)) = false := by decide
    have e2 : (("!=" : Str) == (">=" : Str)) = false := by decide
    have e3 : (("!=" : Str) == ("=" : Str)) = false := by decide
    simp only [e, e2, e3, Bool.false_eq_true, if_false]
    exact c_without P (by omega) (ret_done (by rw [struckD, if_neg (by decide), if_neg (by decide)] at h; exact h))
end
end Mine

open PySem PySem.Calls PyProof.Rows PySem.W
set_option maxRecDepth 100000
set_option linter.unusedVariables false
set_option linter.unusedSimpArgs false
set_option backward.match.sparseCases false
namespace Mine

noncomputable def putB (l : Dom) (lo hi : Int) : Dom := match l.reverse with
  | [] => [(lo, hi)]
  | (x, y) :: r => if lo ≤ y + 1 then (if y < hi then r.reverse ++ [(x, hi)] else l) else l ++ [(lo, hi)]
theorem putB_nil (lo hi : Int) : putB [] lo hi = [(lo, hi)] := rfl
theorem putB_snoc (r : Dom) (x y lo hi : Int) : putB (r ++ [(x, y)]) lo hi = if lo ≤ y + 1 then (if y < hi then r ++ [(x, hi)] else r ++ [(x, y)]) else (r ++ [(x, y)]) ++ [(lo, hi)] := by
  unfold putB
  simp
theorem snoc_cases {α : Type} (l : List α) : l = [] ∨ ∃ r x, l = r ++ [x] := by
  rcases List.eq_nil_or_concat l with h | ⟨r, x, h⟩
  · exact .inl h
  · exact .inr ⟨r, x, by simpa using h⟩
theorem putB_len (l : Dom) (lo hi : Int) : (putB l lo hi).length ≤ l.length + 1 := by
  rcases snoc_cases l with rfl | ⟨r, ⟨x, y⟩, rfl⟩
  · simp [putB]
  · rw [putB_snoc]
    split
    · split <;> simp
    · simp
theorem Mu.set_at {μ : Mu} {a : Addr} {m : MO} : (μ.set a m) a = some m := Mu.set_self

section
variable {Γ : Gl} {n : Nat} {μ : Mu} {Q : PV → Mu → Prop}
theorem c_put_behind (P : PR Γ) {a : Addr} {l : Dom} {lo hi : Int} (hm : μ a = some (.list (l.map prP))) (hl : l.length ≤ 1000) (h : Q .none (μ.set a (.list ((putB l lo hi).map prP)))) : CallT Γ (n + 1) (.ref 57) [.ref a, .int lo, .int hi] μ Q := by
  have hb : big = 100000 := rfl
  refine FN.call P.gt P.f57 rfl ?_
  ((try dsimp only [m_put_behind, vk_nil, vk_cons, vl_nil, vl_cons, vf_nil, vf_cons, vo_none, vo_some, vt_one, vt_more, vi_seq, oo_int, oo_lst, vi_range1, vi_range2, vi_zip, vi_enum, vb_bnot, vb_band, vb_bor, vb_ite, vb_cmp, vb_chain, vb_const, vb_loc, vb_bin, vb_neg, vb_tup, vb_lst, vb_sub, vb_slice, vb_attr, vb_call, vb_bi, vb_meth, ve_dead, ve_const, ve_loc, ve_bin, ve_neg, ve_cmp, ve_band, ve_bor, ve_bnot, ve_ite, ve_tup, ve_lst, ve_dict0, ve_sdict2, ve_sub, ve_slice, ve_attr, ve_call, ve_bi, ve_sortset, ve_append, ve_pop, ve_meth, ve_comp, vs_dead, vs_assign1, vs_assignT, vs_assignA, vs_assignS, vs_expr, vs_ifS, vs_forS, vs_whileS, vs_ret0, vs_ret, setMany, setS, getS, initR, List.replicate, bindT, bindTs, unpackV, List.length_cons, List.length_nil, bi_len, bi_min2, bi_max2, bi_minT, bi_sum, bi_sorted, bi_list, bi_tuple, bi_all, dr_ref, dr_lst, dr_tup, dr_int, dr_str, dr_none, dr_bool, dr_obj, cv_lt, cv_le, cv_gt, cv_ge, cv_eq, cv_ne, cv_in, cv_isn, cv_isl, cv_ist, cv_isr]); simp only [m_put_behind, vk_nil, vk_cons, vl_nil, vl_cons, vf_nil, vf_cons, vo_none, vo_some, vt_one, vt_more, vi_seq, oo_int, oo_lst, vi_range1, vi_range2, vi_zip, vi_enum, vb_bnot, vb_band, vb_bor, vb_ite, vb_cmp, vb_chain, vb_const, vb_loc, vb_bin, vb_neg, vb_tup, vb_lst, vb_sub, vb_slice, vb_attr, vb_call, vb_bi, vb_meth, ve_dead, ve_const, ve_loc, ve_bin, ve_neg, ve_cmp, ve_band, ve_bor, ve_bnot, ve_ite, ve_tup, ve_lst, ve_dict0, ve_sdict2, ve_sub, ve_slice, ve_attr, ve_call, ve_bi, ve_sortset, ve_append, ve_pop, ve_meth, ve_comp, vs_dead, vs_assign1, vs_assignT, vs_assignA, vs_assignS, vs_expr, vs_ifS, vs_forS, vs_whileS, vs_ret0, vs_ret, setMany, setS, getS, initR, List.replicate, bindT, bindTs, unpackV, List.length_cons, List.length_nil, bi_len, bi_min2, bi_max2, bi_minT, bi_sum, bi_sorted, bi_list, bi_tuple, bi_all, dr_ref, dr_lst, dr_tup, dr_int, dr_str, dr_none, dr_bool, dr_obj, hm, cv_lt, cv_le, cv_gt, cv_ge, cv_eq, cv_ne, cv_in, cv_isn, cv_isl, cv_ist, cv_isr])
  rcases snoc_cases l with rfl | ⟨r, ⟨x, y⟩, rfl⟩
  · refine ⟨by simp, ?_⟩
    simp only [List.map_nil, List.length_nil]
    rw [if_neg (by simp), if_neg (by simp)]
    refine ⟨.mk hm, .mk hm (by simp) (next_done ?_)⟩
    rw [putB_nil] at h
    exact h
  · refine ⟨by simp at hl ⊢; omega, ?_⟩
    have hlen : decide ((0 : Int) < ((r ++ [(x, y)]).map prP).length) = true := by simp
    rw [hlen, if_pos rfl]
    have hm' : μ a = some (.list (r.map prP ++ [prP (x, y)])) := by rw [hm]; simp
    have last : ∀ k : PV → Prop, k (prP (x, y)) → subV (.ref a) (.int (-1)) μ k := fun k hk => sub_ref hm' (by decide) itemAt_last hk
    have snd : ∀ k : PV → Prop, k (.int y) → subV (prP (x, y)) (.int 1) μ k := fun k hk => sub_tup (v := .int y) (by decide) rfl hk
    refine last _ (snd _ ?_)
    simp only [bv_add, bv_sub, bv_mul, bv_mod, bv_tup, bv_lst, cv_lt, cv_le, cv_gt, cv_ge, cv_eq, cv_ne, cv_in, cv_isn, cv_isl, cv_ist, cv_isr]
    rw [putB_snoc] at h
    by_cases c : lo ≤ y + 1
    · rw [if_pos c] at h
      simp only [c, decide_true, if_true]
      refine last _ (snd _ ?_)
      by_cases c2 : y < hi
      · rw [if_pos c2] at h
        simp only [cv_lt, cv_le, cv_gt, cv_ge, cv_eq, cv_ne, cv_in, cv_isn, cv_isl, cv_ist, cv_isr, c2, decide_true, if_true]
        refine last _ (sub_tup (v := .int x) (by decide) rfl ?_)
        refine .list (n := r.length) hm' (by rw [if_neg (by decide)]; simp; omega) (by simp) (by simp at hl ⊢; omega) (next_done ?_)
        have e : (r.map prP ++ [prP (x, y)]).set r.length (PV.tup [.int x, .int hi]) = (r ++ [(x, hi)]).map prP := by
          have : r.length = (r.map prP).length := by simp
          rw [this, List.set_append_right _ _ (Nat.le_refl _)]
          simp [prP]
        rw [e]; exact h
      · rw [if_neg c2] at h
        simp only [cv_lt, cv_le, cv_gt, cv_ge, cv_eq, cv_ne, cv_in, cv_isn, cv_isl, cv_ist, cv_isr, c2, decide_false, Bool.false_eq_true, if_false]
        refine next_done ?_
        have e : μ.set a (.list ((r ++ [(x, y)]).map prP)) = μ := by
          funext b
          by_cases hb : b = a
          · subst hb; rw [Mu.set_self, hm]
          · rw [Mu.set_ne hb]
        rw [e] at h; exact h
    · rw [if_neg c] at h
      simp only [c, decide_false, Bool.false_eq_true, if_false]
      refine ⟨.mk hm, .mk hm (by simp at hl ⊢; omega) (next_done ?_)⟩
      have e : (r ++ [(x, y)]).map prP ++ [PV.tup [.int lo, .int hi]] = ((r ++ [(x, y)]) ++ [(lo, hi)]).map prP := by simp [prP]
      rw [e]; exact h

noncomputable def fromVals (ns : List Int) : Dom := (sortI ns).foldl (fun d v => putB d v v) []
theorem foldB_len : ∀ (ns : List Int) (d : Dom), (ns.foldl (fun d v => putB d v v) d).length ≤ d.length + ns.length
  | [], d => by simp
  | v :: r, d => by
    have := foldB_len r (putB d v v)
    have := putB_len d v v
    simp only [List.foldl_cons, List.length_cons]
    omega
theorem sortI_len (l : List Int) : (sortI l).length = l.length := (sortI_perm l).length_eq
theorem intsP_map (ns : List Int) : intsP (ns.map PV.int) = some ns := by
  induction ns with
  | nil => rfl
  | cons a r ih => exact congrArg (Option.map (a :: ·)) ih
theorem c_from_values (P : PR Γ) {ns : List Int} (hl : ns.length ≤ 60) (h : Q (dP (fromVals ns)) μ) : CallT Γ (n + 2) (.ref 64) [.lst (ns.map .int)] μ Q := by
  have hb : big = 100000 := rfl
  refine FN.call P.gt P.f64 rfl ?_
  dsimp only [m_from_values, vk_nil, vk_cons, vl_nil, vl_cons, vf_nil, vf_cons, vo_none, vo_some, vt_one, vt_more, vi_seq, oo_int, oo_lst, vi_range1, vi_range2, vi_zip, vi_enum, vb_bnot, vb_band, vb_bor, vb_ite, vb_cmp, vb_chain, vb_const, vb_loc, vb_bin, vb_neg, vb_tup, vb_lst, vb_sub, vb_slice, vb_attr, vb_call, vb_bi, vb_meth, ve_dead, ve_const, ve_loc, ve_bin, ve_neg, ve_cmp, ve_band, ve_bor, ve_bnot, ve_ite, ve_tup, ve_lst, ve_dict0, ve_sdict2, ve_sub, ve_slice, ve_attr, ve_call, ve_bi, ve_sortset, ve_append, ve_pop, ve_meth, ve_comp, vs_dead, vs_assign1, vs_assignT, vs_assignA, vs_assignS, vs_expr, vs_ifS, vs_forS, vs_whileS, vs_ret0, vs_ret, setMany, setS, getS, initR, List.replicate, bindT, bindTs, unpackV, List.length_cons, List.length_nil]
  refine newL_ref (by simp) fun a ha => ?_
  simp only [bi_len, bi_min2, bi_max2, bi_minT, bi_sum, bi_sorted, bi_list, bi_tuple, bi_all]
  refine ⟨ns, intsP_map ns, by simpa using hl, newL_lst (by rw [List.length_map, sortI_len]; omega) ?_⟩
  refine for_rule (by rw [List.length_map, sortI_len]; omega) (fun i ρ' μ' => (∃ w, ρ' = [some (.lst (ns.map .int)), some (.ref a), w, none, none, none]) ∧ μ' = μ.set a (.list ((((sortI ns).take i).foldl (fun d v => putB d v v) []).map prP))) (⟨⟨none, rfl⟩, by simp⟩) (fun i x ρ' μ' hx hJ => ?_) fun ρ' μ' hJ => ?_
  · obtain ⟨⟨w, rfl⟩, rfl⟩ := hJ
    rw [nth_eq, List.getElem?_map] at hx
    cases hv : (sortI ns)[i]? with
    | none => rw [hv] at hx; cases hx
    | some v =>
      rw [hv] at hx
      cases hx
      have hi : i < (sortI ns).length := (List.getElem?_eq_some_iff.mp hv).1
      dsimp only [vk_nil, vk_cons, vl_nil, vl_cons, vf_nil, vf_cons, vo_none, vo_some, vt_one, vt_more, vi_seq, oo_int, oo_lst, vi_range1, vi_range2, vi_zip, vi_enum, vb_bnot, vb_band, vb_bor, vb_ite, vb_cmp, vb_chain, vb_const, vb_loc, vb_bin, vb_neg, vb_tup, vb_lst, vb_sub, vb_slice, vb_attr, vb_call, vb_bi, vb_meth, ve_dead, ve_const, ve_loc, ve_bin, ve_neg, ve_cmp, ve_band, ve_bor, ve_bnot, ve_ite, ve_tup, ve_lst, ve_dict0, ve_sdict2, ve_sub, ve_slice, ve_attr, ve_call, ve_bi, ve_sortset, ve_append, ve_pop, ve_meth, ve_comp, vs_dead, vs_assign1, vs_assignT, vs_assignA, vs_assignS, vs_expr, vs_ifS, vs_forS, vs_whileS, vs_ret0, vs_ret, setMany, setS, getS, initR, List.replicate, bindT, bindTs, unpackV, List.length_cons, List.length_nil]
      have fl := foldB_len ((sortI ns).take i) []
      have tl : ((sortI ns).take i).length ≤ 60 := by rw [List.length_take, sortI_len]; omega
      refine c_put_behind P (l := ((sortI ns).take i).foldl (fun d v => putB d v v) []) Mu.set_self (by simp only [List.length_nil] at fl; omega) (FZ.done ⟨⟨_, rfl⟩, ?_⟩)
      rw [Mu.set_set, List.take_add_one, hv]
      simp
  · obtain ⟨⟨w, rfl⟩, rfl⟩ := hJ
    ((try dsimp only [vk_nil, vk_cons, vl_nil, vl_cons, vf_nil, vf_cons, vo_none, vo_some, vt_one, vt_more, vi_seq, oo_int, oo_lst, vi_range1, vi_range2, vi_zip, vi_enum, vb_bnot, vb_band, vb_bor, vb_ite, vb_cmp, vb_chain, vb_const, vb_loc, vb_bin, vb_neg, vb_tup, vb_lst, vb_sub, vb_slice, vb_attr, vb_call, vb_bi, vb_meth, ve_dead, ve_const, ve_loc, ve_bin, ve_neg, ve_cmp, ve_band, ve_bor, ve_bnot, ve_ite, ve_tup, ve_lst, ve_dict0, ve_sdict2, ve_sub, ve_slice, ve_attr, ve_call, ve_bi, ve_sortset, ve_append, ve_pop, ve_meth, ve_comp, vs_dead, vs_assign1, vs_assignT, vs_assignA, vs_assignS, vs_expr, vs_ifS, vs_forS, vs_whileS, vs_ret0, vs_ret, setMany, setS, getS, initR, List.replicate, bindT, bindTs, unpackV, List.length_cons, List.length_nil, bi_len, bi_min2, bi_max2, bi_minT, bi_sum, bi_sorted, bi_list, bi_tuple, bi_all, dr_ref, dr_lst, dr_tup, dr_int, dr_str, dr_none, dr_bool, dr_obj]); simp only [vk_nil, vk_cons, vl_nil, vl_cons, vf_nil, vf_cons, vo_none, vo_some, vt_one, vt_more, vi_seq, oo_int, oo_lst, vi_range1, vi_range2, vi_zip, vi_enum, vb_bnot, vb_band, vb_bor, vb_ite, vb_cmp, vb_chain, vb_const, vb_loc, vb_bin, vb_neg, vb_tup, vb_lst, vb_sub, vb_slice, vb_attr, vb_call, vb_bi, vb_meth, ve_dead, ve_const, ve_loc, ve_bin, ve_neg, ve_cmp, ve_band, ve_bor, ve_bnot, ve_ite, ve_tup, ve_lst, ve_dict0, ve_sdict2, ve_sub, ve_slice, ve_attr, ve_call, ve_bi, ve_sortset, ve_append, ve_pop, ve_meth, ve_comp, vs_dead, vs_assign1, vs_assignT, vs_assignA, vs_assignS, vs_expr, vs_ifS, vs_forS, vs_whileS, vs_ret0, vs_ret, setMany, setS, getS, initR, List.replicate, bindT, bindTs, unpackV, List.length_cons, List.length_nil, bi_len, bi_min2, bi_max2, bi_minT, bi_sum, bi_sorted, bi_list, bi_tuple, bi_all, dr_ref, dr_lst, dr_tup, dr_int, dr_str, dr_none, dr_bool, dr_obj, Mu.set_self])
    have fl := foldB_len (sortI ns) []
    have el : (sortI ns).take ((sortI ns).map PV.int).length = sortI ns := by simp
    rw [el]
    refine ⟨by simp only [List.length_nil] at fl; rw [sortI_len] at fl; simp only [List.length_map]; omega, ?_⟩
    refine FZ.drop a (by rw [Mu.set_self]; rfl) (FZ.done ⟨_, rfl, ?_⟩)
    rw [Mu.del_set ha]
    exact h
end
end Mine

open PySem PySem.Calls PyProof.Rows PySem.W
set_option maxRecDepth 100000
set_option linter.unusedVariables false
set_option linter.unusedSimpArgs false
set_option backward.match.sparseCases false
namespace Mine

noncomputable def feedMO (cs : List Int) (k : Nat) : MO := .sdict [("cells", .lst (cs.map .int)), ("at", .int k)]
theorem mulOk {a b : Int} (h : a.natAbs < 2 ^ 60) : IntMulOk a b := by
  apply IntMulOk.of_left
  unfold Builtin.Int.intBits
  split
  · omega
  · rename_i hz
    have h0 : a.natAbs ≠ 0 := by simpa using hz
    have := (Nat.log2_lt h0).mpr h
    omega
theorem ca : ¬ (("cells" : Str) = ("at" : Str)) := by decide
section
variable {Γ : Gl} {n : Nat} {μ : Mu} {Q : PV → Mu → Prop}
theorem sub_str {a : Addr} {es : List (Str × PV)} {x : Str} {v : PV} {k : PV → Prop} (hm : μ a = some (.sdict es)) (h : lookS x es = some v) (hk : k v) : subV (.ref a) (.str x) μ k := .sdict hm h hk
theorem fmod_range {a m : Int} (h : 0 < m) : 0 ≤ a.fmod m ∧ a.fmod m < m := ⟨Int.fmod_nonneg_of_pos a h, Int.fmod_lt_of_pos a h⟩
theorem c_draw (P : PR Γ) {f : Addr} {cs : List Int} {k : Nat} {many : Int} (hf : μ f = some (feedMO cs k)) (hc : cs.length ≤ 60) (hk : k ≤ 100000) (hm : 0 < many) (h : ∀ r, 0 ≤ r → r < many → Q (.int r) (μ.set f (feedMO cs (k + 1)))) :
    CallT Γ (n + 1) (.ref 434) [.ref f, .int many] μ Q := by
  have hb : big = 100000 := rfl
  refine FN.call P.gt P.f434 rfl ?_
  unfold feedMO at hf
  dsimp only [m_law_draw, vk_nil, vk_cons, vl_nil, vl_cons, vf_nil, vf_cons, vo_none, vo_some, vt_one, vt_more, vi_seq, oo_int, oo_lst, vi_range1, vi_range2, vi_zip, vi_enum, vb_bnot, vb_band, vb_bor, vb_ite, vb_cmp, vb_chain, vb_const, vb_loc, vb_bin, vb_neg, vb_tup, vb_lst, vb_sub, vb_slice, vb_attr, vb_call, vb_bi, vb_meth, ve_dead, ve_const, ve_loc, ve_bin, ve_neg, ve_cmp, ve_band, ve_bor, ve_bnot, ve_ite, ve_tup, ve_lst, ve_dict0, ve_sdict2, ve_sub, ve_slice, ve_attr, ve_call, ve_bi, ve_sortset, ve_append, ve_pop, ve_meth, ve_comp, vs_dead, vs_assign1, vs_assignT, vs_assignA, vs_assignS, vs_expr, vs_ifS, vs_forS, vs_whileS, vs_ret0, vs_ret, setMany, setS, getS, initR, List.replicate, bindT, bindTs, unpackV, List.length_cons, List.length_nil]
  refine sub_str hf (v := .int k) (by simp [lookS, ca]) (sub_str hf (v := .lst (cs.map .int)) (by simp [lookS]) ?_)
  dsimp only [vk_nil, vk_cons, vl_nil, vl_cons, vf_nil, vf_cons, vo_none, vo_some, vt_one, vt_more, vi_seq, oo_int, oo_lst, vi_range1, vi_range2, vi_zip, vi_enum, vb_bnot, vb_band, vb_bor, vb_ite, vb_cmp, vb_chain, vb_const, vb_loc, vb_bin, vb_neg, vb_tup, vb_lst, vb_sub, vb_slice, vb_attr, vb_call, vb_bi, vb_meth, ve_dead, ve_const, ve_loc, ve_bin, ve_neg, ve_cmp, ve_band, ve_bor, ve_bnot, ve_ite, ve_tup, ve_lst, ve_dict0, ve_sdict2, ve_sub, ve_slice, ve_attr, ve_call, ve_bi, ve_sortset, ve_append, ve_pop, ve_meth, ve_comp, vs_dead, vs_assign1, vs_assignT, vs_assignA, vs_assignS, vs_expr, vs_ifS, vs_forS, vs_whileS, vs_ret0, vs_ret, setMany, setS, getS, initR, List.replicate, bindT, bindTs, unpackV, List.length_cons, List.length_nil, bv_add, bv_sub, bv_mul, bv_mod, bv_tup, bv_lst]
  refine ⟨rfl, .sdict hf (show 2 ≤ big by decide) ?_⟩
  have ep : putS ("at" : Str) (PV.int ((k : Int) + 1)) [(("cells" : Str), PV.lst (cs.map .int)), (("at" : Str), PV.int (k : Int))] = ([(("cells" : Str), PV.lst (cs.map .int)), (("at" : Str), PV.int ((k + 1 : Nat) : Int))] : List (Str × PV)) := by
    simp [putS, ca]
  rw [ep]
  dsimp only [vk_nil, vk_cons, vl_nil, vl_cons, vf_nil, vf_cons, vo_none, vo_some, vt_one, vt_more, vi_seq, oo_int, oo_lst, vi_range1, vi_range2, vi_zip, vi_enum, vb_bnot, vb_band, vb_bor, vb_ite, vb_cmp, vb_chain, vb_const, vb_loc, vb_bin, vb_neg, vb_tup, vb_lst, vb_sub, vb_slice, vb_attr, vb_call, vb_bi, vb_meth, ve_dead, ve_const, ve_loc, ve_bin, ve_neg, ve_cmp, ve_band, ve_bor, ve_bnot, ve_ite, ve_tup, ve_lst, ve_dict0, ve_sdict2, ve_sub, ve_slice, ve_attr, ve_call, ve_bi, ve_sortset, ve_append, ve_pop, ve_meth, ve_comp, vs_dead, vs_assign1, vs_assignT, vs_assignA, vs_assignS, vs_expr, vs_ifS, vs_forS, vs_whileS, vs_ret0, vs_ret, setMany, setS, getS, initR, List.replicate, bindT, bindTs, unpackV, List.length_cons, List.length_nil, bi_len, bi_min2, bi_max2, bi_minT, bi_sum, bi_sorted, bi_list, bi_tuple, bi_all, dr_ref, dr_lst, dr_tup, dr_int, dr_str, dr_none, dr_bool, dr_obj, cv_lt, cv_le, cv_gt, cv_ge, cv_eq, cv_ne, cv_in, cv_isn, cv_isl, cv_ist, cv_isr]
  refine ⟨by simp; omega, ?_⟩
  have lc : ((cs.map PV.int).length : Int) = cs.length := by simp
  rw [lc]
  by_cases c : (k : Int) < cs.length
  · simp only [c, decide_true, if_true]
    have hk' : k < cs.length := by omega
    refine sub_lst (v := .int cs[k]) (by rw [Int.natAbs_natCast]; omega) (itemAt_nat (by simp [hk'])) ?_
    simp only [bv_add, bv_sub, bv_mul, bv_mod, bv_tup, bv_lst]
    obtain ⟨h1, h2⟩ := fmod_range (a := cs[k]) hm
    exact ⟨by omega, ret_done (h _ h1 h2)⟩
  · simp only [c, decide_false, Bool.false_eq_true, if_false, bv_add, bv_sub, bv_mul, bv_mod, bv_tup, bv_lst]
    refine ⟨mulOk (by decide), mulOk (by omega), mulOk (by decide), ?_⟩
    obtain ⟨h1, h2⟩ := fmod_range (a := (7 * (k : Int) * k + 11 * k + 3 * (cs.length : Int) + 5).fmod 97) hm
    exact ⟨by rw [List.length_map]; omega, mulOk (by decide), by decide, by omega, ret_done (h _ h1 h2)⟩

noncomputable def barsL (sg : Str) (k v : Int) : Bool := if sg = "<=" then decide (k < v) else if sg = ">=" then decide (v < k) else v == k
theorem c_bars (P : PR Γ) {x k v : Int} {sg : Str} (hs : sg = "<=" ∨ sg = ">=" ∨ sg = "!=") (h : Q (.bool (barsL sg k v)) μ) : CallT Γ (n + 1) (.ref 441) [litP x sg k, .int v] μ Q := by
  refine FN.call P.gt P.f441 rfl ?_
  ((try dsimp only [m_law_bars, litP, vk_nil, vk_cons, vl_nil, vl_cons, vf_nil, vf_cons, vo_none, vo_some, vt_one, vt_more, vi_seq, oo_int, oo_lst, vi_range1, vi_range2, vi_zip, vi_enum, vb_bnot, vb_band, vb_bor, vb_ite, vb_cmp, vb_chain, vb_const, vb_loc, vb_bin, vb_neg, vb_tup, vb_lst, vb_sub, vb_slice, vb_attr, vb_call, vb_bi, vb_meth, ve_dead, ve_const, ve_loc, ve_bin, ve_neg, ve_cmp, ve_band, ve_bor, ve_bnot, ve_ite, ve_tup, ve_lst, ve_dict0, ve_sdict2, ve_sub, ve_slice, ve_attr, ve_call, ve_bi, ve_sortset, ve_append, ve_pop, ve_meth, ve_comp, vs_dead, vs_assign1, vs_assignT, vs_assignA, vs_assignS, vs_expr, vs_ifS, vs_forS, vs_whileS, vs_ret0, vs_ret, setMany, setS, getS, initR, List.replicate, bindT, bindTs, unpackV, List.length_cons, List.length_nil, cv_lt, cv_le, cv_gt, cv_ge, cv_eq, cv_ne, cv_in, cv_isn, cv_isl, cv_ist, cv_isr, dr_ref, dr_lst, dr_tup, dr_int, dr_str, dr_none, dr_bool, dr_obj, ev_int, ev_str, ev_nil]); simp only [m_law_bars, litP, vk_nil, vk_cons, vl_nil, vl_cons, vf_nil, vf_cons, vo_none, vo_some, vt_one, vt_more, vi_seq, oo_int, oo_lst, vi_range1, vi_range2, vi_zip, vi_enum, vb_bnot, vb_band, vb_bor, vb_ite, vb_cmp, vb_chain, vb_const, vb_loc, vb_bin, vb_neg, vb_tup, vb_lst, vb_sub, vb_slice, vb_attr, vb_call, vb_bi, vb_meth, ve_dead, ve_const, ve_loc, ve_bin, ve_neg, ve_cmp, ve_band, ve_bor, ve_bnot, ve_ite, ve_tup, ve_lst, ve_dict0, ve_sdict2, ve_sub, ve_slice, ve_attr, ve_call, ve_bi, ve_sortset, ve_append, ve_pop, ve_meth, ve_comp, vs_dead, vs_assign1, vs_assignT, vs_assignA, vs_assignS, vs_expr, vs_ifS, vs_forS, vs_whileS, vs_ret0, vs_ret, setMany, setS, getS, initR, List.replicate, bindT, bindTs, unpackV, List.length_cons, List.length_nil, cv_lt, cv_le, cv_gt, cv_ge, cv_eq, cv_ne, cv_in, cv_isn, cv_isl, cv_ist, cv_isr, dr_ref, dr_lst, dr_tup, dr_int, dr_str, dr_none, dr_bool, dr_obj, ev_int, ev_str, ev_nil, true_and])
  rcases hs with rfl | rfl | rfl
  · simp only [beq_self_eq_true, if_true]
    exact ret_done (by rw [barsL, if_pos rfl] at h; exact h)
  · have e : ((">=" : Str) == ("<=" : Str)) = false := by decide
    simp only [e, Bool.false_eq_true, if_false, beq_self_eq_true, if_true]
    exact ret_done (by rw [barsL, if_neg (by decide), if_pos rfl] at h; exact h)
  · have e : (("!=" : Str) == ("<=" : Str)) = false := by decide
    have e2 : (("!=" : Str) == (">=" : Str)) = false := by decide
    have e3 : (("!=" : Str) == ("=" : Str)) = false := by decide
    simp only [e, e2, e3, Bool.false_eq_true, if_false]
    exact ret_done (by rw [barsL, if_neg (by decide), if_neg (by decide)] at h; exact h)

structure StartsOk (l : List Int) : Prop where
  ne : l ≠ []
  few : l.length ≤ 4
  rise : l.Pairwise (· < ·)
  range : ∀ s ∈ l, 0 ≤ s ∧ s ≤ 6
theorem feed_set {f : Addr} {cs : List Int} {k : Nat} : (μ.set f (feedMO cs k)) f = some (feedMO cs k) := Mu.set_self
theorem c_starts (P : PR Γ) {f : Addr} {cs : List Int} {k : Nat} (hf : μ f = some (feedMO cs k)) (hc : cs.length ≤ 60) (hk : k ≤ 90000) (h : ∀ l, StartsOk l → Q (.lst (l.map .int)) (μ.set f (feedMO cs (k + 6)))) :
    CallT Γ (n + 2) (.ref 446) [.ref f] μ Q := by
  have hb : big = 100000 := rfl
  refine FN.call P.gt P.f446 rfl ?_
  dsimp only [m_law_starts, vk_nil, vk_cons, vl_nil, vl_cons, vf_nil, vf_cons, vo_none, vo_some, vt_one, vt_more, vi_seq, oo_int, oo_lst, vi_range1, vi_range2, vi_zip, vi_enum, vb_bnot, vb_band, vb_bor, vb_ite, vb_cmp, vb_chain, vb_const, vb_loc, vb_bin, vb_neg, vb_tup, vb_lst, vb_sub, vb_slice, vb_attr, vb_call, vb_bi, vb_meth, ve_dead, ve_const, ve_loc, ve_bin, ve_neg, ve_cmp, ve_band, ve_bor, ve_bnot, ve_ite, ve_tup, ve_lst, ve_dict0, ve_sdict2, ve_sub, ve_slice, ve_attr, ve_call, ve_bi, ve_sortset, ve_append, ve_pop, ve_meth, ve_comp, vs_dead, vs_assign1, vs_assignT, vs_assignA, vs_assignS, vs_expr, vs_ifS, vs_forS, vs_whileS, vs_ret0, vs_ret, setMany, setS, getS, initR, List.replicate, bindT, bindTs, unpackV, List.length_cons, List.length_nil]
  refine c_draw P hf hc (by omega) (by decide) fun b hb0 hb1 => ?_
  refine ⟨by decide, ?_⟩
  refine comp_rule (by decide) (fun i acc μ' => ∃ l : List Int, acc = l.map .int ∧ l.length ≤ i ∧ l.Pairwise (· < ·) ∧ (∀ s ∈ l, b ≤ s ∧ s < b + i) ∧ μ' = μ.set f (feedMO cs (k + 1 + i))) (⟨[], rfl, by simp, .nil, by simp, rfl⟩) (fun i x acc μ' hx hJ => ?_) fun acc μ' hJ => ?_
  · obtain ⟨l, rfl, hl, hr, hs, rfl⟩ := hJ
    have hi : i < 5 := by
      rw [nth_eq] at hx
      have := (List.getElem?_eq_some_iff.mp hx).1
      rw [rangeP_length] at this
      exact this
    have ex := rangeP_at _ _ _ _ hx
    subst ex
    dsimp only [vk_nil, vk_cons, vl_nil, vl_cons, vf_nil, vf_cons, vo_none, vo_some, vt_one, vt_more, vi_seq, oo_int, oo_lst, vi_range1, vi_range2, vi_zip, vi_enum, vb_bnot, vb_band, vb_bor, vb_ite, vb_cmp, vb_chain, vb_const, vb_loc, vb_bin, vb_neg, vb_tup, vb_lst, vb_sub, vb_slice, vb_attr, vb_call, vb_bi, vb_meth, ve_dead, ve_const, ve_loc, ve_bin, ve_neg, ve_cmp, ve_band, ve_bor, ve_bnot, ve_ite, ve_tup, ve_lst, ve_dict0, ve_sdict2, ve_sub, ve_slice, ve_attr, ve_call, ve_bi, ve_sortset, ve_append, ve_pop, ve_meth, ve_comp, vs_dead, vs_assign1, vs_assignT, vs_assignA, vs_assignS, vs_expr, vs_ifS, vs_forS, vs_whileS, vs_ret0, vs_ret, setMany, setS, getS, initR, List.replicate, bindT, bindTs, unpackV, List.length_cons, List.length_nil]
    refine c_draw P feed_set hc (by omega) (by decide) fun r hr0 hr1 => ?_
    simp only [cv_lt, cv_le, cv_gt, cv_ge, cv_eq, cv_ne, cv_in, cv_isn, cv_isl, cv_ist, cv_isr, dr_ref, dr_lst, dr_tup, dr_int, dr_str, dr_none, dr_bool, dr_obj, ev_int, ev_str, ev_nil, Mu.set_set]
    by_cases c : r = 1
    · subst c
      simp only [beq_self_eq_true, if_true, bv_add, bv_sub, bv_mul, bv_mod, bv_tup, bv_lst]
      refine ⟨l ++ [b + (0 + i)], by simp, by simp; omega, ?_, fun s hs' => ?_, by rw [Nat.add_assoc]⟩
      · refine List.pairwise_append.mpr ⟨hr, List.pairwise_singleton .., fun s hs' t ht => ?_⟩
        rw [List.mem_singleton.mp ht]
        have := (hs s hs').2
        omega
      · rcases List.mem_append.mp hs' with h' | h'
        · have := hs s h'; omega
        · rw [List.mem_singleton.mp h']; omega
    · have e : (r == 1) = false := by simpa using c
      simp only [e, Bool.false_eq_true, if_false]
      exact ⟨l, rfl, by omega, hr, fun s hs' => by have := hs s hs'; omega, by rw [Nat.add_assoc]⟩
  · obtain ⟨l, rfl, hl, hr, hs, rfl⟩ := hJ
    have hi : (rangeP 0 (Int.toNat 5)).length = 5 := by rw [rangeP_length]; rfl
    rw [hi] at hl hs
    simp only [hi]
    refine newL_lst (by rw [List.length_map]; omega) ?_
    dsimp only [vk_nil, vk_cons, vl_nil, vl_cons, vf_nil, vf_cons, vo_none, vo_some, vt_one, vt_more, vi_seq, oo_int, oo_lst, vi_range1, vi_range2, vi_zip, vi_enum, vb_bnot, vb_band, vb_bor, vb_ite, vb_cmp, vb_chain, vb_const, vb_loc, vb_bin, vb_neg, vb_tup, vb_lst, vb_sub, vb_slice, vb_attr, vb_call, vb_bi, vb_meth, ve_dead, ve_const, ve_loc, ve_bin, ve_neg, ve_cmp, ve_band, ve_bor, ve_bnot, ve_ite, ve_tup, ve_lst, ve_dict0, ve_sdict2, ve_sub, ve_slice, ve_attr, ve_call, ve_bi, ve_sortset, ve_append, ve_pop, ve_meth, ve_comp, vs_dead, vs_assign1, vs_assignT, vs_assignA, vs_assignS, vs_expr, vs_ifS, vs_forS, vs_whileS, vs_ret0, vs_ret, setMany, setS, getS, initR, List.replicate, bindT, bindTs, unpackV, List.length_cons, List.length_nil, cv_lt, cv_le, cv_gt, cv_ge, cv_eq, cv_ne, cv_in, cv_isn, cv_isl, cv_ist, cv_isr]
    refine newL_lst (by decide) ?_
    simp only [dr_ref, dr_lst, dr_tup, dr_int, dr_str, dr_none, dr_bool, dr_obj, ev_int, ev_str, ev_nil]
    cases l with
    | nil =>
      simp only [List.map_nil, ev_int, ev_str, ev_nil, List.isEmpty_nil, Bool.not_true, Bool.false_eq_true, if_false]
      exact newL_lst (by simp [big]) (ret_done (h [b] ⟨by simp, by simp, List.pairwise_singleton .., fun s hs' => by rw [List.mem_singleton.mp hs']; omega⟩))
    | cons a r =>
      simp only [List.map_cons, ev_int, ev_str, ev_nil, List.isEmpty_cons, Bool.not_false, if_true]
      refine .hi rfl (by simp at hl ⊢; omega) (by decide) (newL_lst (by simp; omega) (ret_done ?_))
      have e : List.take (Int.toNat 4) (PV.int a :: r.map PV.int) = ((a :: r).take 4).map PV.int := by
        rw [List.map_take]; rfl
      rw [e]
      refine h _ ⟨by simp, by simp; omega, hr.sublist (List.take_sublist _ _), fun s hs' => ?_⟩
      have := hs s ((List.take_sublist _ _).subset hs')
      omega
end
end Mine

open PySem PySem.Calls PyProof.Rows PySem.W
set_option maxRecDepth 100000
set_option linter.unusedVariables false
set_option linter.unusedSimpArgs false
set_option backward.match.sparseCases false
namespace Mine

structure SA where
  d : Addr
  dm : Addr
  fr : Addr
  tr : Addr
  ms : Addr
  nw : Addr
noncomputable def sObj (d : Addr) : PV := .obj ⟨.ref 287, some d, .plain, #[]⟩
noncomputable def sAttrs (S : SA) (f : PV) : List (Str × PV) := [("domains", .ref S.dm), ("firsts", .ref S.fr), ("trail", .ref S.tr), ("marks", .ref S.ms), ("news", .ref S.nw), ("speaker", .int (-1)), ("is_failed", f), ("clash", .tup [])]
structure StoreAt (μ : Mu) (S : SA) (doms firsts trail marks : List PV) : Prop where
  hd : μ S.d = some (.attrs (sAttrs S (.bool false)))
  hdm : μ S.dm = some (.list doms)
  hfr : μ S.fr = some (.list firsts)
  htr : μ S.tr = some (.list trail)
  hmk : μ S.ms = some (.list marks)
  hnw : ∃ es, μ S.nw = some (.idict es) ∧ es.length ≤ trail.length
  n1 : S.dm ≠ S.fr
  n2 : S.dm ≠ S.tr
  n3 : S.dm ≠ S.ms
  n4 : S.fr ≠ S.tr
  n5 : S.fr ≠ S.ms
  n6 : S.tr ≠ S.ms
theorem ne_of {μ : Mu} {a b : Addr} {x y : MO} (h : μ a = some x) (g : μ b = some y) (n : x ≠ y) : a ≠ b := by
  rintro rfl
  rw [h] at g
  exact n (Option.some.inj g)
section
variable {Γ : Gl} {n : Nat} {μ : Mu} {Q : PV → Mu → Prop}
theorem attr_at {d : Addr} {C : Addr} {k : Nat} {es : List (Str × PV)} {x : Str} {v : PV} {K : PV → Prop} (hm : μ d = some (.attrs es)) (ok : attrOkT C k = true) (hx : attrNames[k]? = some x) (hl : lookS x es = some v) (hk : K v) :
    attrV (.obj ⟨.ref C, some d, .plain, #[]⟩) k μ K := by
  exact .mk ok hm hx hl hk
theorem setat_at {d : Addr} {C : Addr} {k : Nat} {es : List (Str × PV)} {x : Str} {v : PV} {K : Mu → Prop} (hm : μ d = some (.attrs es)) (ok : attrOkT C k = true) (hx : attrNames[k]? = some x) (hl : es.length ≤ 100) (hk : K (μ.set d (.attrs (putS x v es)))) :
    setAttrV (.obj ⟨.ref C, some d, .plain, #[]⟩) k v μ K := by
  exact .mk ok hm hx hl hk
theorem at_dm {S : SA} {f : PV} {K : PV → Prop} (h : μ S.d = some (.attrs (sAttrs S f))) (hk : K (.ref S.dm)) : attrV (sObj S.d) 0 μ K := attr_at h rfl rfl rfl hk
theorem at_fr {S : SA} {f : PV} {K : PV → Prop} (h : μ S.d = some (.attrs (sAttrs S f))) (hk : K (.ref S.fr)) : attrV (sObj S.d) 1 μ K := attr_at h rfl rfl rfl hk
theorem at_tr {S : SA} {f : PV} {K : PV → Prop} (h : μ S.d = some (.attrs (sAttrs S f))) (hk : K (.ref S.tr)) : attrV (sObj S.d) 2 μ K := attr_at h rfl rfl rfl hk
theorem at_mk {S : SA} {f : PV} {K : PV → Prop} (h : μ S.d = some (.attrs (sAttrs S f))) (hk : K (.ref S.ms)) : attrV (sObj S.d) 3 μ K := attr_at h rfl rfl rfl hk
theorem at_nw {S : SA} {f : PV} {K : PV → Prop} (h : μ S.d = some (.attrs (sAttrs S f))) (hk : K (.ref S.nw)) : attrV (sObj S.d) 4 μ K := attr_at h rfl rfl rfl hk
theorem meth_at {d C f : Addr} {k : Nat} {es : List (Str × PV)} {ρ : Rho} {args : List ME} (hm : μ d = some (.attrs es)) (hf : methT C k = some f) (hl : lookS (methNames.getD k "") es = none)
    (h : vcEs Γ n args ρ μ fun ps μ₂ => CallT Γ n (.ref f) (.obj ⟨.ref C, some d, .plain, #[]⟩ :: ps) μ₂ Q) : methV Γ n ρ k args Q (.obj ⟨.ref C, some d, .plain, #[]⟩) μ := by
  exact ⟨C, d, #[], f, es, rfl, hf, hm, hl, h⟩
theorem listRef_at {a : Addr} {l : List PV} (h : μ a = some (.list l)) : listRef (.ref a) μ := .mk h
theorem append_at {a : Addr} {l : List PV} {v : PV} {K : PV → Mu → Prop} (h : μ a = some (.list l)) (hl : l.length ≤ big) (hk : K .none (μ.set a (.list (l ++ [v])))) : appendV (.ref a) v μ K := by
  exact .mk h hl hk
theorem len_at {a : Addr} {l : List PV} {K : PV → Mu → Prop} (h : μ a = some (.list l)) (hl : l.length ≤ big) (hk : K (.int l.length) μ) : biV .len [.ref a] μ K := by
  simp only [bi_len, bi_min2, bi_max2, bi_minT, bi_sum, bi_sorted, bi_list, bi_tuple, bi_all, dr_ref, dr_lst, dr_tup, dr_int, dr_str, dr_none, dr_bool, dr_obj, h]
  exact ⟨hl, hk⟩

theorem c_low (P : PR Γ) {S : SA} {doms firsts trail marks : List PV} {x : Nat} {a b : Int} {r : Dom} (hs : StoreAt μ S doms firsts trail marks) (hx : doms[x]? = some (dP ((a, b) :: r))) (hb : x ≤ big) (h : Q (.int a) μ) :
    CallT Γ (n + 2) (.ref 186) [sObj S.d, .int x] μ Q := by
  refine FN.call P.gt P.f186 rfl ?_
  dsimp only [m_Store_low, vk_nil, vk_cons, vl_nil, vl_cons, vf_nil, vf_cons, vo_none, vo_some, vt_one, vt_more, vi_seq, oo_int, oo_lst, vi_range1, vi_range2, vi_zip, vi_enum, vb_bnot, vb_band, vb_bor, vb_ite, vb_cmp, vb_chain, vb_const, vb_loc, vb_bin, vb_neg, vb_tup, vb_lst, vb_sub, vb_slice, vb_attr, vb_call, vb_bi, vb_meth, ve_dead, ve_const, ve_loc, ve_bin, ve_neg, ve_cmp, ve_band, ve_bor, ve_bnot, ve_ite, ve_tup, ve_lst, ve_dict0, ve_sdict2, ve_sub, ve_slice, ve_attr, ve_call, ve_bi, ve_sortset, ve_append, ve_pop, ve_meth, ve_comp, vs_dead, vs_assign1, vs_assignT, vs_assignA, vs_assignS, vs_expr, vs_ifS, vs_forS, vs_whileS, vs_ret0, vs_ret, setMany, setS, getS, initR, List.replicate, bindT, bindTs, unpackV, List.length_cons, List.length_nil]
  refine at_dm hs.hd (sub_ref hs.hdm (by simpa using hb) (itemAt_nat hx) ?_)
  exact c_least P (ret_done h)
theorem c_high (P : PR Γ) {S : SA} {doms firsts trail marks : List PV} {x : Nat} {a b : Int} {r : Dom} (hs : StoreAt μ S doms firsts trail marks) (hx : doms[x]? = some (dP (r ++ [(a, b)]))) (hb : x ≤ big) (h : Q (.int b) μ) :
    CallT Γ (n + 2) (.ref 193) [sObj S.d, .int x] μ Q := by
  refine FN.call P.gt P.f193 rfl ?_
  dsimp only [m_Store_high, vk_nil, vk_cons, vl_nil, vl_cons, vf_nil, vf_cons, vo_none, vo_some, vt_one, vt_more, vi_seq, oo_int, oo_lst, vi_range1, vi_range2, vi_zip, vi_enum, vb_bnot, vb_band, vb_bor, vb_ite, vb_cmp, vb_chain, vb_const, vb_loc, vb_bin, vb_neg, vb_tup, vb_lst, vb_sub, vb_slice, vb_attr, vb_call, vb_bi, vb_meth, ve_dead, ve_const, ve_loc, ve_bin, ve_neg, ve_cmp, ve_band, ve_bor, ve_bnot, ve_ite, ve_tup, ve_lst, ve_dict0, ve_sdict2, ve_sub, ve_slice, ve_attr, ve_call, ve_bi, ve_sortset, ve_append, ve_pop, ve_meth, ve_comp, vs_dead, vs_assign1, vs_assignT, vs_assignA, vs_assignS, vs_expr, vs_ifS, vs_forS, vs_whileS, vs_ret0, vs_ret, setMany, setS, getS, initR, List.replicate, bindT, bindTs, unpackV, List.length_cons, List.length_nil]
  refine at_dm hs.hd (sub_ref hs.hdm (by simpa using hb) (itemAt_nat hx) ?_)
  exact c_greatest P (ret_done h)
noncomputable def Only (X : List Addr) (μ μ' : Mu) : Prop := ∀ b, b ∉ X → μ' b = μ b
theorem c_push (P : PR Γ) {S : SA} {doms firsts trail marks : List PV} (hs : StoreAt μ S doms firsts trail marks) (hb : trail.length ≤ big) (hc : marks.length ≤ big)
    (h : ∀ μ', StoreAt μ' S doms firsts trail (marks ++ [.int trail.length]) → (∀ b, b ≠ S.ms → μ' b = μ b) → Q .none μ') :
    CallT Γ (n + 1) (.ref 263) [sObj S.d] μ Q := by
  refine FN.call P.gt P.f263 rfl ?_
  dsimp only [m_Store_push, vk_nil, vk_cons, vl_nil, vl_cons, vf_nil, vf_cons, vo_none, vo_some, vt_one, vt_more, vi_seq, oo_int, oo_lst, vi_range1, vi_range2, vi_zip, vi_enum, vb_bnot, vb_band, vb_bor, vb_ite, vb_cmp, vb_chain, vb_const, vb_loc, vb_bin, vb_neg, vb_tup, vb_lst, vb_sub, vb_slice, vb_attr, vb_call, vb_bi, vb_meth, ve_dead, ve_const, ve_loc, ve_bin, ve_neg, ve_cmp, ve_band, ve_bor, ve_bnot, ve_ite, ve_tup, ve_lst, ve_dict0, ve_sdict2, ve_sub, ve_slice, ve_attr, ve_call, ve_bi, ve_sortset, ve_append, ve_pop, ve_meth, ve_comp, vs_dead, vs_assign1, vs_assignT, vs_assignA, vs_assignS, vs_expr, vs_ifS, vs_forS, vs_whileS, vs_ret0, vs_ret, setMany, setS, getS, initR, List.replicate, bindT, bindTs, unpackV, List.length_cons, List.length_nil]
  refine at_mk hs.hd ⟨listRef_at hs.hmk, at_tr hs.hd (len_at hs.htr hb (append_at hs.hmk hc (next_done (h _ ?_ fun b hb => Mu.set_ne hb))))⟩
  obtain ⟨es, e1, e2⟩ := hs.hnw
  exact { hs with
    hd := by rw [Mu.set_ne (ne_of hs.hd hs.hmk (by simp))]; exact hs.hd
    hdm := by rw [Mu.set_ne hs.n3]; exact hs.hdm
    hfr := by rw [Mu.set_ne hs.n5]; exact hs.hfr
    htr := by rw [Mu.set_ne hs.n6]; exact hs.htr
    hmk := Mu.set_self
    hnw := ⟨es, by rw [Mu.set_ne (ne_of e1 hs.hmk (by simp))]; exact e1, e2⟩ }

noncomputable def DD (p : PV) (m : Nat) : Prop := pvData p = true ∧ pvDepth p ≤ m
theorem DD.ok {p : PV} {m : Nat} (h : DD p m) (hm : m ≤ 8) : dataOk p := ⟨h.1, Nat.le_trans h.2 hm⟩
theorem DDs {l : List PV} {m : Nat} (h : ∀ p ∈ l, DD p m) : pvDatas l = true ∧ pvDepths l ≤ m := by
  induction l with
  | nil => exact ⟨rfl, Nat.zero_le _⟩
  | cons p r ih =>
    obtain ⟨a, b⟩ := ih fun q hq => h q (List.mem_cons_of_mem _ hq)
    obtain ⟨c, d⟩ := h p List.mem_cons_self
    refine ⟨by simp [pds_nil, pds_cons, a, c], ?_⟩
    simp only [pts_nil, pts_cons]
    exact Nat.max_le.mpr ⟨d, b⟩
theorem DD.lst {l : List PV} {m : Nat} (h : ∀ p ∈ l, DD p m) : DD (.lst l) (m + 1) := by
  obtain ⟨a, b⟩ := DDs h
  exact ⟨by simpa [pd_none, pd_int, pd_str, pd_tup, pd_lst] using a, by simp only [pt_none, pt_int, pt_str, pt_tup, pt_lst]; omega⟩
theorem DD.tup {l : List PV} {m : Nat} (h : ∀ p ∈ l, DD p m) : DD (.tup l) (m + 1) := by
  obtain ⟨a, b⟩ := DDs h
  exact ⟨by simpa [pd_none, pd_int, pd_str, pd_tup, pd_lst] using a, by simp only [pt_none, pt_int, pt_str, pt_tup, pt_lst]; omega⟩
theorem DD.int {i : Int} {m : Nat} : DD (.int i) m := ⟨rfl, Nat.zero_le _⟩
theorem DD.map {α : Type} {l : List α} {f : α → PV} {m : Nat} (h : ∀ a ∈ l, DD (f a) m) : ∀ p ∈ l.map f, DD p m := by
  intro p hp
  obtain ⟨a, ha, rfl⟩ := List.mem_map.mp hp
  exact h a ha
theorem DD.pr {p : Int × Int} : DD (prP p) 1 := DD.tup (m := 0) (by
  intro q hq
  simp only [List.mem_cons, List.not_mem_nil, or_false] at hq
  rcases hq with rfl | rfl <;> exact DD.int)
theorem dataOk_dom (d : Dom) : dataOk (dP d) := DD.ok (m := 2) (DD.tup (DD.map fun a _ => DD.pr)) (by decide)
theorem pvEqs_map {α : Type} [DecidableEq α] {f : α → PV} (hf : ∀ a b, pvEq (f a) (f b) = decide (a = b)) : ∀ l m : List α, pvEqs (l.map f) (m.map f) = decide (l = m)
  | [], [] => by simp [pes_nil, pes_nc, pes_cn, pes_cons]
  | [], b :: m => by simp [pes_nil, pes_nc, pes_cn, pes_cons]
  | a :: l, [] => by simp [pes_nil, pes_nc, pes_cn, pes_cons]
  | a :: l, b :: m => by
    simp only [List.map_cons, pes_nil, pes_nc, pes_cn, pes_cons, hf, pvEqs_map hf l m]
    by_cases h1 : a = b <;> by_cases h2 : l = m <;> simp [h1, h2]
theorem beq_dec (a b : Int) : (a == b) = decide (a = b) := by by_cases h : a = b <;> simp [h]
theorem pvEq_int (a b : Int) : pvEq (.int a) (.int b) = decide (a = b) := by
  simp only [pe_none, pe_int, pe_str, pe_tup, pe_lst]
  exact beq_dec a b
theorem pvEq_pr (a b : Int × Int) : pvEq (prP a) (prP b) = decide (a = b) := by
  obtain ⟨a1, a2⟩ := a
  obtain ⟨b1, b2⟩ := b
  simp only [prP, pe_none, pe_int, pe_str, pe_tup, pe_lst, pes_nil, pes_nc, pes_cn, pes_cons, beq_dec, Bool.and_true, Prod.mk.injEq]
  by_cases h1 : a1 = b1 <;> by_cases h2 : a2 = b2 <;> simp [h1, h2]
theorem pvEq_dom (a b : Dom) : pvEq (dP a) (dP b) = decide (a = b) := by
  simp only [dP, pe_none, pe_int, pe_str, pe_tup, pe_lst]
  exact pvEqs_map pvEq_pr a b
theorem eq_dom {a b : Dom} {k : Bool → Prop} (h : k (decide (a = b))) : cmpV .Eq (dP a) (dP b) μ k := by
  have e : cmpV .Eq (dP a) (dP b) μ k = (dataOk (dP a) ∧ dataOk (dP b) ∧ k (pvEq (dP a) (dP b))) := rfl
  rw [e, pvEq_dom]
  exact ⟨dataOk_dom a, dataOk_dom b, h⟩
theorem set_at {a : Addr} {l : List PV} {i : Nat} {v : PV} {K : Mu → Prop} (h : μ a = some (.list l)) (hi : i < l.length) (hl : l.length ≤ big) (hk : K (μ.set a (.list (l.set i v)))) : setItemV (.ref a) (.int i) v μ K := by
  exact .list h (by rw [if_pos (by omega)]) hi hl hk
theorem seti_at {a : Addr} {es : List (Int × PV)} {i : Int} {v : PV} {K : Mu → Prop} (h : μ a = some (.idict es)) (hl : es.length ≤ big) (hk : K (μ.set a (.idict (putS i v es)))) : setItemV (.ref a) (.int i) v μ K := by
  exact .idict h hl hk
theorem putS_len {κ : Type} [DecidableEq κ] {k : κ} {v : PV} {es : List (κ × PV)} : (putS k v es).length ≤ es.length + 1 := by
  induction es with
  | nil => simp [putS]
  | cons e r ih =>
    obtain ⟨a, b⟩ := e
    simp only [putS]
    split
    · simp
    · simp only [List.length_cons]; omega
noncomputable def trP (x : Nat) (old : Dom) (sg : Str) (v : Int) : PV := .tup [.int x, dP old, litP x sg v, .none, .int (-1)]
theorem c_enter (P : PR Γ) {S : SA} {doms firsts trail marks : List PV} {x : Nat} {sg : Str} {v : Int} {old : Dom} (hs : StoreAt μ S doms firsts trail marks) (hsg : sg = "<=" ∨ sg = ">=" ∨ sg = "!=") (hx : doms[x]? = some (dP old)) (hl : old.length ≤ 1000)
    (hb : doms.length ≤ 1000) (hc : trail.length ≤ 1000) (hne : struckD sg v old ≠ [])
    (h1 : struckD sg v old = old → Q (.bool true) μ)
    (h2 : ∀ μ', StoreAt μ' S (doms.set x (dP (struckD sg v old))) firsts (trail ++ [trP x old sg v]) marks → (∀ b, b ≠ S.dm → b ≠ S.tr → b ≠ S.nw → μ' b = μ b) → Q (.bool true) μ') :
    CallT Γ (n + 4) (.ref 235) [sObj S.d, litP x sg v, .none, .int (-1)] μ Q := by
  have hb : big = 100000 := rfl
  have hxl : x < doms.length := (List.getElem?_eq_some_iff.mp hx).1
  refine FN.call P.gt P.f235 rfl ?_
  dsimp only [m_Store_enter, vk_nil, vk_cons, vl_nil, vl_cons, vf_nil, vf_cons, vo_none, vo_some, vt_one, vt_more, vi_seq, oo_int, oo_lst, vi_range1, vi_range2, vi_zip, vi_enum, vb_bnot, vb_band, vb_bor, vb_ite, vb_cmp, vb_chain, vb_const, vb_loc, vb_bin, vb_neg, vb_tup, vb_lst, vb_sub, vb_slice, vb_attr, vb_call, vb_bi, vb_meth, ve_dead, ve_const, ve_loc, ve_bin, ve_neg, ve_cmp, ve_band, ve_bor, ve_bnot, ve_ite, ve_tup, ve_lst, ve_dict0, ve_sdict2, ve_sub, ve_slice, ve_attr, ve_call, ve_bi, ve_sortset, ve_append, ve_pop, ve_meth, ve_comp, vs_dead, vs_assign1, vs_assignT, vs_assignA, vs_assignS, vs_expr, vs_ifS, vs_forS, vs_whileS, vs_ret0, vs_ret, setMany, setS, getS, initR, List.replicate, bindT, bindTs, unpackV, List.length_cons, List.length_nil]
  refine sub_tup (v := .int x) (by decide) rfl ?_
  refine at_dm hs.hd (sub_ref hs.hdm (by simp; omega) (itemAt_nat hx) ?_)
  refine c_struck P hsg hl ?_
  have dn : dP [] = PV.tup [] := rfl
  rw [← dn]
  refine eq_dom ?_
  rw [decide_eq_false hne]
  simp only [Bool.false_eq_true, if_false]
  refine eq_dom ?_
  by_cases c : struckD sg v old = old
  · rw [decide_eq_true c, if_pos rfl]
    exact ret_done (h1 c)
  · rw [decide_eq_false c]
    simp only [Bool.false_eq_true, if_false]
    obtain ⟨es, e1, e2⟩ := hs.hnw
    have a1 := ne_of hs.hd hs.htr (by simp)
    have a2 := ne_of hs.hd hs.hdm (by simp)
    have a3 := ne_of e1 hs.htr (by simp)
    have a4 := ne_of e1 hs.hdm (by simp)
    have a5 := ne_of hs.hd e1 (by simp)
    have a6 := ne_of hs.hfr e1 (by simp)
    have a7 := ne_of hs.hmk e1 (by simp)
    refine at_tr hs.hd ⟨listRef_at hs.htr, append_at hs.htr (by omega) ?_⟩
    have d1 : (μ.set S.tr (.list (trail ++ [trP x old sg v]))) S.d = some (.attrs (sAttrs S (.bool false))) := by rw [Mu.set_ne a1]; exact hs.hd
    refine at_dm d1 (set_at (l := doms) (by rw [Mu.set_ne hs.n2]; exact hs.hdm) hxl (by omega) ?_)
    refine at_nw (f := .bool false) (by rw [Mu.set_ne a2]; exact d1) (seti_at (es := es) (by rw [Mu.set_ne a4, Mu.set_ne a3]; exact e1) (by omega) ?_)
    refine ret_done (h2 _ ?_ fun b b1 b2 b3 => by rw [Mu.set_ne b3, Mu.set_ne b1, Mu.set_ne b2])
    exact { hs with
      hd := by rw [Mu.set_ne a5, Mu.set_ne a2]; exact d1
      hdm := by rw [Mu.set_ne a4.symm, Mu.set_self]
      hfr := by rw [Mu.set_ne a6, Mu.set_ne hs.n1.symm, Mu.set_ne hs.n4]; exact hs.hfr
      htr := by rw [Mu.set_ne a3.symm, Mu.set_ne hs.n2.symm, Mu.set_self]; rfl
      hmk := by rw [Mu.set_ne a7, Mu.set_ne hs.n3.symm, Mu.set_ne hs.n6.symm]; exact hs.hmk
      hnw := ⟨_, Mu.set_self, by have := putS_len (k := (x : Int)) (v := .bool true) (es := es); simp; omega⟩ }
theorem c_decide (P : PR Γ) {S : SA} {doms firsts trail marks : List PV} {x : Nat} {sg : Str} {v : Int} {old : Dom} (hs : StoreAt μ S doms firsts trail marks) (hsg : sg = "<=" ∨ sg = ">=" ∨ sg = "!=") (hx : doms[x]? = some (dP old)) (hl : old.length ≤ 1000)
    (hb : doms.length ≤ 1000) (hc : trail.length ≤ 1000) (hne : struckD sg v old ≠ [])
    (h1 : struckD sg v old = old → Q (.bool true) μ)
    (h2 : ∀ μ', StoreAt μ' S (doms.set x (dP (struckD sg v old))) firsts (trail ++ [trP x old sg v]) marks → (∀ b, b ≠ S.dm → b ≠ S.tr → b ≠ S.nw → μ' b = μ b) → Q (.bool true) μ') :
    CallT Γ (n + 5) (.ref 249) [sObj S.d, litP x sg v] μ Q := by
  refine FN.call P.gt P.f249 rfl ?_
  dsimp only [m_Store_decide, vk_nil, vk_cons, vl_nil, vl_cons, vf_nil, vf_cons, vo_none, vo_some, vt_one, vt_more, vi_seq, oo_int, oo_lst, vi_range1, vi_range2, vi_zip, vi_enum, vb_bnot, vb_band, vb_bor, vb_ite, vb_cmp, vb_chain, vb_const, vb_loc, vb_bin, vb_neg, vb_tup, vb_lst, vb_sub, vb_slice, vb_attr, vb_call, vb_bi, vb_meth, ve_dead, ve_const, ve_loc, ve_bin, ve_neg, ve_cmp, ve_band, ve_bor, ve_bnot, ve_ite, ve_tup, ve_lst, ve_dict0, ve_sdict2, ve_sub, ve_slice, ve_attr, ve_call, ve_bi, ve_sortset, ve_append, ve_pop, ve_meth, ve_comp, vs_dead, vs_assign1, vs_assignT, vs_assignA, vs_assignS, vs_expr, vs_ifS, vs_forS, vs_whileS, vs_ret0, vs_ret, setMany, setS, getS, initR, List.replicate, bindT, bindTs, unpackV, List.length_cons, List.length_nil]
  refine meth_at hs.hd rfl rfl ?_
  dsimp only [vk_nil, vk_cons, vl_nil, vl_cons, vf_nil, vf_cons, vo_none, vo_some, vt_one, vt_more, vi_seq, oo_int, oo_lst, vi_range1, vi_range2, vi_zip, vi_enum, vb_bnot, vb_band, vb_bor, vb_ite, vb_cmp, vb_chain, vb_const, vb_loc, vb_bin, vb_neg, vb_tup, vb_lst, vb_sub, vb_slice, vb_attr, vb_call, vb_bi, vb_meth, ve_dead, ve_const, ve_loc, ve_bin, ve_neg, ve_cmp, ve_band, ve_bor, ve_bnot, ve_ite, ve_tup, ve_lst, ve_dict0, ve_sdict2, ve_sub, ve_slice, ve_attr, ve_call, ve_bi, ve_sortset, ve_append, ve_pop, ve_meth, ve_comp, vs_dead, vs_assign1, vs_assignT, vs_assignA, vs_assignS, vs_expr, vs_ifS, vs_forS, vs_whileS, vs_ret0, vs_ret, setMany, setS, getS, initR, List.replicate, bindT, bindTs, unpackV, List.length_cons, List.length_nil]
  exact c_enter P hs hsg hx hl hb hc hne (fun c => ret_done (h1 c)) fun μ' s' f' => ret_done (h2 μ' s' f')

structure Tr where
  x : Nat
  old : Dom
  sg : Str
  v : Int
noncomputable def Tr.pv (t : Tr) : PV := trP t.x t.old t.sg t.v
noncomputable def undo (doms : List PV) (ts : List Tr) : List PV := ts.foldr (fun t d => d.set t.x (dP t.old)) doms
theorem undo_len (doms : List PV) : ∀ ts : List Tr, (undo doms ts).length = doms.length
  | [] => rfl
  | t :: r => by
    have := undo_len doms r
    simp only [undo] at this
    simp only [undo, List.foldr_cons, List.length_set, this]
theorem cmp_lt {a b : Int} {k : Bool → Prop} : cmpV .Lt (.int a) (.int b) μ k = k (decide (a < b)) := rfl
theorem cmp_le {a b : Int} {k : Bool → Prop} : cmpV .LtE (.int a) (.int b) μ k = k (decide (a ≤ b)) := rfl
theorem cmp_gt {a b : Int} {k : Bool → Prop} : cmpV .Gt (.int a) (.int b) μ k = k (decide (b < a)) := rfl
theorem cmp_ge {a b : Int} {k : Bool → Prop} : cmpV .GtE (.int a) (.int b) μ k = k (decide (b ≤ a)) := rfl
theorem cmp_eqI {a b : Int} {k : Bool → Prop} : cmpV .Eq (.int a) (.int b) μ k = k (a == b) := rfl
theorem slice_hi {a : Addr} {l : List PV} {b : Int} {K : PV → Mu → Prop} (h : μ a = some (.list l)) (hl : l.length ≤ big) (hb : 0 ≤ b) (hk : newL (l.take b.toNat) μ K) : sliceV (.ref a) none (some (.int b)) μ K := by
  exact .hi (by simp only [dr_ref, dr_lst, dr_tup, dr_int, dr_str, dr_none, dr_bool, dr_obj, h]) hl hb hk
theorem in_at {a : Addr} {l : List PV} {p : PV} {k : Bool → Prop} (h : μ a = some (.list l)) (h1 : dataOk p) (h2 : dataOk (.lst l)) (hk : k (l.any fun x => pvEq x p)) : cmpV .In p (.ref a) μ k := by
  simp only [cv_lt, cv_le, cv_gt, cv_ge, cv_eq, cv_ne, cv_in, cv_isn, cv_isl, cv_ist, cv_isr, dr_ref, dr_lst, dr_tup, dr_int, dr_str, dr_none, dr_bool, dr_obj, h]
  exact ⟨h1, h2, hk⟩
theorem pop_at {a : Addr} {l : List PV} {v : PV} {K : PV → Mu → Prop} (h : μ a = some (.list (l ++ [v]))) (hl : l.length + 1 ≤ big) (hk : K v (μ.set a (.list l))) : popV (.ref a) μ K := by
  exact .mk h hl hk
theorem undo_cons (doms : List PV) (t : Tr) (r : List Tr) : undo doms (t :: r) = (undo doms r).set t.x (dP t.old) := rfl
theorem in_ok {ds : List Dom} (h : [] ∉ ds) : ((ds.map dP).any fun x => pvEq x (PV.tup [])) = false := by
  rw [List.any_eq_false]
  intro p hp
  obtain ⟨d, hd, rfl⟩ := List.mem_map.mp hp
  have e : PV.tup [] = dP [] := rfl
  rw [e, pvEq_dom]
  have : d ≠ [] := fun q => h (q ▸ hd)
  simp [this]
theorem c_pop (P : PR Γ) {S : SA} {doms firsts marks : List PV} {ts : List Tr} {m : Nat} (hs : StoreAt μ S doms firsts (ts.map Tr.pv) (marks ++ [.int m])) (hb : doms.length ≤ 1000) (hc : ts.length ≤ 1000) (hmk : marks.length ≤ 1000) (hm : m ≤ ts.length)
    (hx : ∀ t ∈ ts, t.x < doms.length) (hf : ∃ ds : List Dom, firsts = ds.map dP ∧ ds.length ≤ 1000 ∧ [] ∉ ds)
    (h : ∀ μ' mk nw, μ mk = none → μ nw = none → StoreAt μ' ⟨S.d, S.dm, S.fr, S.tr, mk, nw⟩ (undo doms (ts.drop m)) firsts ((ts.take m).map Tr.pv) marks → (∀ b, b ≠ S.d → b ≠ S.dm → b ≠ S.tr → b ≠ mk → b ≠ nw → μ' b = μ b) → Q .none μ') :
    CallT Γ (n + 1) (.ref 270) [sObj S.d, .int 1] μ Q := by
  have hb : big = 100000 := rfl
  obtain ⟨ds, rfl, dl, dne⟩ := hf
  refine FN.call P.gt P.f270 rfl ?_
  ((try dsimp only [m_Store_pop, vk_nil, vk_cons, vl_nil, vl_cons, vf_nil, vf_cons, vo_none, vo_some, vt_one, vt_more, vi_seq, oo_int, oo_lst, vi_range1, vi_range2, vi_zip, vi_enum, vb_bnot, vb_band, vb_bor, vb_ite, vb_cmp, vb_chain, vb_const, vb_loc, vb_bin, vb_neg, vb_tup, vb_lst, vb_sub, vb_slice, vb_attr, vb_call, vb_bi, vb_meth, ve_dead, ve_const, ve_loc, ve_bin, ve_neg, ve_cmp, ve_band, ve_bor, ve_bnot, ve_ite, ve_tup, ve_lst, ve_dict0, ve_sdict2, ve_sub, ve_slice, ve_attr, ve_call, ve_bi, ve_sortset, ve_append, ve_pop, ve_meth, ve_comp, vs_dead, vs_assign1, vs_assignT, vs_assignA, vs_assignS, vs_expr, vs_ifS, vs_forS, vs_whileS, vs_ret0, vs_ret, setMany, setS, getS, initR, List.replicate, bindT, bindTs, unpackV, List.length_cons, List.length_nil]); simp only [m_Store_pop, vk_nil, vk_cons, vl_nil, vl_cons, vf_nil, vf_cons, vo_none, vo_some, vt_one, vt_more, vi_seq, oo_int, oo_lst, vi_range1, vi_range2, vi_zip, vi_enum, vb_bnot, vb_band, vb_bor, vb_ite, vb_cmp, vb_chain, vb_const, vb_loc, vb_bin, vb_neg, vb_tup, vb_lst, vb_sub, vb_slice, vb_attr, vb_call, vb_bi, vb_meth, ve_dead, ve_const, ve_loc, ve_bin, ve_neg, ve_cmp, ve_band, ve_bor, ve_bnot, ve_ite, ve_tup, ve_lst, ve_dict0, ve_sdict2, ve_sub, ve_slice, ve_attr, ve_call, ve_bi, ve_sortset, ve_append, ve_pop, ve_meth, ve_comp, vs_dead, vs_assign1, vs_assignT, vs_assignA, vs_assignS, vs_expr, vs_ifS, vs_forS, vs_whileS, vs_ret0, vs_ret, setMany, setS, getS, initR, List.replicate, bindT, bindTs, unpackV, List.length_cons, List.length_nil, cmp_lt])
  rw [show decide ((1 : Int) < 1) = false from rfl]
  simp only [Bool.false_eq_true, if_false]
  have lm : ((marks ++ [PV.int (m : Int)]).length : Int) - 1 = (marks.length : Int) := by simp
  refine at_mk hs.hd (at_mk hs.hd (len_at hs.hmk (by simp; omega) ?_))
  simp only [bv_add, bv_sub, bv_mul, bv_mod, bv_tup, bv_lst, lm]
  refine sub_ref (v := .int m) hs.hmk (by simp; omega) (itemAt_nat (by simp)) ?_
  refine at_mk hs.hd (at_mk hs.hd (len_at hs.hmk (by simp; omega) ?_))
  simp only [bv_add, bv_sub, bv_mul, bv_mod, bv_tup, bv_lst, lm]
  refine slice_hi hs.hmk (by simp; omega) (by omega) (newL_ref (by simp; omega) fun mk hmk0 => ?_)
  rw [show List.take (Int.toNat (marks.length : Int)) (marks ++ [PV.int (m : Int)]) = marks by simp]
  have ndm : mk ≠ S.d := by rintro rfl; rw [hs.hd] at hmk0; cases hmk0
  have d1 : (μ.set mk (.list marks)) S.d = some (.attrs (sAttrs S (.bool false))) := by rw [Mu.set_ne ndm.symm]; exact hs.hd
  refine setat_at d1 rfl rfl (by simp [sAttrs]) ?_
  rw [show putS (Str.ofString "marks") (PV.ref mk) (sAttrs S (.bool false)) = sAttrs { S with ms := mk } (.bool false) from rfl]
  generalize hμ0 : (μ.set mk (.list marks)).set S.d (.attrs (sAttrs { S with ms := mk } (.bool false))) = μ0; revert μ0; refine id ?_; set_option tactic.hygienic false in intros
  have z0 : ∀ b, b ≠ mk → b ≠ S.d → μ0 b = μ b := fun b b1 b2 => by rw [← hμ0, Mu.set_ne b2, Mu.set_ne b1]
  have zd : μ0 S.d = some (.attrs (sAttrs { S with ms := mk } (.bool false))) := by rw [← hμ0, Mu.set_self]
  have zm : μ0 mk = some (.list marks) := by rw [← hμ0, Mu.set_ne ndm, Mu.set_self]
  have nk : ∀ {b o}, μ b = some o → b ≠ mk := fun h q => by rw [q, hmk0] at h; cases h
  obtain ⟨es, e1, e2⟩ := hs.hnw
  have a1 := ne_of hs.hd hs.htr (by simp)
  have a2 := ne_of hs.hd hs.hdm (by simp)
  have a8 := ne_of hs.hd hs.hfr (by simp)
  refine ⟨fun N ρ' μ' => (∃ w, ρ' = [some (sObj S.d), some (.int 1), some (.int m), w, none]) ∧ m + N ≤ ts.length ∧ μ' S.dm = some (.list (undo doms (ts.drop (m + N)))) ∧ μ' S.tr = some (.list ((ts.take (m + N)).map Tr.pv)) ∧ (∀ b, b ≠ S.dm → b ≠ S.tr → μ' b = μ0 b), ts.length - m, ⟨⟨none, rfl⟩, by omega, ?_, ?_, fun _ _ _ => rfl⟩, fun N ρ' μ' hJ => ?_⟩
  · rw [show m + (ts.length - m) = ts.length by omega, List.drop_length, z0 _ (nk hs.hdm) a2.symm]; exact hs.hdm
  · rw [show m + (ts.length - m) = ts.length by omega, List.take_length, z0 _ (nk hs.htr) a1.symm]; exact hs.htr
  obtain ⟨⟨w, rfl⟩, hN, j1, j2, j3⟩ := hJ
  have jd : μ' S.d = some (.attrs (sAttrs { S with ms := mk } (.bool false))) := by rw [j3 _ a2 a1]; exact zd
  dsimp only [vk_nil, vk_cons, vl_nil, vl_cons, vf_nil, vf_cons, vo_none, vo_some, vt_one, vt_more, vi_seq, oo_int, oo_lst, vi_range1, vi_range2, vi_zip, vi_enum, vb_bnot, vb_band, vb_bor, vb_ite, vb_cmp, vb_chain, vb_const, vb_loc, vb_bin, vb_neg, vb_tup, vb_lst, vb_sub, vb_slice, vb_attr, vb_call, vb_bi, vb_meth, ve_dead, ve_const, ve_loc, ve_bin, ve_neg, ve_cmp, ve_band, ve_bor, ve_bnot, ve_ite, ve_tup, ve_lst, ve_dict0, ve_sdict2, ve_sub, ve_slice, ve_attr, ve_call, ve_bi, ve_sortset, ve_append, ve_pop, ve_meth, ve_comp, vs_dead, vs_assign1, vs_assignT, vs_assignA, vs_assignS, vs_expr, vs_ifS, vs_forS, vs_whileS, vs_ret0, vs_ret, setMany, setS, getS, initR, List.replicate, bindT, bindTs, unpackV, List.length_cons, List.length_nil]
  refine at_tr (S := { S with ms := mk }) jd (len_at j2 (by simp; omega) ?_)
  simp only [cmp_gt]
  have ltk : ((List.take (m + N) ts).map Tr.pv).length = m + N := by rw [List.length_map, List.length_take]; omega
  rw [ltk]
  cases N with
  | zero =>
    rw [show decide ((m : Int) < ((m + 0 : Nat) : Int)) = false by simp]
    simp only [Bool.false_eq_true, if_false]
    intro nw hnw0
    have nnw : ∀ {b o}, μ' b = some o → b ≠ nw := fun h q => by rw [q, hnw0] at h; cases h
    have q1 : (μ'.set nw (.idict [])) S.d = some (.attrs (sAttrs { S with ms := mk } (.bool false))) := by rw [Mu.set_ne (nnw jd)]; exact jd
    refine setat_at q1 rfl rfl (by simp [sAttrs]) ?_
    rw [show putS (Str.ofString "news") (PV.ref nw) (sAttrs { S with ms := mk } (.bool false)) = sAttrs { S with ms := mk, nw := nw } (.bool false) from rfl]
    have jf : μ' S.fr = some (.list (ds.map dP)) := by rw [j3 _ hs.n1.symm hs.n4, z0 _ (nk hs.hfr) a8.symm]; exact hs.hfr
    refine at_fr (S := { S with ms := mk, nw := nw }) (f := .bool false) Mu.set_self (in_at (l := ds.map dP) (by rw [Mu.set_ne a8.symm, Mu.set_ne (nnw jf)]; exact jf) ?_ ?_ ?_)
    · exact DD.ok (m := 1) (DD.tup (by simp)) (by decide)
    · exact DD.ok (m := 3) (DD.lst (DD.map fun a _ => DD.tup (DD.map fun b _ => DD.pr))) (by decide)
    rw [in_ok dne]
    refine setat_at (es := sAttrs { S with ms := mk, nw := nw } (.bool false)) Mu.set_self rfl rfl (by simp [sAttrs]) ?_
    rw [Mu.set_set, show putS (Str.ofString "is_failed") (PV.bool false) (sAttrs { S with ms := mk, nw := nw } (.bool false)) = sAttrs { S with ms := mk, nw := nw } (.bool false) from rfl]
    refine setat_at (es := sAttrs { S with ms := mk, nw := nw } (.bool false)) Mu.set_self rfl rfl (by simp [sAttrs]) ?_
    rw [Mu.set_set, show putS (Str.ofString "clash") (PV.tup []) (sAttrs { S with ms := mk, nw := nw } (.bool false)) = sAttrs { S with ms := mk, nw := nw } (.bool false) from rfl]
    have jm : μ' mk = some (.list marks) := by rw [j3 _ (nk hs.hdm).symm (nk hs.htr).symm]; exact zm
    refine next_done (h _ mk nw hmk0 ?_ ?_ ?_)
    · rw [← hnw0, j3 _ (nnw j1).symm (nnw j2).symm, z0 _ (nnw jm).symm (nnw jd).symm]
    · exact
      { hd := Mu.set_self
        hdm := by rw [Mu.set_ne a2.symm, Mu.set_ne (nnw j1)]; exact j1
        hfr := by rw [Mu.set_ne a8.symm, Mu.set_ne (nnw jf)]; exact jf
        htr := by rw [Mu.set_ne a1.symm, Mu.set_ne (nnw j2)]; exact j2
        hmk := by rw [Mu.set_ne ndm, Mu.set_ne (nnw jm)]; exact jm
        hnw := ⟨[], by rw [Mu.set_ne (nnw jd).symm, Mu.set_self], by simp⟩
        n1 := hs.n1
        n2 := hs.n2
        n3 := nk hs.hdm
        n4 := hs.n4
        n5 := nk hs.hfr
        n6 := nk hs.htr }
    · intro b b1 b2 b3 b4 b5
      rw [Mu.set_ne b1, Mu.set_ne b5, j3 _ b2 b3, z0 _ b4 b1]
  | succ N =>
    rw [show decide ((m : Int) < ((m + (N + 1) : Nat) : Int)) = true by simp; omega]
    simp only [if_true]
    have hi : m + N < ts.length := by omega
    have ht : ts.take (m + (N + 1)) = ts.take (m + N) ++ [ts[m + N]] := by
      rw [← Nat.add_assoc, List.take_add_one, List.getElem?_eq_getElem hi]; rfl
    have hdr : ts.drop (m + N) = ts[m + N] :: ts.drop (m + (N + 1)) := by
      rw [List.drop_eq_getElem_cons hi, Nat.add_assoc]
    rw [ht, List.map_append] at j2
    generalize htt : ts[m + N] = t at *; revert t; refine id ?_; set_option tactic.hygienic false in intros
    refine at_tr (S := { S with ms := mk }) jd (pop_at j2 (by simp; omega) ?_)
    dsimp only [vk_nil, vk_cons, vl_nil, vl_cons, vf_nil, vf_cons, vo_none, vo_some, vt_one, vt_more, vi_seq, oo_int, oo_lst, vi_range1, vi_range2, vi_zip, vi_enum, vb_bnot, vb_band, vb_bor, vb_ite, vb_cmp, vb_chain, vb_const, vb_loc, vb_bin, vb_neg, vb_tup, vb_lst, vb_sub, vb_slice, vb_attr, vb_call, vb_bi, vb_meth, ve_dead, ve_const, ve_loc, ve_bin, ve_neg, ve_cmp, ve_band, ve_bor, ve_bnot, ve_ite, ve_tup, ve_lst, ve_dict0, ve_sdict2, ve_sub, ve_slice, ve_attr, ve_call, ve_bi, ve_sortset, ve_append, ve_pop, ve_meth, ve_comp, vs_dead, vs_assign1, vs_assignT, vs_assignA, vs_assignS, vs_expr, vs_ifS, vs_forS, vs_whileS, vs_ret0, vs_ret, setMany, setS, getS, initR, List.replicate, bindT, bindTs, unpackV, List.length_cons, List.length_nil]
    have hx' : t.x < doms.length := hx t (by rw [← htt]; exact List.getElem_mem hi)
    refine sub_tup (v := dP t.old) (by decide) rfl (at_dm (S := { S with ms := mk }) (f := .bool false) (by rw [Mu.set_ne a1]; exact jd) (sub_tup (v := .int t.x) (by decide) rfl ?_))
    refine set_at (l := undo doms (ts.drop (m + (N + 1)))) (by rw [Mu.set_ne hs.n2]; exact j1) (by rw [undo_len]; exact hx') (by rw [undo_len]; omega) ?_
    refine ⟨N, by omega, ⟨_, rfl⟩, by omega, ?_, ?_, fun b b1 b2 => by rw [Mu.set_ne b1, Mu.set_ne b2]; exact j3 b b1 b2⟩
    · rw [Mu.set_self, hdr, undo_cons]
    · rw [Mu.set_ne hs.n2.symm, Mu.set_self]
end
end Mine

open PySem PySem.Calls PyProof.Rows PySem.W
set_option maxRecDepth 100000
set_option linter.unusedVariables false
set_option linter.unusedSimpArgs false
set_option backward.match.sparseCases false
namespace Mine

noncomputable def cObj (d : Addr) : PV := .obj ⟨.ref 425, some d, .plain, #[]⟩
noncomputable def row (n : Nat) (f : Nat → PV) : List PV := (List.range n).map f
theorem row_len {n : Nat} {f : Nat → PV} : (row n f).length = n := by simp [row]
theorem row_at {n k : Nat} {f : Nat → PV} (h : k < n) : (row n f)[k]? = some (f k) := by simp [row, h]
theorem row_item {n k : Nat} {f : Nat → PV} (h : k < n) : itemAt (row n f) k = some (f k) := itemAt_nat (row_at h)
noncomputable def pI (i : Int) : PV := .int i
noncomputable def pN (k : Nat) : PV := .int (k : Int)
noncomputable def cAttrs (n : Nat) (L N : Nat → Int) (lim : Int) : List (Str × PV) := [("number", .int (-1)), ("scope", .tup (row n pN)), ("strength", .str "weak"), ("lasts", .tup (row n fun k => .int (L k))), ("needs", .tup (row n fun k => .int (N k))), ("limit", .int lim)]
noncomputable def CumAt (μ : Mu) (e : Addr) (n : Nat) (L N : Nat → Int) (lim : Int) : Prop := μ e = some (.attrs (cAttrs n L N lim))
section
variable {Γ : Gl} {n : Nat} {μ : Mu} {Q : PV → Mu → Prop}
theorem ret_frz {a : Addr} {l : List PV} {ρ : Rho} (h0 : μ a = none) (h : Q (.lst l) μ) : RetQ Q (.ret (.ref a)) ρ (μ.set a (.list l)) :=
  FZ.frz a l Mu.set_self (.cons (.inr ⟨rfl, rfl⟩) .nil) h0 (fun b hb => .inl (Mu.set_ne hb).symm) (FZ.done ⟨_, rfl, h⟩)
theorem ret_drop {a : Addr} {l : List PV} {p : PV} {ρ : Rho} (h0 : μ a = none) (h : Q p μ) : RetQ Q (.ret p) ρ (μ.set a (.list l)) :=
  FZ.drop a (by rw [Mu.set_self]; rfl) (FZ.done ⟨_, rfl, by rw [Mu.del_set h0]; exact h⟩)
section
variable {m : Nat} {L N : Nat → Int} {lim : Int} {e : Addr}
theorem at_scope {K : PV → Prop} (h : CumAt μ e m L N lim) (hk : K (.tup (row m pN))) : attrV (cObj e) 9 μ K := attr_at h rfl rfl rfl hk
theorem at_lasts {K : PV → Prop} (h : CumAt μ e m L N lim) (hk : K (.tup (row m fun k => .int (L k)))) : attrV (cObj e) 11 μ K := attr_at h rfl rfl rfl hk
theorem at_needs {K : PV → Prop} (h : CumAt μ e m L N lim) (hk : K (.tup (row m fun k => .int (N k)))) : attrV (cObj e) 12 μ K := attr_at h rfl rfl rfl hk
theorem sub_row {f : Nat → PV} {k : Nat} {K : PV → Prop} (hk : k < m) (hm : m ≤ 1000) (h : K (f k)) : subV (.tup (row m f)) (.int k) μ K :=
  sub_tup (by have : big = 100000 := rfl; simp; omega) (row_item hk) h
theorem sub_rowL {f : Nat → PV} {k : Nat} {K : PV → Prop} (hk : k < m) (hm : m ≤ 1000) (h : K (f k)) : subV (.lst (row m f)) (.int k) μ K :=
  sub_lst (by have : big = 100000 := rfl; simp; omega) (row_item hk) h
theorem sub_rowR {f : Nat → PV} {k : Nat} {a : Addr} {K : PV → Prop} (ha : μ a = some (.list (row m f))) (hk : k < m) (hm : m ≤ 1000) (h : K (f k)) : subV (.ref a) (.int k) μ K :=
  sub_ref ha (by have : big = 100000 := rfl; simp; omega) (row_item hk) h
theorem len_tup {l : List PV} {K : PV → Mu → Prop} (hl : l.length ≤ big) (hk : K (.int l.length) μ) : biV .len [.tup l] μ K := ⟨hl, hk⟩
theorem len_lst {l : List PV} {K : PV → Mu → Prop} (hl : l.length ≤ big) (hk : K (.int l.length) μ) : biV .len [.lst l] μ K := ⟨hl, hk⟩
theorem rangeP_map : ∀ (m : Nat) (a : Int), rangeP a m = (List.range m).map fun (k : Nat) => PV.int (a + k)
  | 0, a => rfl
  | m + 1, a => by
    rw [List.range_succ_eq_map, List.map_cons, List.map_map, rangeP, rangeP_map m (a + 1)]
    simp only [Int.natCast_zero, Int.add_zero]
    congr 1
    apply List.map_congr_left
    intro k _
    simp only [Function.comp_apply, Nat.succ_eq_add_one, Int.natCast_add, Int.natCast_one]
    congr 1
    omega
theorem rangeP_row (m : Nat) : rangeP 0 m = row m pN := by
  rw [rangeP_map]
  simp [row, pN]
noncomputable def tasksL (m : Nat) (L N : Nat → Int) : List Nat := (List.range m).filter fun k => decide (0 < L k) && decide (0 < N k)
theorem filter_map {α β : Type} (p : α → Bool) (f : α → β) (l : List α) : (l.filterMap fun a => if p a then some (f a) else none) = (l.filter p).map f := by
  induction l with
  | nil => rfl
  | cons a r ih => by_cases h : p a <;> simp [h, ih]
theorem tasks_len : (tasksL m L N).length ≤ m := Nat.le_trans (List.length_filter_le _ _) (by simp)
theorem c_tasks (P : PR Γ) (h : CumAt μ e m L N lim) (hm : m ≤ 1000) (hq : Q (.lst ((tasksL m L N).map pN)) μ) : CallT Γ (n + 1) (.ref 361) [cObj e] μ Q := by
  have hb : big = 100000 := rfl
  refine FN.call P.gt P.f361 rfl ?_
  dsimp only [m_Cumulative_tasks, vk_nil, vk_cons, vl_nil, vl_cons, vf_nil, vf_cons, vo_none, vo_some, vt_one, vt_more, vi_seq, oo_int, oo_lst, vi_range1, vi_range2, vi_zip, vi_enum, vb_bnot, vb_band, vb_bor, vb_ite, vb_cmp, vb_chain, vb_const, vb_loc, vb_bin, vb_neg, vb_tup, vb_lst, vb_sub, vb_slice, vb_attr, vb_call, vb_bi, vb_meth, ve_dead, ve_const, ve_loc, ve_bin, ve_neg, ve_cmp, ve_band, ve_bor, ve_bnot, ve_ite, ve_tup, ve_lst, ve_dict0, ve_sdict2, ve_sub, ve_slice, ve_attr, ve_call, ve_bi, ve_sortset, ve_append, ve_pop, ve_meth, ve_comp, vs_dead, vs_assign1, vs_assignT, vs_assignA, vs_assignS, vs_expr, vs_ifS, vs_forS, vs_whileS, vs_ret0, vs_ret, setMany, setS, getS, initR, List.replicate, bindT, bindTs, unpackV, List.length_cons, List.length_nil]
  refine at_scope h (len_tup (by rw [row_len]; omega) ⟨by rw [row_len]; omega, ?_⟩)
  rw [row_len, Int.toNat_natCast, rangeP_row]
  refine comp_pure (α := Nat) (List.range m) pN (fun k => if decide (0 < L k) && decide (0 < N k) then some (pN k) else none) rfl (by simp; omega) (fun k hk kk hkk => ?_) ?_
  · dsimp only [vk_nil, vk_cons, vl_nil, vl_cons, vf_nil, vf_cons, vo_none, vo_some, vt_one, vt_more, vi_seq, oo_int, oo_lst, vi_range1, vi_range2, vi_zip, vi_enum, vb_bnot, vb_band, vb_bor, vb_ite, vb_cmp, vb_chain, vb_const, vb_loc, vb_bin, vb_neg, vb_tup, vb_lst, vb_sub, vb_slice, vb_attr, vb_call, vb_bi, vb_meth, ve_dead, ve_const, ve_loc, ve_bin, ve_neg, ve_cmp, ve_band, ve_bor, ve_bnot, ve_ite, ve_tup, ve_lst, ve_dict0, ve_sdict2, ve_sub, ve_slice, ve_attr, ve_call, ve_bi, ve_sortset, ve_append, ve_pop, ve_meth, ve_comp, vs_dead, vs_assign1, vs_assignT, vs_assignA, vs_assignS, vs_expr, vs_ifS, vs_forS, vs_whileS, vs_ret0, vs_ret, setMany, setS, getS, initR, List.replicate, bindT, bindTs, unpackV, List.length_cons, List.length_nil]
    have hk' : k < m := by simpa using hk
    refine at_lasts h (sub_row hk' hm ?_)
    simp only [cmp_gt]
    by_cases c : 0 < L k
    · simp only [c, decide_true, if_true]
      refine at_needs h (sub_row hk' hm ?_)
      simp only [cmp_gt]
      by_cases c2 : 0 < N k
      · simpa [c, c2] using hkk
      · simpa [c, c2] using hkk
    · simpa [c] using hkk
  · rw [filter_map]
    refine newL_lst (by rw [List.length_map]; have := tasks_len (m := m) (L := L) (N := N); unfold tasksL at this; omega) (ret_done hq)
end
end
end Mine

open PySem PySem.Calls PyProof.Rows PySem.W
set_option maxRecDepth 100000
set_option linter.unusedVariables false
set_option linter.unusedSimpArgs false
set_option backward.match.sparseCases false
namespace Mine

noncomputable def enoughL (N : Nat → Int) (goal : Int) : List Nat → List Nat → Int → Option (List Nat)
  | [], f, need => if goal ≤ need then some f else none
  | k :: r, f, need => if goal ≤ need then some f else enoughL N goal r (f ++ [k]) (need + N k)
noncomputable def optL : Option (List Nat) → PV
  | some l => .lst (l.map pN)
  | none => .none
noncomputable def reasonsL (L : Nat → Int) (b e : Int) (run : List Nat) : List (Nat × Str × Int) := run.flatMap fun k => [(k, "<=", b), (k, ">=", e - L k)]
noncomputable def lit3 (t : Nat × Str × Int) : PV := litP t.1 t.2.1 t.2.2
theorem reasons_len (L : Nat → Int) (b e : Int) : ∀ run : List Nat, (reasonsL L b e run).length = 2 * run.length
  | [] => rfl
  | k :: r => by
    have := reasons_len L b e r
    simp only [reasonsL, List.flatMap_cons, List.length_append, List.length_cons, List.length_nil] at this ⊢
    omega
section
variable {Γ : Gl} {n : Nat} {μ : Mu} {Q : PV → Mu → Prop} {m : Nat} {L N : Nat → Int} {lim : Int} {e : Addr}
theorem cum_set {a : Addr} {l : List PV} (h : CumAt μ e m L N lim) (h0 : μ a = none) : CumAt (μ.set a (.list l)) e m L N lim := by
  unfold CumAt
  rw [Mu.set_ne (fun q => by subst q; rw [h] at h0; cases h0)]
  exact h
theorem c_reasons (P : PR Γ) {run : List Nat} {b en : Int} (h : CumAt μ e m L N lim) (hm : m ≤ 1000) (hr : ∀ k ∈ run, k < m) (hl : run.length ≤ 1000) (hq : Q (.lst ((reasonsL L b en run).map lit3)) μ) :
    CallT Γ (n + 1) (.ref 387) [cObj e, .lst (run.map pN), .int b, .int en] μ Q := by
  have hb : big = 100000 := rfl
  refine FN.call P.gt P.f387 rfl ?_
  dsimp only [m_Cumulative_reasons_for, vk_nil, vk_cons, vl_nil, vl_cons, vf_nil, vf_cons, vo_none, vo_some, vt_one, vt_more, vi_seq, oo_int, oo_lst, vi_range1, vi_range2, vi_zip, vi_enum, vb_bnot, vb_band, vb_bor, vb_ite, vb_cmp, vb_chain, vb_const, vb_loc, vb_bin, vb_neg, vb_tup, vb_lst, vb_sub, vb_slice, vb_attr, vb_call, vb_bi, vb_meth, ve_dead, ve_const, ve_loc, ve_bin, ve_neg, ve_cmp, ve_band, ve_bor, ve_bnot, ve_ite, ve_tup, ve_lst, ve_dict0, ve_sdict2, ve_sub, ve_slice, ve_attr, ve_call, ve_bi, ve_sortset, ve_append, ve_pop, ve_meth, ve_comp, vs_dead, vs_assign1, vs_assignT, vs_assignA, vs_assignS, vs_expr, vs_ifS, vs_forS, vs_whileS, vs_ret0, vs_ret, setMany, setS, getS, initR, List.replicate, bindT, bindTs, unpackV, List.length_cons, List.length_nil]
  refine newL_ref (by simp) fun a ha => ?_
  refine for_rule (by simp; omega) (fun i ρ' μ' => (∃ w, ρ' = [some (cObj e), some (.lst (run.map pN)), some (.int b), some (.int en), some (.ref a), w]) ∧ μ' = μ.set a (.list ((reasonsL L b en (run.take i)).map lit3))) (⟨⟨none, rfl⟩, by simp [reasonsL]⟩) (fun i x ρ' μ' hx hJ => ?_) fun ρ' μ' hJ => ?_
  · obtain ⟨⟨w, rfl⟩, rfl⟩ := hJ
    rw [nth_eq, List.getElem?_map] at hx
    cases hv : run[i]? with
    | none => rw [hv] at hx; cases hx
    | some k =>
      rw [hv] at hx
      cases hx
      have hi : i < run.length := (List.getElem?_eq_some_iff.mp hv).1
      have hk : k < m := hr k (List.mem_of_getElem? hv)
      have tl : (reasonsL L b en (run.take i)).length ≤ 2000 := by rw [reasons_len, List.length_take]; omega
      dsimp only [vk_nil, vk_cons, vl_nil, vl_cons, vf_nil, vf_cons, vo_none, vo_some, vt_one, vt_more, vi_seq, oo_int, oo_lst, vi_range1, vi_range2, vi_zip, vi_enum, vb_bnot, vb_band, vb_bor, vb_ite, vb_cmp, vb_chain, vb_const, vb_loc, vb_bin, vb_neg, vb_tup, vb_lst, vb_sub, vb_slice, vb_attr, vb_call, vb_bi, vb_meth, ve_dead, ve_const, ve_loc, ve_bin, ve_neg, ve_cmp, ve_band, ve_bor, ve_bnot, ve_ite, ve_tup, ve_lst, ve_dict0, ve_sdict2, ve_sub, ve_slice, ve_attr, ve_call, ve_bi, ve_sortset, ve_append, ve_pop, ve_meth, ve_comp, vs_dead, vs_assign1, vs_assignT, vs_assignA, vs_assignS, vs_expr, vs_ifS, vs_forS, vs_whileS, vs_ret0, vs_ret, setMany, setS, getS, initR, List.replicate, bindT, bindTs, unpackV, List.length_cons, List.length_nil]
      refine ⟨listRef_at Mu.set_self, at_scope (cum_set h ha) (sub_row hk hm (append_at Mu.set_self (by simp; omega) ?_))⟩
      rw [Mu.set_set]
      refine ⟨listRef_at Mu.set_self, at_scope (cum_set h ha) (sub_row hk hm (at_lasts (cum_set h ha) (sub_row hk hm ?_)))⟩
      simp only [bv_add, bv_sub, bv_mul, bv_mod, bv_tup, bv_lst]
      refine append_at Mu.set_self (by simp; omega) (FZ.done ⟨⟨_, rfl⟩, ?_⟩)
      rw [Mu.set_set, List.take_add_one, hv]
      simp [reasonsL, lit3, litP, pN]
  · obtain ⟨⟨w, rfl⟩, rfl⟩ := hJ
    dsimp only [vk_nil, vk_cons, vl_nil, vl_cons, vf_nil, vf_cons, vo_none, vo_some, vt_one, vt_more, vi_seq, oo_int, oo_lst, vi_range1, vi_range2, vi_zip, vi_enum, vb_bnot, vb_band, vb_bor, vb_ite, vb_cmp, vb_chain, vb_const, vb_loc, vb_bin, vb_neg, vb_tup, vb_lst, vb_sub, vb_slice, vb_attr, vb_call, vb_bi, vb_meth, ve_dead, ve_const, ve_loc, ve_bin, ve_neg, ve_cmp, ve_band, ve_bor, ve_bnot, ve_ite, ve_tup, ve_lst, ve_dict0, ve_sdict2, ve_sub, ve_slice, ve_attr, ve_call, ve_bi, ve_sortset, ve_append, ve_pop, ve_meth, ve_comp, vs_dead, vs_assign1, vs_assignT, vs_assignA, vs_assignS, vs_expr, vs_ifS, vs_forS, vs_whileS, vs_ret0, vs_ret, setMany, setS, getS, initR, List.replicate, bindT, bindTs, unpackV, List.length_cons, List.length_nil]
    refine ret_frz ha ?_
    rw [show run.take (run.map pN).length = run by simp]
    exact hq
theorem c_enough (P : PR Γ) {run : List Nat} {goal : Int} (h : CumAt μ e m L N lim) (hm : m ≤ 1000) (hr : ∀ k ∈ run, k < m) (hl : run.length ≤ 1000) (hq : Q (optL (enoughL N goal run [] 0)) μ) :
    CallT Γ (n + 1) (.ref 380) [cObj e, .lst (run.map pN), .int goal] μ Q := by
  have hb : big = 100000 := rfl
  refine FN.call P.gt P.f380 rfl ?_
  dsimp only [m_Cumulative_enough_of, vk_nil, vk_cons, vl_nil, vl_cons, vf_nil, vf_cons, vo_none, vo_some, vt_one, vt_more, vi_seq, oo_int, oo_lst, vi_range1, vi_range2, vi_zip, vi_enum, vb_bnot, vb_band, vb_bor, vb_ite, vb_cmp, vb_chain, vb_const, vb_loc, vb_bin, vb_neg, vb_tup, vb_lst, vb_sub, vb_slice, vb_attr, vb_call, vb_bi, vb_meth, ve_dead, ve_const, ve_loc, ve_bin, ve_neg, ve_cmp, ve_band, ve_bor, ve_bnot, ve_ite, ve_tup, ve_lst, ve_dict0, ve_sdict2, ve_sub, ve_slice, ve_attr, ve_call, ve_bi, ve_sortset, ve_append, ve_pop, ve_meth, ve_comp, vs_dead, vs_assign1, vs_assignT, vs_assignA, vs_assignS, vs_expr, vs_ifS, vs_forS, vs_whileS, vs_ret0, vs_ret, setMany, setS, getS, initR, List.replicate, bindT, bindTs, unpackV, List.length_cons, List.length_nil]
  refine newL_ref (by simp) fun a ha => ?_
  refine ⟨by trivial, for_rule (by simp; omega) (fun i ρ' μ' => ∃ w f need, ρ' = [some (cObj e), some (.lst (run.map pN)), some (.int goal), some (.ref a), some (.int need), w] ∧ μ' = μ.set a (.list (f.map pN)) ∧ f.length ≤ i ∧ enoughL N goal (run.drop i) f need = enoughL N goal run [] 0) (⟨none, [], 0, rfl, rfl, by simp, by simp⟩) (fun i x ρ' μ' hx hJ => ?_) fun ρ' μ' hJ => ?_⟩
  · obtain ⟨w, f, need, rfl, rfl, hf, he⟩ := hJ
    rw [nth_eq, List.getElem?_map] at hx
    cases hv : run[i]? with
    | none => rw [hv] at hx; cases hx
    | some k =>
      rw [hv] at hx
      cases hx
      have hi : i < run.length := (List.getElem?_eq_some_iff.mp hv).1
      have hk : k < m := hr k (List.mem_of_getElem? hv)
      have hd : run.drop i = k :: run.drop (i + 1) := by
        rw [List.drop_eq_getElem_cons hi]
        congr 1
        exact (List.getElem?_eq_some_iff.mp hv).2
      rw [hd, enoughL] at he
      ((try dsimp only [vk_nil, vk_cons, vl_nil, vl_cons, vf_nil, vf_cons, vo_none, vo_some, vt_one, vt_more, vi_seq, oo_int, oo_lst, vi_range1, vi_range2, vi_zip, vi_enum, vb_bnot, vb_band, vb_bor, vb_ite, vb_cmp, vb_chain, vb_const, vb_loc, vb_bin, vb_neg, vb_tup, vb_lst, vb_sub, vb_slice, vb_attr, vb_call, vb_bi, vb_meth, ve_dead, ve_const, ve_loc, ve_bin, ve_neg, ve_cmp, ve_band, ve_bor, ve_bnot, ve_ite, ve_tup, ve_lst, ve_dict0, ve_sdict2, ve_sub, ve_slice, ve_attr, ve_call, ve_bi, ve_sortset, ve_append, ve_pop, ve_meth, ve_comp, vs_dead, vs_assign1, vs_assignT, vs_assignA, vs_assignS, vs_expr, vs_ifS, vs_forS, vs_whileS, vs_ret0, vs_ret, setMany, setS, getS, initR, List.replicate, bindT, bindTs, unpackV, List.length_cons, List.length_nil]); simp only [vk_nil, vk_cons, vl_nil, vl_cons, vf_nil, vf_cons, vo_none, vo_some, vt_one, vt_more, vi_seq, oo_int, oo_lst, vi_range1, vi_range2, vi_zip, vi_enum, vb_bnot, vb_band, vb_bor, vb_ite, vb_cmp, vb_chain, vb_const, vb_loc, vb_bin, vb_neg, vb_tup, vb_lst, vb_sub, vb_slice, vb_attr, vb_call, vb_bi, vb_meth, ve_dead, ve_const, ve_loc, ve_bin, ve_neg, ve_cmp, ve_band, ve_bor, ve_bnot, ve_ite, ve_tup, ve_lst, ve_dict0, ve_sdict2, ve_sub, ve_slice, ve_attr, ve_call, ve_bi, ve_sortset, ve_append, ve_pop, ve_meth, ve_comp, vs_dead, vs_assign1, vs_assignT, vs_assignA, vs_assignS, vs_expr, vs_ifS, vs_forS, vs_whileS, vs_ret0, vs_ret, setMany, setS, getS, initR, List.replicate, bindT, bindTs, unpackV, List.length_cons, List.length_nil, cmp_ge])
      by_cases c : goal ≤ need
      · rw [if_pos c] at he
        simp only [c, decide_true, if_true]
        refine ret_frz ha ?_
        rw [← he] at hq
        exact hq
      · rw [if_neg c] at he
        simp only [c, decide_false, Bool.false_eq_true, if_false]
        refine ⟨listRef_at Mu.set_self, append_at Mu.set_self (by simp; omega) ?_⟩
        rw [Mu.set_set]
        refine at_needs (cum_set h ha) (sub_row hk hm ?_)
        simp only [bv_add, bv_sub, bv_mul, bv_mod, bv_tup, bv_lst]
        refine FZ.done ⟨_, f ++ [k], need + N k, rfl, by simp [pN], by simp; omega, he⟩
  · obtain ⟨w, f, need, rfl, rfl, hf, he⟩ := hJ
    rw [show run.drop (run.map pN).length = [] by simp, enoughL] at he
    ((try dsimp only [vk_nil, vk_cons, vl_nil, vl_cons, vf_nil, vf_cons, vo_none, vo_some, vt_one, vt_more, vi_seq, oo_int, oo_lst, vi_range1, vi_range2, vi_zip, vi_enum, vb_bnot, vb_band, vb_bor, vb_ite, vb_cmp, vb_chain, vb_const, vb_loc, vb_bin, vb_neg, vb_tup, vb_lst, vb_sub, vb_slice, vb_attr, vb_call, vb_bi, vb_meth, ve_dead, ve_const, ve_loc, ve_bin, ve_neg, ve_cmp, ve_band, ve_bor, ve_bnot, ve_ite, ve_tup, ve_lst, ve_dict0, ve_sdict2, ve_sub, ve_slice, ve_attr, ve_call, ve_bi, ve_sortset, ve_append, ve_pop, ve_meth, ve_comp, vs_dead, vs_assign1, vs_assignT, vs_assignA, vs_assignS, vs_expr, vs_ifS, vs_forS, vs_whileS, vs_ret0, vs_ret, setMany, setS, getS, initR, List.replicate, bindT, bindTs, unpackV, List.length_cons, List.length_nil]); simp only [vk_nil, vk_cons, vl_nil, vl_cons, vf_nil, vf_cons, vo_none, vo_some, vt_one, vt_more, vi_seq, oo_int, oo_lst, vi_range1, vi_range2, vi_zip, vi_enum, vb_bnot, vb_band, vb_bor, vb_ite, vb_cmp, vb_chain, vb_const, vb_loc, vb_bin, vb_neg, vb_tup, vb_lst, vb_sub, vb_slice, vb_attr, vb_call, vb_bi, vb_meth, ve_dead, ve_const, ve_loc, ve_bin, ve_neg, ve_cmp, ve_band, ve_bor, ve_bnot, ve_ite, ve_tup, ve_lst, ve_dict0, ve_sdict2, ve_sub, ve_slice, ve_attr, ve_call, ve_bi, ve_sortset, ve_append, ve_pop, ve_meth, ve_comp, vs_dead, vs_assign1, vs_assignT, vs_assignA, vs_assignS, vs_expr, vs_ifS, vs_forS, vs_whileS, vs_ret0, vs_ret, setMany, setS, getS, initR, List.replicate, bindT, bindTs, unpackV, List.length_cons, List.length_nil, cmp_ge])
    by_cases c : goal ≤ need
    · rw [if_pos c] at he
      simp only [c, decide_true, if_true]
      refine ret_frz ha ?_
      rw [← he] at hq
      exact hq
    · rw [if_neg c] at he
      simp only [c, decide_false, Bool.false_eq_true, if_false]
      refine ret_drop ha ?_
      rw [← he] at hq
      exact hq
theorem putS_le {κ : Type} [DecidableEq κ] {k : κ} {v : PV} {es : List (κ × PV)} {b : Nat} (h : es.length ≤ b) : (putS k v es).length ≤ b + 1 := Nat.le_trans putS_len (Nat.succ_le_succ h)
theorem tuple_lst {l : List PV} {K : PV → Mu → Prop} (hl : l.length ≤ big) (hk : K (.tup l) μ) : biV .tuple [.lst l] μ K := ⟨hl, hk⟩
theorem minI_nonneg : ∀ (l : List Int) (a : Int), 0 ≤ a → (∀ b ∈ l, 0 ≤ b) → 0 ≤ minI a l
  | [], a, h, _ => h
  | b :: r, a, h, hl => by
    rw [minI]
    refine minI_nonneg r _ ?_ fun c hc => hl c (List.mem_cons_of_mem _ hc)
    have := hl b List.mem_cons_self
    split <;> assumption
theorem c_numbers_tup (P : PR Γ) {xs : List Int} {p : PV} {w : Str} (hp : p = .tup (xs.map .int) ∨ p = .lst (xs.map .int)) (hl : xs.length ≤ 1000) (hx : ∀ x ∈ xs, 0 ≤ x) (hq : Q (.tup (xs.map .int)) μ) :
    CallT Γ (n + 1) (.ref 340) [p, .int xs.length, .str w] μ Q := by
  have hb : big = 100000 := rfl
  refine FN.call P.gt P.f340 rfl ?_
  dsimp only [m_as_numbers, vk_nil, vk_cons, vl_nil, vl_cons, vf_nil, vf_cons, vo_none, vo_some, vt_one, vt_more, vi_seq, oo_int, oo_lst, vi_range1, vi_range2, vi_zip, vi_enum, vb_bnot, vb_band, vb_bor, vb_ite, vb_cmp, vb_chain, vb_const, vb_loc, vb_bin, vb_neg, vb_tup, vb_lst, vb_sub, vb_slice, vb_attr, vb_call, vb_bi, vb_meth, ve_dead, ve_const, ve_loc, ve_bin, ve_neg, ve_cmp, ve_band, ve_bor, ve_bnot, ve_ite, ve_tup, ve_lst, ve_dict0, ve_sdict2, ve_sub, ve_slice, ve_attr, ve_call, ve_bi, ve_sortset, ve_append, ve_pop, ve_meth, ve_comp, vs_dead, vs_assign1, vs_assignT, vs_assignA, vs_assignS, vs_expr, vs_ifS, vs_forS, vs_whileS, vs_ret0, vs_ret, setMany, setS, getS, initR, List.replicate, bindT, bindTs, unpackV, List.length_cons, List.length_nil]
  have t1 : ∀ K : PV → Mu → Prop, K (.tup (xs.map .int)) μ → biV .tuple [p] μ K := by
    intro K hK
    rcases hp with rfl | rfl
    · exact ⟨by simp; omega, hK⟩
    · exact ⟨by simp; omega, hK⟩
  refine t1 _ (len_tup (by simp; omega) ?_)
  have e1 : ∀ (a : Int) (k : Bool → Prop), cmpV .NotEq (.int a) (.int a) μ k = k (!(a == a)) := fun _ _ => rfl
  rw [List.length_map, e1]
  simp only [beq_self_eq_true, Bool.not_true, Bool.false_eq_true, if_false, bv_add, bv_sub, bv_mul, bv_mod, bv_tup, bv_lst]
  refine ⟨by simp; omega, ?_⟩
  simp only [bi_len, bi_min2, bi_max2, bi_minT, bi_sum, bi_sorted, bi_list, bi_tuple, bi_all]
  have e2 : xs.map PV.int ++ [PV.int 0] = (xs ++ [0]).map PV.int := by simp
  rw [e2, intsP_map]
  cases hxs : xs ++ [0] with
  | nil => simp at hxs
  | cons a r =>
    have hall : ∀ b ∈ a :: r, 0 ≤ b := by
      rw [← hxs]
      intro b hb
      rcases List.mem_append.mp hb with q | q
      · exact hx b q
      · rw [List.mem_singleton.mp q]; omega
    have hln : (a :: r).length ≤ 1001 := by rw [← hxs]; simp; omega
    refine ⟨by rw [List.length_map]; omega, ?_⟩
    rw [cmp_lt]
    have : 0 ≤ minI a r := minI_nonneg r a (hall a List.mem_cons_self) fun b hb => hall b (List.mem_cons_of_mem _ hb)
    rw [decide_eq_false (by omega)]
    simp only [Bool.false_eq_true, if_false]
    exact ret_done hq
theorem c_prop_init (P : PR Γ) {d : Addr} {l : List PV} (hd : μ d = some (.attrs [])) (hl : l.length ≤ 1000) (hq : Q .none (μ.set d (.attrs [("number", .int (-1)), ("scope", .tup l), ("strength", .str "weak")]))) :
    CallT Γ (n + 1) (.ref 305) [cObj d, .lst l, .str "weak"] μ Q := by
  have hb : big = 100000 := rfl
  refine FN.call P.gt P.f305 rfl ?_
  dsimp only [m_Propagator__init, vk_nil, vk_cons, vl_nil, vl_cons, vf_nil, vf_cons, vo_none, vo_some, vt_one, vt_more, vi_seq, oo_int, oo_lst, vi_range1, vi_range2, vi_zip, vi_enum, vb_bnot, vb_band, vb_bor, vb_ite, vb_cmp, vb_chain, vb_const, vb_loc, vb_bin, vb_neg, vb_tup, vb_lst, vb_sub, vb_slice, vb_attr, vb_call, vb_bi, vb_meth, ve_dead, ve_const, ve_loc, ve_bin, ve_neg, ve_cmp, ve_band, ve_bor, ve_bnot, ve_ite, ve_tup, ve_lst, ve_dict0, ve_sdict2, ve_sub, ve_slice, ve_attr, ve_call, ve_bi, ve_sortset, ve_append, ve_pop, ve_meth, ve_comp, vs_dead, vs_assign1, vs_assignT, vs_assignA, vs_assignS, vs_expr, vs_ifS, vs_forS, vs_whileS, vs_ret0, vs_ret, setMany, setS, getS, initR, List.replicate, bindT, bindTs, unpackV, List.length_cons, List.length_nil]
  refine setat_at hd rfl rfl (by simp) ?_
  refine tuple_lst (by omega) ?_
  refine setat_at Mu.set_self rfl rfl (by repeat' (first | exact Nat.zero_le _ | refine putS_le ?_)) ?_
  rw [Mu.set_set]
  refine setat_at Mu.set_self rfl rfl (by repeat' (first | exact Nat.zero_le _ | refine putS_le ?_)) ?_
  rw [Mu.set_set]
  exact next_done hq
theorem c_store_init (P : PR Γ) {d : Addr} (hd : μ d = some (.attrs [])) (hq : ∀ μ' S, S.d = d → StoreAt μ' S [] [] [] [] → (∀ b, b ≠ d → μ b ≠ none → μ' b = μ b) → (∀ a ∈ [S.dm, S.fr, S.tr, S.ms, S.nw], μ a = none) → Q .none μ') :
    CallT Γ (n + 1) (.ref 151) [sObj d] μ Q := by
  refine FN.call P.gt P.f151 rfl ?_
  dsimp only [m_Store__init, vk_nil, vk_cons, vl_nil, vl_cons, vf_nil, vf_cons, vo_none, vo_some, vt_one, vt_more, vi_seq, oo_int, oo_lst, vi_range1, vi_range2, vi_zip, vi_enum, vb_bnot, vb_band, vb_bor, vb_ite, vb_cmp, vb_chain, vb_const, vb_loc, vb_bin, vb_neg, vb_tup, vb_lst, vb_sub, vb_slice, vb_attr, vb_call, vb_bi, vb_meth, ve_dead, ve_const, ve_loc, ve_bin, ve_neg, ve_cmp, ve_band, ve_bor, ve_bnot, ve_ite, ve_tup, ve_lst, ve_dict0, ve_sdict2, ve_sub, ve_slice, ve_attr, ve_call, ve_bi, ve_sortset, ve_append, ve_pop, ve_meth, ve_comp, vs_dead, vs_assign1, vs_assignT, vs_assignA, vs_assignS, vs_expr, vs_ifS, vs_forS, vs_whileS, vs_ret0, vs_ret, setMany, setS, getS, initR, List.replicate, bindT, bindTs, unpackV, List.length_cons, List.length_nil]
  have nk : ∀ {a b o} {μ : Mu}, μ a = none → μ b = some o → b ≠ a := fun h q r => by subst r; rw [q] at h; cases h
  have nn : ∀ {a b o} {μ : Mu}, (μ.set b o) a = none → μ a = none ∧ a ≠ b := fun {a b o μ} h => by
    by_cases q : a = b
    · subst q; rw [Mu.set_self] at h; cases h
    · exact ⟨by rwa [Mu.set_ne q] at h, q⟩
  refine newL_ref (by simp) fun dm h1 => ?_
  have d1 := nk h1 hd
  refine setat_at (by rw [Mu.set_ne d1]; exact hd) rfl rfl (by repeat' (first | exact Nat.zero_le _ | refine putS_le ?_)) ?_
  refine newL_ref (by simp) fun fr h2 => ?_
  refine setat_at (by rw [Mu.set_ne (nk h2 Mu.set_self), Mu.set_self]) rfl rfl (by repeat' (first | exact Nat.zero_le _ | refine putS_le ?_)) ?_
  refine newL_ref (by simp) fun tr h3 => ?_
  refine setat_at (by rw [Mu.set_ne (nk h3 Mu.set_self), Mu.set_self]) rfl rfl (by repeat' (first | exact Nat.zero_le _ | refine putS_le ?_)) ?_
  refine newL_ref (by simp) fun ms h4 => ?_
  refine setat_at (by rw [Mu.set_ne (nk h4 Mu.set_self), Mu.set_self]) rfl rfl (by repeat' (first | exact Nat.zero_le _ | refine putS_le ?_)) ?_
  refine fun nw h5 => ?_
  refine setat_at (by rw [Mu.set_ne (nk h5 Mu.set_self), Mu.set_self]) rfl rfl (by repeat' (first | exact Nat.zero_le _ | refine putS_le ?_)) ?_
  refine setat_at Mu.set_self rfl rfl (by repeat' (first | exact Nat.zero_le _ | refine putS_le ?_)) ?_
  rw [Mu.set_set]
  refine setat_at Mu.set_self rfl rfl (by repeat' (first | exact Nat.zero_le _ | refine putS_le ?_)) ?_
  rw [Mu.set_set]
  refine setat_at Mu.set_self rfl rfl (by repeat' (first | exact Nat.zero_le _ | refine putS_le ?_)) ?_
  rw [Mu.set_set]
  obtain ⟨g2, n2⟩ := nn h2
  obtain ⟨g2, n3⟩ := nn g2
  obtain ⟨g3, n4⟩ := nn h3
  obtain ⟨g3, n5⟩ := nn g3
  obtain ⟨g3, n6⟩ := nn g3
  obtain ⟨g3, n7⟩ := nn g3
  obtain ⟨g4, n8⟩ := nn h4
  obtain ⟨g4, n9⟩ := nn g4
  obtain ⟨g4, n10⟩ := nn g4
  obtain ⟨g4, n11⟩ := nn g4
  obtain ⟨g4, n12⟩ := nn g4
  obtain ⟨g4, n13⟩ := nn g4
  obtain ⟨g5, n14⟩ := nn h5
  obtain ⟨g5, n15⟩ := nn g5
  obtain ⟨g5, n16⟩ := nn g5
  obtain ⟨g5, n17⟩ := nn g5
  obtain ⟨g5, n18⟩ := nn g5
  obtain ⟨g5, n19⟩ := nn g5
  obtain ⟨g5, n20⟩ := nn g5
  obtain ⟨g5, n21⟩ := nn g5
  refine next_done (hq _ ⟨d, dm, fr, tr, ms, nw⟩ rfl ?_ ?_ ?_)
  · exact
    { hd := Mu.set_self
      hdm := by simp [Mu.set, d1.symm, n3.symm, n7.symm, n13.symm, n21.symm]
      hfr := by simp [Mu.set, n2, n5.symm, n11.symm, n19.symm]
      htr := by simp [Mu.set, n4, n9.symm, n17.symm]
      hmk := by simp [Mu.set, n8, n15.symm]
      hnw := ⟨[], by simp [Mu.set, n14], by simp⟩
      n1 := n3.symm
      n2 := n7.symm
      n3 := n13.symm
      n4 := n5.symm
      n5 := n11.symm
      n6 := n9.symm }
  · intro b hb h0
    have q : ∀ a, μ a = none → b ≠ a := fun a ha r => h0 (r ▸ ha)
    simp [Mu.set, hb, q _ h1, q _ g2, q _ g3, q _ g4, q _ g5]
  · intro a ha
    simp only [List.mem_cons, List.not_mem_nil, or_false] at ha
    rcases ha with rfl | rfl | rfl | rfl | rfl <;> assumption
end
end Mine

open PySem PySem.Calls PyProof.Rows PySem.W
set_option maxRecDepth 100000
set_option linter.unusedVariables false
set_option linter.unusedSimpArgs false
set_option backward.match.sparseCases false
namespace Mine

noncomputable def loD : Dom → Int
  | (a, _) :: _ => a
  | [] => 0
noncomputable def hiD (d : Dom) : Int := match d.getLast? with
  | some p => p.2
  | none => 0
noncomputable def sureL (m : Nat) (L N lo hi : Nat → Int) : List (Int × Int × Nat) := (tasksL m L N).filterMap fun k => if hi k < lo k + L k then some (hi k, lo k + L k, k) else none
noncomputable def st3 (t : Int × Int × Nat) : PV := .tup [.int t.1, .int t.2.1, .int t.2.2]
noncomputable def endsL (s : List (Int × Int × Nat)) : List Int := sortI (dedupI (s.map (·.1) ++ s.map (·.2.1)))
noncomputable def runL (s : List (Int × Int × Nat)) (b e : Int) : List Nat := s.filterMap fun t => if decide (t.1 ≤ b) && decide (e ≤ t.2.1) then some t.2.2 else none
noncomputable def blocksL (s : List (Int × Int × Nat)) : List (Int × Int × List Nat) := ((endsL s).zip ((endsL s).drop 1)).filterMap fun p => if 0 < (runL s p.1 p.2).length then some (p.1, p.2, runL s p.1 p.2) else none
noncomputable def bl3 (t : Int × Int × List Nat) : PV := .tup [.int t.1, .int t.2.1, .lst (t.2.2.map pN)]
section
variable {Γ : Gl} {n : Nat} {μ : Mu} {Q : PV → Mu → Prop} {m : Nat} {L N : Nat → Int} {lim : Int} {e : Addr}
theorem c_new_var (P : PR Γ) {S : SA} {doms firsts trail marks : List PV} {d : Dom} (hs : StoreAt μ S doms firsts trail marks) (hd : d ≠ []) (hl : doms.length ≤ 1000) (hf : firsts.length ≤ 1000)
    (h : ∀ μ', StoreAt μ' S (doms ++ [dP d]) (firsts ++ [dP d]) trail marks → (∀ b, b ≠ S.dm → b ≠ S.fr → μ' b = μ b) → Q (.int doms.length) μ') : CallT Γ (n + 1) (.ref 158) [sObj S.d, dP d] μ Q := by
  have hb : big = 100000 := rfl
  refine FN.call P.gt P.f158 rfl ?_
  dsimp only [m_Store_new_var, vk_nil, vk_cons, vl_nil, vl_cons, vf_nil, vf_cons, vo_none, vo_some, vt_one, vt_more, vi_seq, oo_int, oo_lst, vi_range1, vi_range2, vi_zip, vi_enum, vb_bnot, vb_band, vb_bor, vb_ite, vb_cmp, vb_chain, vb_const, vb_loc, vb_bin, vb_neg, vb_tup, vb_lst, vb_sub, vb_slice, vb_attr, vb_call, vb_bi, vb_meth, ve_dead, ve_const, ve_loc, ve_bin, ve_neg, ve_cmp, ve_band, ve_bor, ve_bnot, ve_ite, ve_tup, ve_lst, ve_dict0, ve_sdict2, ve_sub, ve_slice, ve_attr, ve_call, ve_bi, ve_sortset, ve_append, ve_pop, ve_meth, ve_comp, vs_dead, vs_assign1, vs_assignT, vs_assignA, vs_assignS, vs_expr, vs_ifS, vs_forS, vs_whileS, vs_ret0, vs_ret, setMany, setS, getS, initR, List.replicate, bindT, bindTs, unpackV, List.length_cons, List.length_nil]
  have a2 := ne_of hs.hd hs.hdm (by simp)
  have a3 := ne_of hs.hd hs.hfr (by simp)
  obtain ⟨es, e1, e2⟩ := hs.hnw
  have a4 := ne_of e1 hs.hdm (by simp)
  have a5 := ne_of e1 hs.hfr (by simp)
  refine at_dm hs.hd ⟨listRef_at hs.hdm, append_at hs.hdm (by omega) ?_⟩
  have d1 : (μ.set S.dm (.list (doms ++ [dP d]))) S.d = some (.attrs (sAttrs S (.bool false))) := by rw [Mu.set_ne a2]; exact hs.hd
  have f1 : (μ.set S.dm (.list (doms ++ [dP d]))) S.fr = some (.list firsts) := by rw [Mu.set_ne hs.n1.symm]; exact hs.hfr
  refine at_fr d1 ⟨listRef_at f1, append_at f1 (by omega) ?_⟩
  rw [show PV.tup [] = dP [] from rfl]
  refine eq_dom ?_
  rw [decide_eq_false hd]
  simp only [Bool.false_eq_true, if_false]
  refine at_dm (f := .bool false) (by rw [Mu.set_ne a3]; exact d1) (len_at (l := doms ++ [dP d]) (by rw [Mu.set_ne hs.n1, Mu.set_self]) (by simp; omega) ?_)
  simp only [bv_add, bv_sub, bv_mul, bv_mod, bv_tup, bv_lst]
  rw [show (((doms ++ [dP d]).length : Nat) : Int) - 1 = (doms.length : Int) by simp]
  refine ret_done (h _ ?_ fun b b1 b2 => by rw [Mu.set_ne b2, Mu.set_ne b1])
  exact { hs with
    hd := by rw [Mu.set_ne a3]; exact d1
    hdm := by rw [Mu.set_ne hs.n1, Mu.set_self]
    hfr := Mu.set_self
    htr := by rw [Mu.set_ne hs.n4.symm, Mu.set_ne hs.n2.symm]; exact hs.htr
    hmk := by rw [Mu.set_ne hs.n5.symm, Mu.set_ne hs.n3.symm]; exact hs.hmk
    hnw := ⟨es, by rw [Mu.set_ne a5, Mu.set_ne a4]; exact e1, e2⟩ }
theorem lo_call (P : PR Γ) {S : SA} {D : Nat → Dom} {firsts trail marks : List PV} {k : Nat} (hs : StoreAt μ S (row m fun k => dP (D k)) firsts trail marks) (hk : k < m) (hm : m ≤ 1000) (hd : D k ≠ []) (h : Q (.int (loD (D k))) μ) :
    CallT Γ (n + 2) (.ref 186) [sObj S.d, .int k] μ Q := by
  have hb : big = 100000 := rfl
  cases hD : D k with
  | nil => exact absurd hD hd
  | cons p r =>
    obtain ⟨a, b⟩ := p
    rw [hD] at h
    have e : loD ((a, b) :: r) = a := rfl
    rw [e] at h
    exact c_low P hs (b := b) (r := r) (by rw [row_at hk, hD]) (by omega) h
theorem hi_call (P : PR Γ) {S : SA} {D : Nat → Dom} {firsts trail marks : List PV} {k : Nat} (hs : StoreAt μ S (row m fun k => dP (D k)) firsts trail marks) (hk : k < m) (hm : m ≤ 1000) (hd : D k ≠ []) (h : Q (.int (hiD (D k))) μ) :
    CallT Γ (n + 2) (.ref 193) [sObj S.d, .int k] μ Q := by
  have hb : big = 100000 := rfl
  rcases snoc_cases (D k) with hD | ⟨r, ⟨a, b⟩, hD⟩
  · exact absurd hD hd
  · have e : hiD (D k) = b := by rw [hD]; simp [hiD]
    rw [e] at h
    exact c_high P hs (by rw [row_at hk, hD]) (by omega) h
theorem store_set {S : SA} {doms firsts trail marks : List PV} {a : Addr} {o : MO} (hs : StoreAt μ S doms firsts trail marks) (h0 : μ a = none) : StoreAt (μ.set a o) S doms firsts trail marks := by
  have nk : ∀ {b o}, μ b = some o → b ≠ a := fun h q => by rw [q, h0] at h; cases h
  obtain ⟨es, e1, e2⟩ := hs.hnw
  exact { hs with
    hd := by rw [Mu.set_ne (nk hs.hd)]; exact hs.hd
    hdm := by rw [Mu.set_ne (nk hs.hdm)]; exact hs.hdm
    hfr := by rw [Mu.set_ne (nk hs.hfr)]; exact hs.hfr
    htr := by rw [Mu.set_ne (nk hs.htr)]; exact hs.htr
    hmk := by rw [Mu.set_ne (nk hs.hmk)]; exact hs.hmk
    hnw := ⟨es, by rw [Mu.set_ne (nk e1)]; exact e1, e2⟩ }
theorem c_sure (P : PR Γ) {S : SA} {D : Nat → Dom} {firsts trail marks : List PV} (h : CumAt μ e m L N lim) (hs : StoreAt μ S (row m fun k => dP (D k)) firsts trail marks) (hm : m ≤ 1000) (hd : ∀ k, k < m → D k ≠ [])
    (hq : Q (.lst ((sureL m L N (fun k => loD (D k)) (fun k => hiD (D k))).map st3)) μ) : CallT Γ (n + 3) (.ref 368) [cObj e, sObj S.d] μ Q := by
  have hb : big = 100000 := rfl
  refine FN.call P.gt P.f368 rfl ?_
  dsimp only [m_Cumulative_sure_times, vk_nil, vk_cons, vl_nil, vl_cons, vf_nil, vf_cons, vo_none, vo_some, vt_one, vt_more, vi_seq, oo_int, oo_lst, vi_range1, vi_range2, vi_zip, vi_enum, vb_bnot, vb_band, vb_bor, vb_ite, vb_cmp, vb_chain, vb_const, vb_loc, vb_bin, vb_neg, vb_tup, vb_lst, vb_sub, vb_slice, vb_attr, vb_call, vb_bi, vb_meth, ve_dead, ve_const, ve_loc, ve_bin, ve_neg, ve_cmp, ve_band, ve_bor, ve_bnot, ve_ite, ve_tup, ve_lst, ve_dict0, ve_sdict2, ve_sub, ve_slice, ve_attr, ve_call, ve_bi, ve_sortset, ve_append, ve_pop, ve_meth, ve_comp, vs_dead, vs_assign1, vs_assignT, vs_assignA, vs_assignS, vs_expr, vs_ifS, vs_forS, vs_whileS, vs_ret0, vs_ret, setMany, setS, getS, initR, List.replicate, bindT, bindTs, unpackV, List.length_cons, List.length_nil]
  refine newL_ref (by simp) fun a ha => ?_
  refine meth_at (cum_set h ha) rfl rfl ?_
  dsimp only [vk_nil, vk_cons, vl_nil, vl_cons, vf_nil, vf_cons, vo_none, vo_some, vt_one, vt_more, vi_seq, oo_int, oo_lst, vi_range1, vi_range2, vi_zip, vi_enum, vb_bnot, vb_band, vb_bor, vb_ite, vb_cmp, vb_chain, vb_const, vb_loc, vb_bin, vb_neg, vb_tup, vb_lst, vb_sub, vb_slice, vb_attr, vb_call, vb_bi, vb_meth, ve_dead, ve_const, ve_loc, ve_bin, ve_neg, ve_cmp, ve_band, ve_bor, ve_bnot, ve_ite, ve_tup, ve_lst, ve_dict0, ve_sdict2, ve_sub, ve_slice, ve_attr, ve_call, ve_bi, ve_sortset, ve_append, ve_pop, ve_meth, ve_comp, vs_dead, vs_assign1, vs_assignT, vs_assignA, vs_assignS, vs_expr, vs_ifS, vs_forS, vs_whileS, vs_ret0, vs_ret, setMany, setS, getS, initR, List.replicate, bindT, bindTs, unpackV, List.length_cons, List.length_nil]
  refine c_tasks P (cum_set h ha) hm ?_
  dsimp only [vk_nil, vk_cons, vl_nil, vl_cons, vf_nil, vf_cons, vo_none, vo_some, vt_one, vt_more, vi_seq, oo_int, oo_lst, vi_range1, vi_range2, vi_zip, vi_enum, vb_bnot, vb_band, vb_bor, vb_ite, vb_cmp, vb_chain, vb_const, vb_loc, vb_bin, vb_neg, vb_tup, vb_lst, vb_sub, vb_slice, vb_attr, vb_call, vb_bi, vb_meth, ve_dead, ve_const, ve_loc, ve_bin, ve_neg, ve_cmp, ve_band, ve_bor, ve_bnot, ve_ite, ve_tup, ve_lst, ve_dict0, ve_sdict2, ve_sub, ve_slice, ve_attr, ve_call, ve_bi, ve_sortset, ve_append, ve_pop, ve_meth, ve_comp, vs_dead, vs_assign1, vs_assignT, vs_assignA, vs_assignS, vs_expr, vs_ifS, vs_forS, vs_whileS, vs_ret0, vs_ret, setMany, setS, getS, initR, List.replicate, bindT, bindTs, unpackV, List.length_cons, List.length_nil]
  have tl : (tasksL m L N).length ≤ m := tasks_len
  refine for_rule (by simp; omega) (fun i ρ' μ' => (∃ w1 w2 w3, ρ' = [some (cObj e), some (sObj S.d), some (.ref a), w1, w2, w3]) ∧ μ' = μ.set a (.list ((((tasksL m L N).take i).filterMap fun k => if hiD (D k) < loD (D k) + L k then some (hiD (D k), loD (D k) + L k, k) else none).map st3))) (⟨⟨_, _, _, rfl⟩, by simp⟩) (fun i x ρ' μ' hx hJ => ?_) fun ρ' μ' hJ => ?_
  · obtain ⟨⟨w1, w2, w3, rfl⟩, rfl⟩ := hJ
    rw [nth_eq, List.getElem?_map] at hx
    cases hv : (tasksL m L N)[i]? with
    | none => rw [hv] at hx; cases hx
    | some k =>
      rw [hv] at hx
      cases hx
      have hk : k < m := by
        have := List.mem_of_getElem? hv
        have := (List.mem_filter.mp this).1
        simpa using this
      dsimp only [vk_nil, vk_cons, vl_nil, vl_cons, vf_nil, vf_cons, vo_none, vo_some, vt_one, vt_more, vi_seq, oo_int, oo_lst, vi_range1, vi_range2, vi_zip, vi_enum, vb_bnot, vb_band, vb_bor, vb_ite, vb_cmp, vb_chain, vb_const, vb_loc, vb_bin, vb_neg, vb_tup, vb_lst, vb_sub, vb_slice, vb_attr, vb_call, vb_bi, vb_meth, ve_dead, ve_const, ve_loc, ve_bin, ve_neg, ve_cmp, ve_band, ve_bor, ve_bnot, ve_ite, ve_tup, ve_lst, ve_dict0, ve_sdict2, ve_sub, ve_slice, ve_attr, ve_call, ve_bi, ve_sortset, ve_append, ve_pop, ve_meth, ve_comp, vs_dead, vs_assign1, vs_assignT, vs_assignA, vs_assignS, vs_expr, vs_ifS, vs_forS, vs_whileS, vs_ret0, vs_ret, setMany, setS, getS, initR, List.replicate, bindT, bindTs, unpackV, List.length_cons, List.length_nil]
      generalize hl : ((tasksL m L N).take i).filterMap (fun k => if hiD (D k) < loD (D k) + L k then some (hiD (D k), loD (D k) + L k, k) else none) = acc
      have al : acc.length ≤ 1000 := by
        rw [← hl]
        refine Nat.le_trans (List.length_filterMap_le _ _) ?_
        rw [List.length_take]; omega
      refine meth_at (store_set hs ha).hd rfl rfl ?_
      dsimp only [vk_nil, vk_cons, vl_nil, vl_cons, vf_nil, vf_cons, vo_none, vo_some, vt_one, vt_more, vi_seq, oo_int, oo_lst, vi_range1, vi_range2, vi_zip, vi_enum, vb_bnot, vb_band, vb_bor, vb_ite, vb_cmp, vb_chain, vb_const, vb_loc, vb_bin, vb_neg, vb_tup, vb_lst, vb_sub, vb_slice, vb_attr, vb_call, vb_bi, vb_meth, ve_dead, ve_const, ve_loc, ve_bin, ve_neg, ve_cmp, ve_band, ve_bor, ve_bnot, ve_ite, ve_tup, ve_lst, ve_dict0, ve_sdict2, ve_sub, ve_slice, ve_attr, ve_call, ve_bi, ve_sortset, ve_append, ve_pop, ve_meth, ve_comp, vs_dead, vs_assign1, vs_assignT, vs_assignA, vs_assignS, vs_expr, vs_ifS, vs_forS, vs_whileS, vs_ret0, vs_ret, setMany, setS, getS, initR, List.replicate, bindT, bindTs, unpackV, List.length_cons, List.length_nil]
      refine at_scope (cum_set h ha) (sub_row hk hm (hi_call P (store_set hs ha) hk hm (hd k hk) ?_))
      refine meth_at (store_set hs ha).hd rfl rfl ?_
      dsimp only [vk_nil, vk_cons, vl_nil, vl_cons, vf_nil, vf_cons, vo_none, vo_some, vt_one, vt_more, vi_seq, oo_int, oo_lst, vi_range1, vi_range2, vi_zip, vi_enum, vb_bnot, vb_band, vb_bor, vb_ite, vb_cmp, vb_chain, vb_const, vb_loc, vb_bin, vb_neg, vb_tup, vb_lst, vb_sub, vb_slice, vb_attr, vb_call, vb_bi, vb_meth, ve_dead, ve_const, ve_loc, ve_bin, ve_neg, ve_cmp, ve_band, ve_bor, ve_bnot, ve_ite, ve_tup, ve_lst, ve_dict0, ve_sdict2, ve_sub, ve_slice, ve_attr, ve_call, ve_bi, ve_sortset, ve_append, ve_pop, ve_meth, ve_comp, vs_dead, vs_assign1, vs_assignT, vs_assignA, vs_assignS, vs_expr, vs_ifS, vs_forS, vs_whileS, vs_ret0, vs_ret, setMany, setS, getS, initR, List.replicate, bindT, bindTs, unpackV, List.length_cons, List.length_nil]
      refine at_scope (cum_set h ha) (sub_row hk hm (lo_call P (store_set hs ha) hk hm (hd k hk) ?_))
      refine at_lasts (cum_set h ha) (sub_row hk hm ?_)
      ((try dsimp only [bv_add, bv_sub, bv_mul, bv_mod, bv_tup, bv_lst, vk_nil, vk_cons, vl_nil, vl_cons, vf_nil, vf_cons, vo_none, vo_some, vt_one, vt_more, vi_seq, oo_int, oo_lst, vi_range1, vi_range2, vi_zip, vi_enum, vb_bnot, vb_band, vb_bor, vb_ite, vb_cmp, vb_chain, vb_const, vb_loc, vb_bin, vb_neg, vb_tup, vb_lst, vb_sub, vb_slice, vb_attr, vb_call, vb_bi, vb_meth, ve_dead, ve_const, ve_loc, ve_bin, ve_neg, ve_cmp, ve_band, ve_bor, ve_bnot, ve_ite, ve_tup, ve_lst, ve_dict0, ve_sdict2, ve_sub, ve_slice, ve_attr, ve_call, ve_bi, ve_sortset, ve_append, ve_pop, ve_meth, ve_comp, vs_dead, vs_assign1, vs_assignT, vs_assignA, vs_assignS, vs_expr, vs_ifS, vs_forS, vs_whileS, vs_ret0, vs_ret, setMany, setS, getS, initR, List.replicate, bindT, bindTs, unpackV, List.length_cons, List.length_nil]); simp only [bv_add, bv_sub, bv_mul, bv_mod, bv_tup, bv_lst, vk_nil, vk_cons, vl_nil, vl_cons, vf_nil, vf_cons, vo_none, vo_some, vt_one, vt_more, vi_seq, oo_int, oo_lst, vi_range1, vi_range2, vi_zip, vi_enum, vb_bnot, vb_band, vb_bor, vb_ite, vb_cmp, vb_chain, vb_const, vb_loc, vb_bin, vb_neg, vb_tup, vb_lst, vb_sub, vb_slice, vb_attr, vb_call, vb_bi, vb_meth, ve_dead, ve_const, ve_loc, ve_bin, ve_neg, ve_cmp, ve_band, ve_bor, ve_bnot, ve_ite, ve_tup, ve_lst, ve_dict0, ve_sdict2, ve_sub, ve_slice, ve_attr, ve_call, ve_bi, ve_sortset, ve_append, ve_pop, ve_meth, ve_comp, vs_dead, vs_assign1, vs_assignT, vs_assignA, vs_assignS, vs_expr, vs_ifS, vs_forS, vs_whileS, vs_ret0, vs_ret, setMany, setS, getS, initR, List.replicate, bindT, bindTs, unpackV, List.length_cons, List.length_nil, true_and, cmp_lt])
      by_cases c : hiD (D k) < loD (D k) + L k
      · simp only [c, decide_true, if_true]
        refine ⟨listRef_at Mu.set_self, append_at Mu.set_self (by simp; omega) (FZ.done ⟨⟨_, _, _, rfl⟩, ?_⟩)⟩
        rw [Mu.set_set, List.take_add_one, hv, List.filterMap_append, hl]
        simp [c, st3, pN]
      · simp only [c, decide_false, Bool.false_eq_true, if_false]
        refine FZ.done ⟨⟨_, _, _, rfl⟩, ?_⟩
        rw [List.take_add_one, hv, List.filterMap_append, hl]
        simp [c]
  · obtain ⟨⟨w1, w2, w3, rfl⟩, rfl⟩ := hJ
    dsimp only [vk_nil, vk_cons, vl_nil, vl_cons, vf_nil, vf_cons, vo_none, vo_some, vt_one, vt_more, vi_seq, oo_int, oo_lst, vi_range1, vi_range2, vi_zip, vi_enum, vb_bnot, vb_band, vb_bor, vb_ite, vb_cmp, vb_chain, vb_const, vb_loc, vb_bin, vb_neg, vb_tup, vb_lst, vb_sub, vb_slice, vb_attr, vb_call, vb_bi, vb_meth, ve_dead, ve_const, ve_loc, ve_bin, ve_neg, ve_cmp, ve_band, ve_bor, ve_bnot, ve_ite, ve_tup, ve_lst, ve_dict0, ve_sdict2, ve_sub, ve_slice, ve_attr, ve_call, ve_bi, ve_sortset, ve_append, ve_pop, ve_meth, ve_comp, vs_dead, vs_assign1, vs_assignT, vs_assignA, vs_assignS, vs_expr, vs_ifS, vs_forS, vs_whileS, vs_ret0, vs_ret, setMany, setS, getS, initR, List.replicate, bindT, bindTs, unpackV, List.length_cons, List.length_nil]
    refine ret_frz ha ?_
    rw [show (tasksL m L N).take ((tasksL m L N).map pN).length = tasksL m L N by simp]
    exact hq
theorem zipP_map {α β : Type} (f : α → PV) (g : β → PV) : ∀ (l : List α) (r : List β), zipP (l.map f) (r.map g) = (l.zip r).map fun p => .tup [f p.1, g p.2]
  | [], r => by cases r <;> rfl
  | a :: l, [] => rfl
  | a :: l, b :: r => by simp [zipP, zipP_map f g l r]
theorem dedup_len : ∀ l : List Int, (dedupI l).length ≤ l.length
  | [] => Nat.le_refl _
  | a :: r => by
    have := dedup_len r
    simp only [dedupI]
    split
    · simp only [List.length_cons]; omega
    · simp only [List.length_cons]; omega
theorem sure_len {lo hi : Nat → Int} : (sureL m L N lo hi).length ≤ m := Nat.le_trans (List.length_filterMap_le _ _) tasks_len
theorem ends_len (s : List (Int × Int × Nat)) : (endsL s).length ≤ 2 * s.length := by
  unfold endsL
  rw [sortI_len]
  refine Nat.le_trans (dedup_len _) ?_
  simp; omega
theorem slice_lo {l : List PV} {b : Int} {K : PV → Mu → Prop} (hl : l.length ≤ big) (hb : 0 ≤ b) (hk : newL (l.drop b.toNat) μ K) : sliceV (.lst l) (some (.int b)) none μ K := .lo rfl hl hb hk
theorem c_blocks (P : PR Γ) {S : SA} {D : Nat → Dom} {firsts trail marks : List PV} (h : CumAt μ e m L N lim) (hs : StoreAt μ S (row m fun k => dP (D k)) firsts trail marks) (hm : m ≤ 20) (hd : ∀ k, k < m → D k ≠ [])
    (hq : Q (.lst ((blocksL (sureL m L N (fun k => loD (D k)) (fun k => hiD (D k)))).map bl3)) μ) : CallT Γ (n + 4) (.ref 373) [cObj e, sObj S.d] μ Q := by
  have hb : big = 100000 := rfl
  refine FN.call P.gt P.f373 rfl ?_
  dsimp only [m_Cumulative_blocks, vk_nil, vk_cons, vl_nil, vl_cons, vf_nil, vf_cons, vo_none, vo_some, vt_one, vt_more, vi_seq, oo_int, oo_lst, vi_range1, vi_range2, vi_zip, vi_enum, vb_bnot, vb_band, vb_bor, vb_ite, vb_cmp, vb_chain, vb_const, vb_loc, vb_bin, vb_neg, vb_tup, vb_lst, vb_sub, vb_slice, vb_attr, vb_call, vb_bi, vb_meth, ve_dead, ve_const, ve_loc, ve_bin, ve_neg, ve_cmp, ve_band, ve_bor, ve_bnot, ve_ite, ve_tup, ve_lst, ve_dict0, ve_sdict2, ve_sub, ve_slice, ve_attr, ve_call, ve_bi, ve_sortset, ve_append, ve_pop, ve_meth, ve_comp, vs_dead, vs_assign1, vs_assignT, vs_assignA, vs_assignS, vs_expr, vs_ifS, vs_forS, vs_whileS, vs_ret0, vs_ret, setMany, setS, getS, initR, List.replicate, bindT, bindTs, unpackV, List.length_cons, List.length_nil]
  refine meth_at h rfl rfl ?_
  dsimp only [vk_nil, vk_cons, vl_nil, vl_cons, vf_nil, vf_cons, vo_none, vo_some, vt_one, vt_more, vi_seq, oo_int, oo_lst, vi_range1, vi_range2, vi_zip, vi_enum, vb_bnot, vb_band, vb_bor, vb_ite, vb_cmp, vb_chain, vb_const, vb_loc, vb_bin, vb_neg, vb_tup, vb_lst, vb_sub, vb_slice, vb_attr, vb_call, vb_bi, vb_meth, ve_dead, ve_const, ve_loc, ve_bin, ve_neg, ve_cmp, ve_band, ve_bor, ve_bnot, ve_ite, ve_tup, ve_lst, ve_dict0, ve_sdict2, ve_sub, ve_slice, ve_attr, ve_call, ve_bi, ve_sortset, ve_append, ve_pop, ve_meth, ve_comp, vs_dead, vs_assign1, vs_assignT, vs_assignA, vs_assignS, vs_expr, vs_ifS, vs_forS, vs_whileS, vs_ret0, vs_ret, setMany, setS, getS, initR, List.replicate, bindT, bindTs, unpackV, List.length_cons, List.length_nil]
  refine c_sure P h hs (by omega) hd ?_
  have hsl : (sureL m L N (fun k => loD (D k)) (fun k => hiD (D k))).length ≤ m := sure_len
  generalize sureL m L N (fun k => loD (D k)) (fun k => hiD (D k)) = s at *
  dsimp only [vk_nil, vk_cons, vl_nil, vl_cons, vf_nil, vf_cons, vo_none, vo_some, vt_one, vt_more, vi_seq, oo_int, oo_lst, vi_range1, vi_range2, vi_zip, vi_enum, vb_bnot, vb_band, vb_bor, vb_ite, vb_cmp, vb_chain, vb_const, vb_loc, vb_bin, vb_neg, vb_tup, vb_lst, vb_sub, vb_slice, vb_attr, vb_call, vb_bi, vb_meth, ve_dead, ve_const, ve_loc, ve_bin, ve_neg, ve_cmp, ve_band, ve_bor, ve_bnot, ve_ite, ve_tup, ve_lst, ve_dict0, ve_sdict2, ve_sub, ve_slice, ve_attr, ve_call, ve_bi, ve_sortset, ve_append, ve_pop, ve_meth, ve_comp, vs_dead, vs_assign1, vs_assignT, vs_assignA, vs_assignS, vs_expr, vs_ifS, vs_forS, vs_whileS, vs_ret0, vs_ret, setMany, setS, getS, initR, List.replicate, bindT, bindTs, unpackV, List.length_cons, List.length_nil]
  refine comp_pure (α := Int × Int × Nat) s st3 (fun t => some (.int t.1)) rfl (by omega) (fun t ht kk hk => ?_) ?_
  · dsimp only [st3, vk_nil, vk_cons, vl_nil, vl_cons, vf_nil, vf_cons, vo_none, vo_some, vt_one, vt_more, vi_seq, oo_int, oo_lst, vi_range1, vi_range2, vi_zip, vi_enum, vb_bnot, vb_band, vb_bor, vb_ite, vb_cmp, vb_chain, vb_const, vb_loc, vb_bin, vb_neg, vb_tup, vb_lst, vb_sub, vb_slice, vb_attr, vb_call, vb_bi, vb_meth, ve_dead, ve_const, ve_loc, ve_bin, ve_neg, ve_cmp, ve_band, ve_bor, ve_bnot, ve_ite, ve_tup, ve_lst, ve_dict0, ve_sdict2, ve_sub, ve_slice, ve_attr, ve_call, ve_bi, ve_sortset, ve_append, ve_pop, ve_meth, ve_comp, vs_dead, vs_assign1, vs_assignT, vs_assignA, vs_assignS, vs_expr, vs_ifS, vs_forS, vs_whileS, vs_ret0, vs_ret, setMany, setS, getS, initR, List.replicate, bindT, bindTs, unpackV, List.length_cons, List.length_nil]
    exact ⟨by trivial, hk⟩
  refine newL_lst (by rw [List.filterMap_eq_map']; simp; omega) ?_
  refine comp_pure (α := Int × Int × Nat) s st3 (fun t => some (.int t.2.1)) rfl (by omega) (fun t ht kk hk => ?_) ?_
  · dsimp only [st3, vk_nil, vk_cons, vl_nil, vl_cons, vf_nil, vf_cons, vo_none, vo_some, vt_one, vt_more, vi_seq, oo_int, oo_lst, vi_range1, vi_range2, vi_zip, vi_enum, vb_bnot, vb_band, vb_bor, vb_ite, vb_cmp, vb_chain, vb_const, vb_loc, vb_bin, vb_neg, vb_tup, vb_lst, vb_sub, vb_slice, vb_attr, vb_call, vb_bi, vb_meth, ve_dead, ve_const, ve_loc, ve_bin, ve_neg, ve_cmp, ve_band, ve_bor, ve_bnot, ve_ite, ve_tup, ve_lst, ve_dict0, ve_sdict2, ve_sub, ve_slice, ve_attr, ve_call, ve_bi, ve_sortset, ve_append, ve_pop, ve_meth, ve_comp, vs_dead, vs_assign1, vs_assignT, vs_assignA, vs_assignS, vs_expr, vs_ifS, vs_forS, vs_whileS, vs_ret0, vs_ret, setMany, setS, getS, initR, List.replicate, bindT, bindTs, unpackV, List.length_cons, List.length_nil]
    exact ⟨by trivial, hk⟩
  refine newL_lst (by rw [List.filterMap_eq_map']; simp; omega) ?_
  rw [List.filterMap_eq_map', List.filterMap_eq_map']
  have eq1 : (s.map fun t => PV.int t.1) ++ (s.map fun t => PV.int t.2.1) = (s.map (·.1) ++ s.map (·.2.1)).map PV.int := by simp [Function.comp_def]
  simp only [bv_add, bv_sub, bv_mul, bv_mod, bv_tup, bv_lst]
  rw [eq1]
  refine ⟨by simp; omega, s.map (·.1) ++ s.map (·.2.1), intsP_map _, by simp; omega, ?_⟩
  have hel := ends_len s
  rw [show sortI (dedupI (s.map (·.1) ++ s.map (·.2.1))) = endsL s from rfl]
  refine newL_lst (by rw [List.length_map]; omega) (newL_ref (by simp) fun a ha => ?_)
  refine slice_lo (by rw [List.length_map]; omega) (by omega) (newL_lst (by rw [List.length_drop, List.length_map]; omega) ?_)
  have ez : zipP ((endsL s).map PV.int) (((endsL s).map PV.int).drop (Int.toNat 1)) = ((endsL s).zip ((endsL s).drop 1)).map prP := by
    rw [show Int.toNat 1 = 1 from rfl, ← List.map_drop, zipP_map]
    rfl
  simp only [oo_lst, ez]
  have zl : ((endsL s).zip ((endsL s).drop 1)).length ≤ 40 := by rw [List.length_zip]; omega
  have hbl : blocksL s = ((endsL s).zip ((endsL s).drop 1)).filterMap fun p => if 0 < (runL s p.1 p.2).length then some (p.1, p.2, runL s p.1 p.2) else none := rfl
  rw [hbl] at hq
  generalize (endsL s).zip ((endsL s).drop 1) = z at *
  refine for_rule (by rw [List.length_map]; omega) (fun i ρ' μ' => (∃ w1 w2 w3, ρ' = [some (cObj e), some (sObj S.d), some (PV.lst (List.map st3 s)), w1, w2, some (PV.lst (List.map PV.int (endsL s))), some (PV.ref a), w3, none, none, none, none]) ∧ μ' = μ.set a (.list (((z.take i).filterMap fun p => if 0 < (runL s p.1 p.2).length then some (p.1, p.2, runL s p.1 p.2) else none).map bl3))) (⟨⟨_, _, _, rfl⟩, by simp⟩) (fun i x ρ' μ' hx hJ => ?_) fun ρ' μ' hJ => ?_
  · obtain ⟨⟨w1, w2, w3, rfl⟩, rfl⟩ := hJ
    rw [nth_eq, List.getElem?_map] at hx
    cases hv : z[i]? with
    | none => rw [hv] at hx; cases hx
    | some p =>
      rw [hv] at hx
      cases hx
      obtain ⟨b, en⟩ := p
      have hi : i < z.length := (List.getElem?_eq_some_iff.mp hv).1
      generalize hl : (z.take i).filterMap (fun p => if 0 < (runL s p.1 p.2).length then some (p.1, p.2, runL s p.1 p.2) else none) = acc
      have al : acc.length ≤ 40 := by
        rw [← hl]
        refine Nat.le_trans (List.length_filterMap_le _ _) ?_
        rw [List.length_take]; omega
      dsimp only [prP, vk_nil, vk_cons, vl_nil, vl_cons, vf_nil, vf_cons, vo_none, vo_some, vt_one, vt_more, vi_seq, oo_int, oo_lst, vi_range1, vi_range2, vi_zip, vi_enum, vb_bnot, vb_band, vb_bor, vb_ite, vb_cmp, vb_chain, vb_const, vb_loc, vb_bin, vb_neg, vb_tup, vb_lst, vb_sub, vb_slice, vb_attr, vb_call, vb_bi, vb_meth, ve_dead, ve_const, ve_loc, ve_bin, ve_neg, ve_cmp, ve_band, ve_bor, ve_bnot, ve_ite, ve_tup, ve_lst, ve_dict0, ve_sdict2, ve_sub, ve_slice, ve_attr, ve_call, ve_bi, ve_sortset, ve_append, ve_pop, ve_meth, ve_comp, vs_dead, vs_assign1, vs_assignT, vs_assignA, vs_assignS, vs_expr, vs_ifS, vs_forS, vs_whileS, vs_ret0, vs_ret, setMany, setS, getS, initR, List.replicate, bindT, bindTs, unpackV, List.length_cons, List.length_nil]
      refine ⟨by trivial, ?_⟩
      refine comp_pure (α := Int × Int × Nat) s st3 (fun t => if decide (t.1 ≤ b) && decide (en ≤ t.2.1) then some (pN t.2.2) else none) rfl (by omega) (fun t ht kk hk => ?_) ?_
      · ((try dsimp only [st3, vk_nil, vk_cons, vl_nil, vl_cons, vf_nil, vf_cons, vo_none, vo_some, vt_one, vt_more, vi_seq, oo_int, oo_lst, vi_range1, vi_range2, vi_zip, vi_enum, vb_bnot, vb_band, vb_bor, vb_ite, vb_cmp, vb_chain, vb_const, vb_loc, vb_bin, vb_neg, vb_tup, vb_lst, vb_sub, vb_slice, vb_attr, vb_call, vb_bi, vb_meth, ve_dead, ve_const, ve_loc, ve_bin, ve_neg, ve_cmp, ve_band, ve_bor, ve_bnot, ve_ite, ve_tup, ve_lst, ve_dict0, ve_sdict2, ve_sub, ve_slice, ve_attr, ve_call, ve_bi, ve_sortset, ve_append, ve_pop, ve_meth, ve_comp, vs_dead, vs_assign1, vs_assignT, vs_assignA, vs_assignS, vs_expr, vs_ifS, vs_forS, vs_whileS, vs_ret0, vs_ret, setMany, setS, getS, initR, List.replicate, bindT, bindTs, unpackV, List.length_cons, List.length_nil]); simp only [st3, vk_nil, vk_cons, vl_nil, vl_cons, vf_nil, vf_cons, vo_none, vo_some, vt_one, vt_more, vi_seq, oo_int, oo_lst, vi_range1, vi_range2, vi_zip, vi_enum, vb_bnot, vb_band, vb_bor, vb_ite, vb_cmp, vb_chain, vb_const, vb_loc, vb_bin, vb_neg, vb_tup, vb_lst, vb_sub, vb_slice, vb_attr, vb_call, vb_bi, vb_meth, ve_dead, ve_const, ve_loc, ve_bin, ve_neg, ve_cmp, ve_band, ve_bor, ve_bnot, ve_ite, ve_tup, ve_lst, ve_dict0, ve_sdict2, ve_sub, ve_slice, ve_attr, ve_call, ve_bi, ve_sortset, ve_append, ve_pop, ve_meth, ve_comp, vs_dead, vs_assign1, vs_assignT, vs_assignA, vs_assignS, vs_expr, vs_ifS, vs_forS, vs_whileS, vs_ret0, vs_ret, setMany, setS, getS, initR, List.replicate, bindT, bindTs, unpackV, List.length_cons, List.length_nil, cmp_le])
        refine ⟨by trivial, ?_⟩
        by_cases c : t.1 ≤ b
        · by_cases c2 : en ≤ t.2.1
          · simpa [c, c2, pN] using hk
          · simpa [c, c2, pN] using hk
        · simpa [c] using hk
      have er : (s.filterMap fun t => if decide (t.1 ≤ b) && decide (en ≤ t.2.1) then some (pN t.2.2) else none) = (runL s b en).map pN := by
        unfold runL
        rw [List.map_filterMap]
        congr 1
        funext t
        split <;> rfl
      rw [er]
      have rl : (runL s b en).length ≤ m := Nat.le_trans (List.length_filterMap_le _ _) hsl
      refine newL_lst (by rw [List.length_map]; omega) ?_
      refine len_lst (by rw [List.length_map]; omega) ?_
      rw [List.length_map, cmp_gt]
      by_cases c : 0 < (runL s b en).length
      · rw [decide_eq_true (by omega)]
        simp only [if_true]
        refine ⟨listRef_at Mu.set_self, append_at Mu.set_self (by simp; omega) (FZ.done ⟨⟨_, _, _, rfl⟩, ?_⟩)⟩
        rw [Mu.set_set, List.take_add_one, hv, List.filterMap_append, hl]
        simp [c, bl3]
      · rw [decide_eq_false (by omega)]
        simp only [Bool.false_eq_true, if_false]
        refine FZ.done ⟨⟨_, _, _, rfl⟩, ?_⟩
        rw [List.take_add_one, hv, List.filterMap_append, hl]
        simp [c]
  · obtain ⟨⟨w1, w2, w3, rfl⟩, rfl⟩ := hJ
    dsimp only [vk_nil, vk_cons, vl_nil, vl_cons, vf_nil, vf_cons, vo_none, vo_some, vt_one, vt_more, vi_seq, oo_int, oo_lst, vi_range1, vi_range2, vi_zip, vi_enum, vb_bnot, vb_band, vb_bor, vb_ite, vb_cmp, vb_chain, vb_const, vb_loc, vb_bin, vb_neg, vb_tup, vb_lst, vb_sub, vb_slice, vb_attr, vb_call, vb_bi, vb_meth, ve_dead, ve_const, ve_loc, ve_bin, ve_neg, ve_cmp, ve_band, ve_bor, ve_bnot, ve_ite, ve_tup, ve_lst, ve_dict0, ve_sdict2, ve_sub, ve_slice, ve_attr, ve_call, ve_bi, ve_sortset, ve_append, ve_pop, ve_meth, ve_comp, vs_dead, vs_assign1, vs_assignT, vs_assignA, vs_assignS, vs_expr, vs_ifS, vs_forS, vs_whileS, vs_ret0, vs_ret, setMany, setS, getS, initR, List.replicate, bindT, bindTs, unpackV, List.length_cons, List.length_nil]
    refine ret_frz ha ?_
    rw [show z.take (z.map prP).length = z by simp]
    exact hq
end
end Mine

open PySem PySem.Calls PyProof.Rows PySem.W
set_option maxRecDepth 100000
set_option linter.unusedVariables false
set_option linter.unusedSimpArgs false
set_option backward.match.sparseCases false
namespace Mine

noncomputable def taskP (L N : Nat → Int) (k : Nat) : PV := .tup [.int (L k), .int (N k)]
noncomputable def ownP (O : Nat → List Int) (k : Nat) : PV := .lst ((O k).map .int)
noncomputable def surely (L N : Nat → Int) (O : Nat → List Int) (t : Int) (k : Nat) : Bool := decide (0 < N k) && ((O k).filter fun s => !(decide (s ≤ t) && decide (t < s + L k))).isEmpty
noncomputable def runAt (m : Nat) (L N : Nat → Int) (O : Nat → List Int) (t : Int) : List Nat := (List.range m).filter (surely L N O t)
noncomputable def sureMap (m : Nat) (L N : Nat → Int) (O : Nat → List Int) (j : Nat) : List (Int × PV) := (List.range j).map fun (t : Nat) => ((t : Int), .lst ((runAt m L N O (t : Int)).map pN))
section
variable {Γ : Gl} {n : Nat} {μ : Mu} {Q : PV → Mu → Prop} {m : Nat} {L N : Nat → Int} {lim : Int} {e : Addr} {O : Nat → List Int}
theorem eq_lst0 {l : List PV} {k : Bool → Prop} : cmpV .Eq (.lst l) (.lst []) μ k = k l.isEmpty := by
  cases l <;> rfl
theorem ne_lst0 {l : List PV} {k : Bool → Prop} : cmpV .NotEq (.lst l) (.lst []) μ k = k (!l.isEmpty) := by
  cases l <;> rfl
theorem enumP_map : ∀ (l : List PV) (a : Nat), enumP a l = (l.zipIdx a).map fun p => .tup [pN p.2, p.1]
  | [], a => rfl
  | p :: r, a => by simp [enumP, enumP_map r (a + 1), pN]
theorem enum_row (f : Nat → PV) : enumP 0 (row m f) = (List.range m).map fun k => .tup [pN k, f k] := by
  rw [enumP_map]
  apply List.ext_getElem
  · simp [row]
  · intro i h1 h2
    simp [row]
theorem put_map (f : Nat → PV) (v : PV) (j : Nat) : putS (j : Int) v ((List.range j).map fun (t : Nat) => ((t : Int), f t)) = ((List.range j).map fun (t : Nat) => ((t : Int), f t)) ++ [((j : Int), v)] := by
  have h : ∀ (l : List Nat), (∀ t ∈ l, t ≠ j) → putS (j : Int) v (l.map fun (t : Nat) => ((t : Int), f t)) = (l.map fun (t : Nat) => ((t : Int), f t)) ++ [((j : Int), v)] := by
    intro l
    induction l with
    | nil => intro _; rfl
    | cons a r ih =>
      intro hl
      have := hl a List.mem_cons_self
      simp only [List.map_cons, putS]
      rw [if_neg (by omega), ih fun t ht => hl t (List.mem_cons_of_mem _ ht)]
      rfl
  exact h _ (by intro t ht; simp at ht; omega)
theorem Fa2.same {α : Type} {R : α → α → Prop} (h : ∀ a, R a a) : ∀ l : List α, Fa2 R l l
  | [] => .nil
  | a :: l => .cons (h a) (Fa2.same h l)
theorem Fa2.append {α β : Type} {R : α → β → Prop} {l1 l2 : List α} {m1 m2 : List β} (h : Fa2 R l1 m1) (g : Fa2 R l2 m2) : Fa2 R (l1 ++ l2) (m1 ++ m2) := by
  induction h with
  | nil => exact g
  | cons a _ ih => exact .cons a ih
noncomputable def sureIf : MS := .ifS (.band (.cmp .Gt (.loc 7) (.const (.int 0))) (.cmp .Eq (.comp (.loc 1) (.one 1) (.seq (.sub (.loc 1) (.loc 5))) [.bnot (.chain (.loc 1) [.LtE, .Lt] [.loc 3, .bin .Add (.loc 1) (.loc 2)])] [none, none, some 6, some 3]) (.lst []))) [.expr (.append (.loc 4) (.loc 5))] []
noncomputable def sureBody : List MS := [.assign1 4 (.lst []), .forS (.many [.one 5, .many [.one 6, .one 7]]) (.enum (.loc 0)) [sureIf], .assignS (.loc 2) (.loc 3) (.loc 4)]
theorem sure_all : m_law_sure = [.assign1 2 (.dict0), .forS (.one 3) (.range1 (.const (.int 14))) sureBody, .ret (some (.loc 2))] := rfl
section
variable {o a r : Addr} {p0 p2 : PV} {i k : Nat} {acc : List Nat} {K : FP → Rho → Mu → Prop}
theorem sure_if (ho : μ o = some (.list (row m (ownP O)))) (hr : μ r = some (.list (acc.map pN))) (al : acc.length ≤ 20) (hk : k < m) (hm : m ≤ 20) (hO : (O k).length ≤ 100)
    (h1 : surely L N O i k = true → K .next [some p0, some (.ref o), some p2, some (.int i), some (.ref r), some (pN k), some (.int (L k)), some (.int (N k)), none, none] (μ.set r (.list ((acc ++ [k]).map pN))))
    (h0 : surely L N O i k = false → K .next [some p0, some (.ref o), some p2, some (.int i), some (.ref r), some (pN k), some (.int (L k)), some (.int (N k)), none, none] μ) :
    vcS Γ n sureIf [some p0, some (.ref o), some p2, some (.int i), some (.ref r), some (pN k), some (.int (L k)), some (.int (N k)), none, none] μ K := by
  have hb : big = 100000 := rfl
  dsimp only [sureIf, pN, vk_nil, vk_cons, vl_nil, vl_cons, vf_nil, vf_cons, vo_none, vo_some, vt_one, vt_more, vi_seq, oo_int, oo_lst, vi_range1, vi_range2, vi_zip, vi_enum, vb_bnot, vb_band, vb_bor, vb_ite, vb_cmp, vb_chain, vb_const, vb_loc, vb_bin, vb_neg, vb_tup, vb_lst, vb_sub, vb_slice, vb_attr, vb_call, vb_bi, vb_meth, ve_dead, ve_const, ve_loc, ve_bin, ve_neg, ve_cmp, ve_band, ve_bor, ve_bnot, ve_ite, ve_tup, ve_lst, ve_dict0, ve_sdict2, ve_sub, ve_slice, ve_attr, ve_call, ve_bi, ve_sortset, ve_append, ve_pop, ve_meth, ve_comp, vs_dead, vs_assign1, vs_assignT, vs_assignA, vs_assignS, vs_expr, vs_ifS, vs_forS, vs_whileS, vs_ret0, vs_ret, setMany, setS, getS, initR, List.replicate, bindT, bindTs, unpackV, List.length_cons, List.length_nil]
  rw [cmp_gt]
  by_cases c : 0 < N k
  · simp only [c, decide_true, if_true]
    refine sub_rowR ho hk (by omega) ?_
    simp only [ownP]
    refine comp_pure (α := Int) (O k) PV.int (fun s => if !(decide (s ≤ (i : Int)) && decide ((i : Int) < s + L k)) then some (.int s) else none) rfl (by omega) (fun s hs kk hkk => ?_) ?_
    · clear h1 h0
      ((try dsimp only [vk_nil, vk_cons, vl_nil, vl_cons, vf_nil, vf_cons, vo_none, vo_some, vt_one, vt_more, vi_seq, oo_int, oo_lst, vi_range1, vi_range2, vi_zip, vi_enum, vb_bnot, vb_band, vb_bor, vb_ite, vb_cmp, vb_chain, vb_const, vb_loc, vb_bin, vb_neg, vb_tup, vb_lst, vb_sub, vb_slice, vb_attr, vb_call, vb_bi, vb_meth, ve_dead, ve_const, ve_loc, ve_bin, ve_neg, ve_cmp, ve_band, ve_bor, ve_bnot, ve_ite, ve_tup, ve_lst, ve_dict0, ve_sdict2, ve_sub, ve_slice, ve_attr, ve_call, ve_bi, ve_sortset, ve_append, ve_pop, ve_meth, ve_comp, vs_dead, vs_assign1, vs_assignT, vs_assignA, vs_assignS, vs_expr, vs_ifS, vs_forS, vs_whileS, vs_ret0, vs_ret, setMany, setS, getS, initR, List.replicate, bindT, bindTs, unpackV, List.length_cons, List.length_nil, bv_add, bv_sub, bv_mul, bv_mod, bv_tup, bv_lst]); simp only [vk_nil, vk_cons, vl_nil, vl_cons, vf_nil, vf_cons, vo_none, vo_some, vt_one, vt_more, vi_seq, oo_int, oo_lst, vi_range1, vi_range2, vi_zip, vi_enum, vb_bnot, vb_band, vb_bor, vb_ite, vb_cmp, vb_chain, vb_const, vb_loc, vb_bin, vb_neg, vb_tup, vb_lst, vb_sub, vb_slice, vb_attr, vb_call, vb_bi, vb_meth, ve_dead, ve_const, ve_loc, ve_bin, ve_neg, ve_cmp, ve_band, ve_bor, ve_bnot, ve_ite, ve_tup, ve_lst, ve_dict0, ve_sdict2, ve_sub, ve_slice, ve_attr, ve_call, ve_bi, ve_sortset, ve_append, ve_pop, ve_meth, ve_comp, vs_dead, vs_assign1, vs_assignT, vs_assignA, vs_assignS, vs_expr, vs_ifS, vs_forS, vs_whileS, vs_ret0, vs_ret, setMany, setS, getS, initR, List.replicate, bindT, bindTs, unpackV, List.length_cons, List.length_nil, cmp_le, cmp_lt, bv_add, bv_sub, bv_mul, bv_mod, bv_tup, bv_lst])
      by_cases c1 : s ≤ (i : Int)
      · by_cases c2 : (i : Int) < s + L k
        · simpa [c1, c2, pN] using hkk
        · simpa [c1, c2, pN] using hkk
      · simpa [c1, pN] using hkk
    · rw [filter_map]
      refine newL_lst (by rw [List.length_map]; exact Nat.le_trans (List.length_filter_le _ _) (by omega)) (newL_lst (by simp) ?_)
      rw [eq_lst0]
      have es : (List.map PV.int (List.filter (fun s => !(decide (s ≤ (i : Int)) && decide ((i : Int) < s + L k))) (O k))).isEmpty = surely L N O i k := by
        simp [surely, c, List.isEmpty_iff]
      rw [es]
      cases c3 : surely L N O i k with
      | true =>
        rw [if_pos rfl]
        refine ⟨listRef_at hr, append_at hr (by simp; omega) ?_⟩
        have h := h1 c3
        rw [List.map_append] at h
        exact h
      | false =>
        rw [if_neg Bool.false_ne_true]
        exact h0 c3
  · simp only [c, decide_false, Bool.false_eq_true, if_false]
    exact h0 (by simp [surely, c])
theorem sure_body {w3 w4 w5 w6 w7 : Option PV} (ho : μ o = some (.list (row m (ownP O)))) (ha : μ a = none) (hm : m ≤ 20) (hO : ∀ k, k < m → (O k).length ≤ 100) (hi : i < 14)
    (h : ∀ r w5 w6 w7, r ≠ a → μ r = none → K .next [some (.lst (row m (taskP L N))), some (.ref o), some (.ref a), some (.int i), some (.ref r), w5, w6, w7, none, none]
      (((μ.set a (.idict (sureMap m L N O i))).set r (.list ((runAt m L N O i).map pN))).set a (.idict (putS (i : Int) (.ref r) (sureMap m L N O i))))) :
    vcSs Γ n sureBody [some (.lst (row m (taskP L N))), some (.ref o), some (.ref a), some (.int i), w3, w5, w6, w7, none, none] (μ.set a (.idict (sureMap m L N O i))) K := by
  have hb : big = 100000 := rfl
  dsimp only [sureBody, vk_nil, vk_cons, vl_nil, vl_cons, vf_nil, vf_cons, vo_none, vo_some, vt_one, vt_more, vi_seq, oo_int, oo_lst, vi_range1, vi_range2, vi_zip, vi_enum, vb_bnot, vb_band, vb_bor, vb_ite, vb_cmp, vb_chain, vb_const, vb_loc, vb_bin, vb_neg, vb_tup, vb_lst, vb_sub, vb_slice, vb_attr, vb_call, vb_bi, vb_meth, ve_dead, ve_const, ve_loc, ve_bin, ve_neg, ve_cmp, ve_band, ve_bor, ve_bnot, ve_ite, ve_tup, ve_lst, ve_dict0, ve_sdict2, ve_sub, ve_slice, ve_attr, ve_call, ve_bi, ve_sortset, ve_append, ve_pop, ve_meth, ve_comp, vs_dead, vs_assign1, vs_assignT, vs_assignA, vs_assignS, vs_expr, vs_ifS, vs_forS, vs_whileS, vs_ret0, vs_ret, setMany, setS, getS, initR, List.replicate, bindT, bindTs, unpackV, List.length_cons, List.length_nil]
  refine newL_ref (by simp) fun r hr => ?_
  simp only [enum_row]
  have hra : r ≠ a := fun q => by subst q; rw [Mu.set_self] at hr; cases hr
  have hr' : μ r = none := by rwa [Mu.set_ne hra] at hr
  refine for_rule (by simp; omega) (fun j ρ' μ' => (∃ w3 w4 w5, ρ' = [some (.lst (row m (taskP L N))), some (.ref o), some (.ref a), some (.int i), some (.ref r), w3, w4, w5, none, none]) ∧ μ' = (μ.set a (.idict (sureMap m L N O i))).set r (.list ((((List.range m).take j).filter (surely L N O i)).map pN))) (⟨⟨_, _, _, rfl⟩, by simp⟩) (fun j x ρ' μ' hx hJ => ?_) fun ρ' μ' hJ => ?_
  · clear h
    obtain ⟨⟨w3, w4, w5, rfl⟩, rfl⟩ := hJ
    rw [nth_eq, List.getElem?_map] at hx
    cases hv : (List.range m)[j]? with
    | none => rw [hv] at hx; cases hx
    | some k =>
      rw [hv] at hx
      cases hx
      have hk : k < m := by simpa using List.mem_of_getElem? hv
      refine ⟨by trivial, by trivial, ?_⟩
      have oa : o ≠ a := fun q => by subst q; rw [ho] at ha; cases ha
      have ro : o ≠ r := fun q => by subst q; rw [ho] at hr'; cases hr'
      have ht : ((List.range m).take (j + 1)).filter (surely L N O i) = if surely L N O i k then ((List.range m).take j).filter (surely L N O i) ++ [k] else ((List.range m).take j).filter (surely L N O i) := by
        rw [List.take_add_one, hv, List.filter_append]
        by_cases c : surely L N O i k <;> simp [c]
      refine sure_if (by rw [Mu.set_ne ro, Mu.set_ne oa]; exact ho) Mu.set_self ?_ hk hm (hO k hk) (fun c => FZ.done ⟨⟨_, _, _, rfl⟩, ?_⟩) fun c => FZ.done ⟨⟨_, _, _, rfl⟩, ?_⟩
      · refine Nat.le_trans (List.length_filter_le _ _) ?_
        rw [List.length_take, List.length_range]; omega
      · rw [Mu.set_set, ht, if_pos c]
      · rw [ht, if_neg (by rw [c]; exact Bool.false_ne_true)]
  · obtain ⟨⟨w3, w4, w5, rfl⟩, rfl⟩ := hJ
    dsimp only [vk_nil, vk_cons, vl_nil, vl_cons, vf_nil, vf_cons, vo_none, vo_some, vt_one, vt_more, vi_seq, oo_int, oo_lst, vi_range1, vi_range2, vi_zip, vi_enum, vb_bnot, vb_band, vb_bor, vb_ite, vb_cmp, vb_chain, vb_const, vb_loc, vb_bin, vb_neg, vb_tup, vb_lst, vb_sub, vb_slice, vb_attr, vb_call, vb_bi, vb_meth, ve_dead, ve_const, ve_loc, ve_bin, ve_neg, ve_cmp, ve_band, ve_bor, ve_bnot, ve_ite, ve_tup, ve_lst, ve_dict0, ve_sdict2, ve_sub, ve_slice, ve_attr, ve_call, ve_bi, ve_sortset, ve_append, ve_pop, ve_meth, ve_comp, vs_dead, vs_assign1, vs_assignT, vs_assignA, vs_assignS, vs_expr, vs_ifS, vs_forS, vs_whileS, vs_ret0, vs_ret, setMany, setS, getS, initR, List.replicate, bindT, bindTs, unpackV, List.length_cons, List.length_nil]
    have tk : (List.range m).take ((List.range m).map fun k => PV.tup [pN k, taskP L N k]).length = List.range m := by simp
    rw [tk]
    exact seti_at (es := sureMap m L N O i) (by rw [Mu.set_ne hra.symm, Mu.set_self]) (by simp [sureMap]; omega) (h r _ _ _ hra hr')
end
theorem c_law_sure (P : PR Γ) {o : Addr} (ho : μ o = some (.list (row m (ownP O)))) (hm : m ≤ 20) (hO : ∀ k, k < m → (O k).length ≤ 100)
    (hq : ∀ d, μ d = none → Q (.ref d) (μ.set d (.imap (sureMap m L N O 14)))) : CallT Γ (n + 1) (.ref 451) [.lst (row m (taskP L N)), .ref o] μ Q := by
  refine FN.call P.gt P.f451 rfl ?_
  dsimp only [sure_all, vk_nil, vk_cons, vl_nil, vl_cons, vf_nil, vf_cons, vo_none, vo_some, vt_one, vt_more, vi_seq, oo_int, oo_lst, vi_range1, vi_range2, vi_zip, vi_enum, vb_bnot, vb_band, vb_bor, vb_ite, vb_cmp, vb_chain, vb_const, vb_loc, vb_bin, vb_neg, vb_tup, vb_lst, vb_sub, vb_slice, vb_attr, vb_call, vb_bi, vb_meth, ve_dead, ve_const, ve_loc, ve_bin, ve_neg, ve_cmp, ve_band, ve_bor, ve_bnot, ve_ite, ve_tup, ve_lst, ve_dict0, ve_sdict2, ve_sub, ve_slice, ve_attr, ve_call, ve_bi, ve_sortset, ve_append, ve_pop, ve_meth, ve_comp, vs_dead, vs_assign1, vs_assignT, vs_assignA, vs_assignS, vs_expr, vs_ifS, vs_forS, vs_whileS, vs_ret0, vs_ret, setMany, setS, getS, initR, List.replicate, bindT, bindTs, unpackV, List.length_cons, List.length_nil]
  intro a ha
  refine ⟨by decide, for_rule (by simp [rangeP]; have hb : big = 100000 := rfl; omega) (fun i ρ' μ' => (∃ w1 w2 w3 w4 w5, ρ' = [some (.lst (row m (taskP L N))), some (.ref o), some (.ref a), w1, w2, w3, w4, w5, none, none]) ∧ μ' = μ.set a (.idict (sureMap m L N O i))) (⟨⟨_, _, _, _, _, rfl⟩, rfl⟩) (fun i x ρ' μ' hx hJ => ?_) fun ρ' μ' hJ => ?_⟩
  · clear hq
    obtain ⟨⟨w1, w2, w3, w4, w5, rfl⟩, rfl⟩ := hJ
    have hi : i < 14 := by
      rw [nth_eq] at hx
      have := (List.getElem?_eq_some_iff.mp hx).1
      rw [rangeP_length] at this
      exact this
    have ex := rangeP_at _ _ _ _ hx
    rw [Int.zero_add] at ex
    subst ex
    refine sure_body (w3 := w2) (w4 := none) ho ha hm hO hi fun r w5 w6 w7 hra hr' => ?_
    refine FZ.frz r ((runAt m L N O i).map pN) (by rw [Mu.set_ne hra, Mu.set_self]) (Fa2.cons (.inl rfl) (Fa2.cons (.inl rfl) (Fa2.cons (.inl rfl) (Fa2.cons (.inl rfl) (Fa2.cons (.inr ⟨rfl, rfl⟩) (Fa2.same (fun a => .inl rfl) _))))))
      (μ' := μ.set a (.idict (sureMap m L N O (i + 1)))) (by rw [Mu.set_ne hra]; exact hr') (fun b hb => ?_) (FZ.done ⟨⟨_, _, _, _, _, rfl⟩, rfl⟩)
    by_cases hba : b = a
    · subst hba
      refine .inr ⟨_, _, Mu.set_self, Mu.set_self, ?_⟩
      unfold sureMap
      rw [put_map (fun t => .lst ((runAt m L N O (t : Int)).map pN)), List.range_succ, List.map_append]
      exact Fa2.append (Fa2.same (fun a => ⟨rfl, .inl rfl⟩) _) (.cons ⟨rfl, .inr ⟨rfl, rfl⟩⟩ .nil)
    · refine .inl ?_
      rw [Mu.set_ne hba, Mu.set_ne hba, Mu.set_ne hb, Mu.set_ne hba]
  · obtain ⟨⟨w1, w2, w3, w4, w5, rfl⟩, rfl⟩ := hJ
    dsimp only [vk_nil, vk_cons, vl_nil, vl_cons, vf_nil, vf_cons, vo_none, vo_some, vt_one, vt_more, vi_seq, oo_int, oo_lst, vi_range1, vi_range2, vi_zip, vi_enum, vb_bnot, vb_band, vb_bor, vb_ite, vb_cmp, vb_chain, vb_const, vb_loc, vb_bin, vb_neg, vb_tup, vb_lst, vb_sub, vb_slice, vb_attr, vb_call, vb_bi, vb_meth, ve_dead, ve_const, ve_loc, ve_bin, ve_neg, ve_cmp, ve_band, ve_bor, ve_bnot, ve_ite, ve_tup, ve_lst, ve_dict0, ve_sdict2, ve_sub, ve_slice, ve_attr, ve_call, ve_bi, ve_sortset, ve_append, ve_pop, ve_meth, ve_comp, vs_dead, vs_assign1, vs_assignT, vs_assignA, vs_assignS, vs_expr, vs_ifS, vs_forS, vs_whileS, vs_ret0, vs_ret, setMany, setS, getS, initR, List.replicate, bindT, bindTs, unpackV, List.length_cons, List.length_nil]
    exact FZ.hold a _ Mu.set_self (FZ.done ⟨_, rfl, by rw [Mu.set_set]; exact hq a ha⟩)
end
end Mine

open PySem PySem.Calls PyProof.Rows PySem.W
set_option maxRecDepth 100000
set_option linter.unusedVariables false
set_option linter.unusedSimpArgs false
set_option backward.match.sparseCases false
namespace Mine

noncomputable def firstP (F : Nat → List Int) (k : Nat) : PV := .lst ((F k).map .int)
section
variable {Γ : Gl} {n : Nat} {μ : Mu} {Q : PV → Mu → Prop} {m : Nat} {L N : Nat → Int} {lim : Int} {e : Addr} {O F : Nat → List Int}
theorem reasons_sg {b en : Int} {run : List Nat} {t : Nat × Str × Int} (h : t ∈ reasonsL L b en run) : ∃ k ∈ run, t = (k, ("<=" : Str), b) ∨ t = (k, (">=" : Str), en - L k) := by
  obtain ⟨k, hk, ht⟩ := List.mem_flatMap.mp h
  simp only [List.mem_cons, List.not_mem_nil, or_false] at ht
  exact ⟨k, hk, ht⟩
theorem bars_le {k v : Int} : barsL "<=" k v = decide (k < v) := by rw [barsL, if_pos rfl]
theorem bars_ge {k v : Int} : barsL ">=" k v = decide (v < k) := by rw [barsL, if_neg (by decide), if_pos rfl]
theorem filterMap_none {α β : Type} (l : List α) : l.filterMap (fun _ => (none : Option β)) = [] := by induction l <;> simp_all
noncomputable def brIn : List MS := [.ifS (.band (.cmp .Eq (.comp (.const (.int 1)) (.one 1) (.seq (.loc 11)) [.call (.ref 441) [.loc 1, .loc 3]] [none, none, none, some 9]) (.lst [])) (.bnot (.chain (.loc 9) [.LtE, .LtE, .LtE] [.loc 5, .loc 6, .bin .Add (.loc 9) (.sub (.sub (.loc 2) (.loc 10)) (.const (.int 0)))]))) [.ret (some (.const (.bool false)))] []]
noncomputable def brBody : List MS := [.assign1 11 (.comp (.loc 1) (.one 1) (.seq (.loc 8)) [.cmp .Eq (.sub (.loc 1) (.const (.int 0))) (.loc 2)] [none, none, some 10]), .forS (.one 9) (.seq (.sub (.loc 3) (.loc 10))) brIn]
noncomputable def br0 : MS := .assignT [.one 5, .one 6, .one 7] (.loc 1)
noncomputable def br1 : MS := .assign1 8 (.meth (.loc 0) 12 [.loc 7, .loc 5, .loc 6])
noncomputable def br2 : MS := .ifS (.cmp .NotEq (.comp (.const (.int 1)) (.one 1) (.seq (.loc 8)) [.cmp .NotEq (.comp (.loc 1) (.one 1) (.seq (.sub (.loc 2) (.sub (.loc 1) (.const (.int 0))))) [.call (.ref 441) [.loc 3, .loc 1]] [none, none, none, some 1]) (.lst [])] [none, none, some 4]) (.lst [])) [.ret (some (.const (.bool false)))] []
theorem br_all : m_law_is_block_right = [br0, br1, br2, .forS (.one 10) (.seq (.loc 7)) brBody, .ret (some (.const (.bool true)))] := rfl
section
variable {o : Addr} {b en : Int} {run : List Nat} {K : FP → Rho → Mu → Prop} {p0 p1 p2 p3 p4 p5 p6 p7 p8 : PV} {w9 w10 w11 : Option PV} {k : Nat} {s : Int} {ss : List MS}
theorem br_in (P : PR Γ) (hm : m ≤ 20) (hl : run.length ≤ 20) (rsl : (reasonsL L b en run).length ≤ 40) (hsg : ∀ t ∈ reasonsL L b en run, t.1 < m ∧ (t.2.1 = "<=" ∨ t.2.1 = ">=" ∨ t.2.1 = "!=")) (hbe : b ≤ en) (hkr : k ∈ run) (hk : k < m)
    (h : K .next [some p0, some p1, some (.lst (row m (taskP L N))), some p3, some p4, some (.int b), some (.int en), some p7, some p8, some (.int s), some (.int k), some (.lst (((reasonsL L b en run).filter fun t => decide (t.1 = k)).map lit3))] μ) :
    vcSs Γ (n + 1) brIn [some p0, some p1, some (.lst (row m (taskP L N))), some p3, some p4, some (.int b), some (.int en), some p7, some p8, some (.int s), some (.int k), some (.lst (((reasonsL L b en run).filter fun t => decide (t.1 = k)).map lit3))] μ K := by
  have hb : big = 100000 := rfl
  dsimp only [brIn, vk_nil, vk_cons, vl_nil, vl_cons, vf_nil, vf_cons, vo_none, vo_some, vt_one, vt_more, vi_seq, oo_int, oo_lst, vi_range1, vi_range2, vi_zip, vi_enum, vb_bnot, vb_band, vb_bor, vb_ite, vb_cmp, vb_chain, vb_const, vb_loc, vb_bin, vb_neg, vb_tup, vb_lst, vb_sub, vb_slice, vb_attr, vb_call, vb_bi, vb_meth, ve_dead, ve_const, ve_loc, ve_bin, ve_neg, ve_cmp, ve_band, ve_bor, ve_bnot, ve_ite, ve_tup, ve_lst, ve_dict0, ve_sdict2, ve_sub, ve_slice, ve_attr, ve_call, ve_bi, ve_sortset, ve_append, ve_pop, ve_meth, ve_comp, vs_dead, vs_assign1, vs_assignT, vs_assignA, vs_assignS, vs_expr, vs_ifS, vs_forS, vs_whileS, vs_ret0, vs_ret, setMany, setS, getS, initR, List.replicate, bindT, bindTs, unpackV, List.length_cons, List.length_nil]
  refine comp_pure (α := Nat × Str × Int) ((reasonsL L b en run).filter fun t => decide (t.1 = k)) lit3 (fun t => if barsL t.2.1 t.2.2 s then some (.int 1) else none) rfl (Nat.le_trans (List.length_filter_le _ _) (by omega)) (fun t ht kk hk => ?_) ?_
  · dsimp only [vk_nil, vk_cons, vl_nil, vl_cons, vf_nil, vf_cons, vo_none, vo_some, vt_one, vt_more, vi_seq, oo_int, oo_lst, vi_range1, vi_range2, vi_zip, vi_enum, vb_bnot, vb_band, vb_bor, vb_ite, vb_cmp, vb_chain, vb_const, vb_loc, vb_bin, vb_neg, vb_tup, vb_lst, vb_sub, vb_slice, vb_attr, vb_call, vb_bi, vb_meth, ve_dead, ve_const, ve_loc, ve_bin, ve_neg, ve_cmp, ve_band, ve_bor, ve_bnot, ve_ite, ve_tup, ve_lst, ve_dict0, ve_sdict2, ve_sub, ve_slice, ve_attr, ve_call, ve_bi, ve_sortset, ve_append, ve_pop, ve_meth, ve_comp, vs_dead, vs_assign1, vs_assignT, vs_assignA, vs_assignS, vs_expr, vs_ifS, vs_forS, vs_whileS, vs_ret0, vs_ret, setMany, setS, getS, initR, List.replicate, bindT, bindTs, unpackV, List.length_cons, List.length_nil]
    refine c_bars P (hsg t (List.mem_filter.mp ht).1).2 ?_
    by_cases c : barsL t.2.1 t.2.2 s <;> simpa [c, tv_bool, tv_int, tv_none] using hk
  rw [filter_map]
  refine newL_lst (by rw [List.length_map]; exact Nat.le_trans (List.length_filter_le _ _) (Nat.le_trans (List.length_filter_le _ _) (by omega))) (newL_lst (by simp) ?_)
  rw [eq_lst0]
  cases c : (List.map (fun a => PV.int 1) (List.filter (fun t => barsL t.2.1 t.2.2 s) (List.filter (fun t => decide (t.1 = k)) (reasonsL L b en run)))).isEmpty with
  | false =>
    simp only [Bool.false_eq_true, if_false]
    exact h
  | true =>
    rw [List.isEmpty_iff, List.map_eq_nil_iff, List.filter_eq_nil_iff] at c
    have c1 : s ≤ b := by
      have := c (k, "<=", b) (List.mem_filter.mpr ⟨List.mem_flatMap.mpr ⟨k, hkr, by simp⟩, by simp⟩)
      simp only [bars_le] at this
      simpa using this
    have c2 : en - L k ≤ s := by
      have := c (k, ">=", en - L k) (List.mem_filter.mpr ⟨List.mem_flatMap.mpr ⟨k, hkr, by simp⟩, by simp⟩)
      simp only [bars_ge] at this
      simpa using this
    clear c
    ((try dsimp only [vk_nil, vk_cons, vl_nil, vl_cons, vf_nil, vf_cons, vo_none, vo_some, vt_one, vt_more, vi_seq, oo_int, oo_lst, vi_range1, vi_range2, vi_zip, vi_enum, vb_bnot, vb_band, vb_bor, vb_ite, vb_cmp, vb_chain, vb_const, vb_loc, vb_bin, vb_neg, vb_tup, vb_lst, vb_sub, vb_slice, vb_attr, vb_call, vb_bi, vb_meth, ve_dead, ve_const, ve_loc, ve_bin, ve_neg, ve_cmp, ve_band, ve_bor, ve_bnot, ve_ite, ve_tup, ve_lst, ve_dict0, ve_sdict2, ve_sub, ve_slice, ve_attr, ve_call, ve_bi, ve_sortset, ve_append, ve_pop, ve_meth, ve_comp, vs_dead, vs_assign1, vs_assignT, vs_assignA, vs_assignS, vs_expr, vs_ifS, vs_forS, vs_whileS, vs_ret0, vs_ret, setMany, setS, getS, initR, List.replicate, bindT, bindTs, unpackV, List.length_cons, List.length_nil]); simp only [if_true, vk_nil, vk_cons, vl_nil, vl_cons, vf_nil, vf_cons, vo_none, vo_some, vt_one, vt_more, vi_seq, oo_int, oo_lst, vi_range1, vi_range2, vi_zip, vi_enum, vb_bnot, vb_band, vb_bor, vb_ite, vb_cmp, vb_chain, vb_const, vb_loc, vb_bin, vb_neg, vb_tup, vb_lst, vb_sub, vb_slice, vb_attr, vb_call, vb_bi, vb_meth, ve_dead, ve_const, ve_loc, ve_bin, ve_neg, ve_cmp, ve_band, ve_bor, ve_bnot, ve_ite, ve_tup, ve_lst, ve_dict0, ve_sdict2, ve_sub, ve_slice, ve_attr, ve_call, ve_bi, ve_sortset, ve_append, ve_pop, ve_meth, ve_comp, vs_dead, vs_assign1, vs_assignT, vs_assignA, vs_assignS, vs_expr, vs_ifS, vs_forS, vs_whileS, vs_ret0, vs_ret, setMany, setS, getS, initR, List.replicate, bindT, bindTs, unpackV, List.length_cons, List.length_nil, cmp_le, c1, decide_true, hbe])
    refine sub_rowL hk (by omega) (sub_tup (v := .int (L k)) (by decide) rfl ?_)
    simp only [bv_add, bv_sub, bv_mul, bv_mod, bv_tup, bv_lst, cmp_le]
    rw [decide_eq_true (by omega)]
    simp only [Bool.not_true, Bool.false_eq_true, if_false]
    exact h
theorem br_body (P : PR Γ) (hm : m ≤ 20) (hl : run.length ≤ 20) (rsl : (reasonsL L b en run).length ≤ 40) (hsg : ∀ t ∈ reasonsL L b en run, t.1 < m ∧ (t.2.1 = "<=" ∨ t.2.1 = ">=" ∨ t.2.1 = "!=")) (hbe : b ≤ en) (hkr : k ∈ run) (hk : k < m) (hF : (F k).length ≤ 100)
    (h : ∀ w9 w10 w11, K .next [some p0, some p1, some (.lst (row m (taskP L N))), some (.lst (row m (firstP F))), some p4, some (.int b), some (.int en), some p7, some (.lst ((reasonsL L b en run).map lit3)), w9, w10, w11] μ) :
    vcSs Γ (n + 1) brBody [some p0, some p1, some (.lst (row m (taskP L N))), some (.lst (row m (firstP F))), some p4, some (.int b), some (.int en), some p7, some (.lst ((reasonsL L b en run).map lit3)), w9, some (.int k), w11] μ K := by
  have hb : big = 100000 := rfl
  dsimp only [brBody, vk_nil, vk_cons, vl_nil, vl_cons, vf_nil, vf_cons, vo_none, vo_some, vt_one, vt_more, vi_seq, oo_int, oo_lst, vi_range1, vi_range2, vi_zip, vi_enum, vb_bnot, vb_band, vb_bor, vb_ite, vb_cmp, vb_chain, vb_const, vb_loc, vb_bin, vb_neg, vb_tup, vb_lst, vb_sub, vb_slice, vb_attr, vb_call, vb_bi, vb_meth, ve_dead, ve_const, ve_loc, ve_bin, ve_neg, ve_cmp, ve_band, ve_bor, ve_bnot, ve_ite, ve_tup, ve_lst, ve_dict0, ve_sdict2, ve_sub, ve_slice, ve_attr, ve_call, ve_bi, ve_sortset, ve_append, ve_pop, ve_meth, ve_comp, vs_dead, vs_assign1, vs_assignT, vs_assignA, vs_assignS, vs_expr, vs_ifS, vs_forS, vs_whileS, vs_ret0, vs_ret, setMany, setS, getS, initR, List.replicate, bindT, bindTs, unpackV, List.length_cons, List.length_nil]
  refine comp_pure (α := Nat × Str × Int) (reasonsL L b en run) lit3 (fun t => if decide (t.1 = k) then some (lit3 t) else none) rfl (by omega) (fun t ht kk hk => ?_) ?_
  · clear h
    dsimp only [vk_nil, vk_cons, vl_nil, vl_cons, vf_nil, vf_cons, vo_none, vo_some, vt_one, vt_more, vi_seq, oo_int, oo_lst, vi_range1, vi_range2, vi_zip, vi_enum, vb_bnot, vb_band, vb_bor, vb_ite, vb_cmp, vb_chain, vb_const, vb_loc, vb_bin, vb_neg, vb_tup, vb_lst, vb_sub, vb_slice, vb_attr, vb_call, vb_bi, vb_meth, ve_dead, ve_const, ve_loc, ve_bin, ve_neg, ve_cmp, ve_band, ve_bor, ve_bnot, ve_ite, ve_tup, ve_lst, ve_dict0, ve_sdict2, ve_sub, ve_slice, ve_attr, ve_call, ve_bi, ve_sortset, ve_append, ve_pop, ve_meth, ve_comp, vs_dead, vs_assign1, vs_assignT, vs_assignA, vs_assignS, vs_expr, vs_ifS, vs_forS, vs_whileS, vs_ret0, vs_ret, setMany, setS, getS, initR, List.replicate, bindT, bindTs, unpackV, List.length_cons, List.length_nil]
    refine sub_tup (v := .int t.1) (by decide) rfl ?_
    simp only [cmp_eqI]
    have et : (((t.1 : Nat) : Int) == (k : Int)) = decide (t.1 = k) := by
      by_cases c : t.1 = k
      · simp [c]
      · have : ((t.1 : Nat) : Int) ≠ (k : Int) := by omega
        simp [c, this]
    rw [et]
    by_cases c : t.1 = k <;> simpa [c] using hk
  rw [filter_map]
  refine newL_lst (by rw [List.length_map]; exact Nat.le_trans (List.length_filter_le _ _) (by omega)) ?_
  refine sub_rowL hk (by omega) ?_
  simp only [firstP]
  refine for_rule (by rw [List.length_map]; omega) (fun j ρ' μ₁ => (∃ w1, ρ' = [some p0, some p1, some (.lst (row m (taskP L N))), some (.lst (row m (firstP F))), some p4, some (.int b), some (.int en), some p7, some (.lst ((reasonsL L b en run).map lit3)), w1, some (.int k), some (.lst (((reasonsL L b en run).filter fun t => decide (t.1 = k)).map lit3))]) ∧ μ₁ = μ) (⟨⟨_, rfl⟩, rfl⟩) (fun j x ρ' μ₁ hx hJ => ?_) fun ρ' μ₁ hJ => ?_
  · clear h
    obtain ⟨⟨w1, rfl⟩, rfl⟩ := hJ
    rw [nth_eq, List.getElem?_map] at hx
    cases hv : (F k)[j]? with
    | none => rw [hv] at hx; cases hx
    | some s =>
      rw [hv] at hx
      cases hx
      exact br_in P hm hl rsl hsg hbe hkr hk (FZ.done ⟨⟨_, rfl⟩, rfl⟩)
  · obtain ⟨⟨w1, rfl⟩, rfl⟩ := hJ
    exact h _ _ _
theorem br_c2 (P : PR Γ) (ho : μ o = some (.list (row m (ownP O)))) (hm : m ≤ 20) (hO : ∀ k, k < m → (O k).length ≤ 100)
    (h1 : ∀ k ∈ run, ∀ s ∈ O k, s ≤ b ∧ en - L k ≤ s) (rsl : (reasonsL L b en run).length ≤ 40) (hsg : ∀ t ∈ reasonsL L b en run, t.1 < m ∧ (t.2.1 = "<=" ∨ t.2.1 = ">=" ∨ t.2.1 = "!="))
    (h : K .next [some p0, some p1, some p2, some p3, some (.ref o), some p5, some p6, some p7, some (.lst ((reasonsL L b en run).map lit3)), w9, w10, w11] μ) :
    vcS Γ (n + 1) br2 [some p0, some p1, some p2, some p3, some (.ref o), some p5, some p6, some p7, some (.lst ((reasonsL L b en run).map lit3)), w9, w10, w11] μ K := by
  have hb : big = 100000 := rfl
  dsimp only [br2, vk_nil, vk_cons, vl_nil, vl_cons, vf_nil, vf_cons, vo_none, vo_some, vt_one, vt_more, vi_seq, oo_int, oo_lst, vi_range1, vi_range2, vi_zip, vi_enum, vb_bnot, vb_band, vb_bor, vb_ite, vb_cmp, vb_chain, vb_const, vb_loc, vb_bin, vb_neg, vb_tup, vb_lst, vb_sub, vb_slice, vb_attr, vb_call, vb_bi, vb_meth, ve_dead, ve_const, ve_loc, ve_bin, ve_neg, ve_cmp, ve_band, ve_bor, ve_bnot, ve_ite, ve_tup, ve_lst, ve_dict0, ve_sdict2, ve_sub, ve_slice, ve_attr, ve_call, ve_bi, ve_sortset, ve_append, ve_pop, ve_meth, ve_comp, vs_dead, vs_assign1, vs_assignT, vs_assignA, vs_assignS, vs_expr, vs_ifS, vs_forS, vs_whileS, vs_ret0, vs_ret, setMany, setS, getS, initR, List.replicate, bindT, bindTs, unpackV, List.length_cons, List.length_nil]
  refine comp_pure (α := Nat × Str × Int) (reasonsL L b en run) lit3 (fun _ => none) rfl (by omega) (fun t ht kk hk => ?_) ?_
  · clear h
    dsimp only [vk_nil, vk_cons, vl_nil, vl_cons, vf_nil, vf_cons, vo_none, vo_some, vt_one, vt_more, vi_seq, oo_int, oo_lst, vi_range1, vi_range2, vi_zip, vi_enum, vb_bnot, vb_band, vb_bor, vb_ite, vb_cmp, vb_chain, vb_const, vb_loc, vb_bin, vb_neg, vb_tup, vb_lst, vb_sub, vb_slice, vb_attr, vb_call, vb_bi, vb_meth, ve_dead, ve_const, ve_loc, ve_bin, ve_neg, ve_cmp, ve_band, ve_bor, ve_bnot, ve_ite, ve_tup, ve_lst, ve_dict0, ve_sdict2, ve_sub, ve_slice, ve_attr, ve_call, ve_bi, ve_sortset, ve_append, ve_pop, ve_meth, ve_comp, vs_dead, vs_assign1, vs_assignT, vs_assignA, vs_assignS, vs_expr, vs_ifS, vs_forS, vs_whileS, vs_ret0, vs_ret, setMany, setS, getS, initR, List.replicate, bindT, bindTs, unpackV, List.length_cons, List.length_nil]
    obtain ⟨tm, tsg⟩ := hsg t ht
    refine sub_tup (v := .int t.1) (by decide) rfl (sub_rowR ho tm (by omega) ?_)
    simp only [ownP]
    refine comp_pure (α := Int) (O t.1) PV.int (fun _ => none) rfl (by have := hO t.1 tm; omega) (fun s hs kk hk => ?_) ?_
    · dsimp only [vk_nil, vk_cons, vl_nil, vl_cons, vf_nil, vf_cons, vo_none, vo_some, vt_one, vt_more, vi_seq, oo_int, oo_lst, vi_range1, vi_range2, vi_zip, vi_enum, vb_bnot, vb_band, vb_bor, vb_ite, vb_cmp, vb_chain, vb_const, vb_loc, vb_bin, vb_neg, vb_tup, vb_lst, vb_sub, vb_slice, vb_attr, vb_call, vb_bi, vb_meth, ve_dead, ve_const, ve_loc, ve_bin, ve_neg, ve_cmp, ve_band, ve_bor, ve_bnot, ve_ite, ve_tup, ve_lst, ve_dict0, ve_sdict2, ve_sub, ve_slice, ve_attr, ve_call, ve_bi, ve_sortset, ve_append, ve_pop, ve_meth, ve_comp, vs_dead, vs_assign1, vs_assignT, vs_assignA, vs_assignS, vs_expr, vs_ifS, vs_forS, vs_whileS, vs_ret0, vs_ret, setMany, setS, getS, initR, List.replicate, bindT, bindTs, unpackV, List.length_cons, List.length_nil]
      refine c_bars P tsg ?_
      obtain ⟨k, hkr, rfl | rfl⟩ := reasons_sg ht
      · have := h1 k hkr s hs
        rw [bars_le, decide_eq_false (by dsimp only; omega)]
        simpa [tv_bool, tv_int, tv_none] using hk
      · have := h1 k hkr s hs
        rw [bars_ge, decide_eq_false (by dsimp only; omega)]
        simpa [tv_bool, tv_int, tv_none] using hk
    · rw [filterMap_none]
      refine newL_lst (by simp) (newL_lst (by simp) ?_)
      rw [ne_lst0]
      simpa using hk
  rw [filterMap_none]
  refine newL_lst (by simp) (newL_lst (by simp) ?_)
  rw [ne_lst0]
  simp only [List.isEmpty_nil, Bool.not_true, Bool.false_eq_true, if_false]
  exact h
end
theorem c_block_right (P : PR Γ) {o : Addr} {b en : Int} {run : List Nat} (h : CumAt μ e m L N lim) (ho : μ o = some (.list (row m (ownP O)))) (hm : m ≤ 20) (hO : ∀ k, k < m → (O k).length ≤ 100) (hF : ∀ k, k < m → (F k).length ≤ 100)
    (hr : ∀ k ∈ run, k < m) (hl : run.length ≤ 20) (h1 : ∀ k ∈ run, ∀ s ∈ O k, s ≤ b ∧ en - L k ≤ s) (hbe : b ≤ en) (hq : Q (.bool true) μ) :
    CallT Γ (n + 2) (.ref 456) [cObj e, bl3 (b, en, run), .lst (row m (taskP L N)), .lst (row m (firstP F)), .ref o] μ Q := by
  have hb : big = 100000 := rfl
  refine FN.call P.gt P.f456 rfl ?_
  have rsl := reasons_len L b en run
  have hsg : ∀ t ∈ reasonsL L b en run, t.1 < m ∧ (t.2.1 = "<=" ∨ t.2.1 = ">=" ∨ t.2.1 = "!=") := fun t ht => by
    obtain ⟨k, hk, rfl | rfl⟩ := reasons_sg ht
    · exact ⟨hr k hk, .inl rfl⟩
    · exact ⟨hr k hk, .inr (.inl rfl)⟩
  have rsl' : (reasonsL L b en run).length ≤ 40 := by omega
  dsimp only [br_all, br0, br1, bl3, vk_nil, vk_cons, vl_nil, vl_cons, vf_nil, vf_cons, vo_none, vo_some, vt_one, vt_more, vi_seq, oo_int, oo_lst, vi_range1, vi_range2, vi_zip, vi_enum, vb_bnot, vb_band, vb_bor, vb_ite, vb_cmp, vb_chain, vb_const, vb_loc, vb_bin, vb_neg, vb_tup, vb_lst, vb_sub, vb_slice, vb_attr, vb_call, vb_bi, vb_meth, ve_dead, ve_const, ve_loc, ve_bin, ve_neg, ve_cmp, ve_band, ve_bor, ve_bnot, ve_ite, ve_tup, ve_lst, ve_dict0, ve_sdict2, ve_sub, ve_slice, ve_attr, ve_call, ve_bi, ve_sortset, ve_append, ve_pop, ve_meth, ve_comp, vs_dead, vs_assign1, vs_assignT, vs_assignA, vs_assignS, vs_expr, vs_ifS, vs_forS, vs_whileS, vs_ret0, vs_ret, setMany, setS, getS, initR, List.replicate, bindT, bindTs, unpackV, List.length_cons, List.length_nil]
  refine ⟨by trivial, meth_at h rfl rfl ?_⟩
  dsimp only [vk_nil, vk_cons, vl_nil, vl_cons, vf_nil, vf_cons, vo_none, vo_some, vt_one, vt_more, vi_seq, oo_int, oo_lst, vi_range1, vi_range2, vi_zip, vi_enum, vb_bnot, vb_band, vb_bor, vb_ite, vb_cmp, vb_chain, vb_const, vb_loc, vb_bin, vb_neg, vb_tup, vb_lst, vb_sub, vb_slice, vb_attr, vb_call, vb_bi, vb_meth, ve_dead, ve_const, ve_loc, ve_bin, ve_neg, ve_cmp, ve_band, ve_bor, ve_bnot, ve_ite, ve_tup, ve_lst, ve_dict0, ve_sdict2, ve_sub, ve_slice, ve_attr, ve_call, ve_bi, ve_sortset, ve_append, ve_pop, ve_meth, ve_comp, vs_dead, vs_assign1, vs_assignT, vs_assignA, vs_assignS, vs_expr, vs_ifS, vs_forS, vs_whileS, vs_ret0, vs_ret, setMany, setS, getS, initR, List.replicate, bindT, bindTs, unpackV, List.length_cons, List.length_nil]
  refine c_reasons P h (by omega) hr (by omega) (br_c2 P ho hm hO h1 rsl' hsg ?_)
  dsimp only [vk_nil, vk_cons, vl_nil, vl_cons, vf_nil, vf_cons, vo_none, vo_some, vt_one, vt_more, vi_seq, oo_int, oo_lst, vi_range1, vi_range2, vi_zip, vi_enum, vb_bnot, vb_band, vb_bor, vb_ite, vb_cmp, vb_chain, vb_const, vb_loc, vb_bin, vb_neg, vb_tup, vb_lst, vb_sub, vb_slice, vb_attr, vb_call, vb_bi, vb_meth, ve_dead, ve_const, ve_loc, ve_bin, ve_neg, ve_cmp, ve_band, ve_bor, ve_bnot, ve_ite, ve_tup, ve_lst, ve_dict0, ve_sdict2, ve_sub, ve_slice, ve_attr, ve_call, ve_bi, ve_sortset, ve_append, ve_pop, ve_meth, ve_comp, vs_dead, vs_assign1, vs_assignT, vs_assignA, vs_assignS, vs_expr, vs_ifS, vs_forS, vs_whileS, vs_ret0, vs_ret, setMany, setS, getS, initR, List.replicate, bindT, bindTs, unpackV, List.length_cons, List.length_nil]
  refine for_rule (by rw [List.length_map]; omega) (fun i ρ' μ' => (∃ w1 w2 w3, ρ' = [some (cObj e), some (bl3 (b, en, run)), some (.lst (row m (taskP L N))), some (.lst (row m (firstP F))), some (.ref o), some (.int b), some (.int en), some (.lst (run.map pN)), some (.lst ((reasonsL L b en run).map lit3)), w1, w2, w3]) ∧ μ' = μ) (⟨⟨_, _, _, rfl⟩, rfl⟩) (fun i x ρ' μ' hx hJ => ?_) fun ρ' μ' hJ => ?_
  · obtain ⟨⟨w1, w2, w3, rfl⟩, rfl⟩ := hJ
    rw [nth_eq, List.getElem?_map] at hx
    cases hv : run[i]? with
    | none => rw [hv] at hx; cases hx
    | some k =>
      rw [hv] at hx
      cases hx
      have hkr := List.mem_of_getElem? hv
      exact br_body P hm hl rsl' hsg hbe hkr (hr k hkr) (hF k (hr k hkr)) fun _ _ _ => FZ.done ⟨⟨_, _, _, rfl⟩, rfl⟩
  · obtain ⟨⟨w1, w2, w3, rfl⟩, rfl⟩ := hJ
    exact ret_done hq
end
end Mine

open PySem PySem.Calls PyProof.Rows PySem.W
set_option maxRecDepth 100000
set_option linter.unusedVariables false
set_option linter.unusedSimpArgs false
set_option backward.match.sparseCases false
namespace Mine

noncomputable def sN (N : Nat → Int) (l : List Nat) : Int := (l.map N).sum
theorem filter_first {c : Nat → Bool} {n j : Nat} (hj : j < n) (hc : c j = true) (hl : ∀ i, i < j → c i = false) : ∃ r, (List.range n).filter c = j :: r := by
  obtain ⟨b, rfl⟩ : ∃ b, n = j + (b + 1) := ⟨n - j - 1, by omega⟩
  rw [List.range_add, List.filter_append, List.range_succ_eq_map]
  have e : (List.range j).filter c = [] := by
    rw [List.filter_eq_nil_iff]
    intro i hi
    rw [hl i (by simpa using hi)]
    simp
  rw [e]
  simp [hc]
theorem sN_cons (N : Nat → Int) (k : Nat) (l : List Nat) : sN N (k :: l) = N k + sN N l := by simp [sN]
theorem sN_nonneg {N : Nat → Int} : ∀ {l : List Nat}, (∀ k ∈ l, 0 ≤ N k) → 0 ≤ sN N l
  | [], _ => by simp [sN]
  | k :: r, h => by
    have := sN_nonneg (l := r) fun k hk => h k (List.mem_cons_of_mem _ hk)
    have := h k List.mem_cons_self
    rw [sN_cons]; omega
theorem enough_none {N : Nat → Int} {goal : Int} : ∀ (run f : List Nat) (need : Int), (∀ k ∈ run, 0 ≤ N k) → need + sN N run < goal → enoughL N goal run f need = none
  | [], f, need, hN, h => by
    simp only [sN, List.map_nil, List.sum_nil] at h
    rw [enoughL, if_neg (by omega)]
  | k :: r, f, need, hN, h => by
    rw [sN_cons] at h
    have h0 := hN k List.mem_cons_self
    have h1 := sN_nonneg (l := r) fun k hk => hN k (List.mem_cons_of_mem _ hk)
    rw [enoughL, if_neg (by omega)]
    exact enough_none r _ _ (fun k hk => hN k (List.mem_cons_of_mem _ hk)) (by omega)
theorem enough_some {N : Nat → Int} {goal : Int} : ∀ (run f : List Nat) (need : Int), goal ≤ need + sN N run → ∃ j, j ≤ run.length ∧ goal ≤ need + sN N (run.take j) ∧ (∀ i, i < j → need + sN N (run.take i) < goal) ∧ enoughL N goal run f need = some (f ++ run.take j)
  | [], f, need, h => by
    simp only [sN, List.map_nil, List.sum_nil] at h
    exact ⟨0, by simp, by simpa [sN] using h, by simp, by rw [enoughL, if_pos (by omega)]; simp⟩
  | k :: r, f, need, h => by
    by_cases c : goal ≤ need
    · exact ⟨0, by simp, by simpa [sN] using c, by simp, by rw [enoughL, if_pos c]; simp⟩
    · rw [sN_cons] at h
      obtain ⟨j, j1, j2, j3, j4⟩ := enough_some (N := N) (goal := goal) r (f ++ [k]) (need + N k) (by omega)
      refine ⟨j + 1, by simp; omega, by rw [List.take_succ_cons, sN_cons]; omega, fun i hi => ?_, by rw [enoughL, if_neg c, j4]; simp⟩
      cases i with
      | zero => simp [sN]; omega
      | succ i =>
        have := j3 i (by omega)
        rw [List.take_succ_cons, sN_cons]
        omega
section
variable {Γ : Gl} {n : Nat} {μ : Mu} {Q : PV → Mu → Prop} {m : Nat} {L N : Nat → Int} {lim : Int} {e : Addr}
theorem eq_lst_same {l : List PV} {k : Bool → Prop} (hd : DD (.lst l) 8) (hs : pvEqs l l = true) (hk : k true) : cmpV .Eq (.lst l) (.lst l) μ k := by
  cases l with
  | nil => exact hk
  | cons a r =>
    show dataOk _ ∧ dataOk _ ∧ k (pvEq _ _)
    refine ⟨hd.ok (by decide), hd.ok (by decide), ?_⟩
    simp only [pe_none, pe_int, pe_str, pe_tup, pe_lst]
    rw [hs]
    exact hk
theorem pvEq_pN (a b : Nat) : pvEq (pN a) (pN b) = decide (a = b) := by
  unfold pN
  rw [pvEq_int]
  by_cases c : a = b
  · simp [c]
  · have : (a : Int) ≠ b := by omega
    simp [c, this]
theorem sum_lst {l : List Int} {K : PV → Mu → Prop} (hl : l.length ≤ big) (hk : K (.int l.sum) μ) : biV .sum [.lst (l.map .int)] μ K := ⟨l, intsP_map l, by simpa using hl, hk⟩
theorem comp_need {run : List Nat} {ρ : Rho} {init : List (Option Nat)} {K : PV → Mu → Prop} (hm : m ≤ 1000) (hr : ∀ k ∈ run, k < m) (hl : run.length ≤ 1000) (hi : initR init ρ = [none, none, some (.lst (row m (taskP L N)))])
    (hk : K (.lst ((run.map N).map .int)) μ) : CompB Γ n (.sub (.sub (.loc 2) (.loc 1)) (.const (.int 1))) (.one 1) [] init ρ K (run.map pN) μ := by
  have hb : big = 100000 := rfl
  refine comp_pure (α := Nat) run pN (fun k => some (.int (N k))) rfl (by omega) (fun k hkr kk hkk => ?_) ?_
  · rw [hi]
    dsimp only [vk_nil, vk_cons, vl_nil, vl_cons, vf_nil, vf_cons, vo_none, vo_some, vt_one, vt_more, vi_seq, oo_int, oo_lst, vi_range1, vi_range2, vi_zip, vi_enum, vb_bnot, vb_band, vb_bor, vb_ite, vb_cmp, vb_chain, vb_const, vb_loc, vb_bin, vb_neg, vb_tup, vb_lst, vb_sub, vb_slice, vb_attr, vb_call, vb_bi, vb_meth, ve_dead, ve_const, ve_loc, ve_bin, ve_neg, ve_cmp, ve_band, ve_bor, ve_bnot, ve_ite, ve_tup, ve_lst, ve_dict0, ve_sdict2, ve_sub, ve_slice, ve_attr, ve_call, ve_bi, ve_sortset, ve_append, ve_pop, ve_meth, ve_comp, vs_dead, vs_assign1, vs_assignT, vs_assignA, vs_assignS, vs_expr, vs_ifS, vs_forS, vs_whileS, vs_ret0, vs_ret, setMany, setS, getS, initR, List.replicate, bindT, bindTs, unpackV, List.length_cons, List.length_nil]
    exact sub_rowL (μ := μ) (hr k hkr) (by omega) (sub_tup (μ := μ) (v := .int (N k)) (by decide) rfl hkk)
  · rw [List.filterMap_eq_map']
    refine newL_lst (by simp; omega) ?_
    rw [List.map_map] at hk
    exact hk
theorem c_enough_right (P : PR Γ) {run : List Nat} {goal : Int} (h : CumAt μ e m L N lim) (hm : m ≤ 20) (hr : ∀ k ∈ run, k < m) (hl : run.length ≤ 20) (hN : ∀ k, k < m → 0 ≤ N k) (hq : Q (.bool true) μ) :
    CallT Γ (n + 2) (.ref 461) [cObj e, .lst (run.map pN), .lst (row m (taskP L N)), .int goal] μ Q := by
  have hb : big = 100000 := rfl
  refine FN.call P.gt P.f461 rfl ?_
  dsimp only [m_law_is_enough_right, vk_nil, vk_cons, vl_nil, vl_cons, vf_nil, vf_cons, vo_none, vo_some, vt_one, vt_more, vi_seq, oo_int, oo_lst, vi_range1, vi_range2, vi_zip, vi_enum, vb_bnot, vb_band, vb_bor, vb_ite, vb_cmp, vb_chain, vb_const, vb_loc, vb_bin, vb_neg, vb_tup, vb_lst, vb_sub, vb_slice, vb_attr, vb_call, vb_bi, vb_meth, ve_dead, ve_const, ve_loc, ve_bin, ve_neg, ve_cmp, ve_band, ve_bor, ve_bnot, ve_ite, ve_tup, ve_lst, ve_dict0, ve_sdict2, ve_sub, ve_slice, ve_attr, ve_call, ve_bi, ve_sortset, ve_append, ve_pop, ve_meth, ve_comp, vs_dead, vs_assign1, vs_assignT, vs_assignA, vs_assignS, vs_expr, vs_ifS, vs_forS, vs_whileS, vs_ret0, vs_ret, setMany, setS, getS, initR, List.replicate, bindT, bindTs, unpackV, List.length_cons, List.length_nil]
  refine meth_at h rfl rfl ?_
  dsimp only [vk_nil, vk_cons, vl_nil, vl_cons, vf_nil, vf_cons, vo_none, vo_some, vt_one, vt_more, vi_seq, oo_int, oo_lst, vi_range1, vi_range2, vi_zip, vi_enum, vb_bnot, vb_band, vb_bor, vb_ite, vb_cmp, vb_chain, vb_const, vb_loc, vb_bin, vb_neg, vb_tup, vb_lst, vb_sub, vb_slice, vb_attr, vb_call, vb_bi, vb_meth, ve_dead, ve_const, ve_loc, ve_bin, ve_neg, ve_cmp, ve_band, ve_bor, ve_bnot, ve_ite, ve_tup, ve_lst, ve_dict0, ve_sdict2, ve_sub, ve_slice, ve_attr, ve_call, ve_bi, ve_sortset, ve_append, ve_pop, ve_meth, ve_comp, vs_dead, vs_assign1, vs_assignT, vs_assignA, vs_assignS, vs_expr, vs_ifS, vs_forS, vs_whileS, vs_ret0, vs_ret, setMany, setS, getS, initR, List.replicate, bindT, bindTs, unpackV, List.length_cons, List.length_nil]
  refine c_enough P h (by omega) hr (by omega) ?_
  refine comp_need (by omega) hr (by omega) rfl (sum_lst (by simp; omega) ?_)
  ((try dsimp only [vk_nil, vk_cons, vl_nil, vl_cons, vf_nil, vf_cons, vo_none, vo_some, vt_one, vt_more, vi_seq, oo_int, oo_lst, vi_range1, vi_range2, vi_zip, vi_enum, vb_bnot, vb_band, vb_bor, vb_ite, vb_cmp, vb_chain, vb_const, vb_loc, vb_bin, vb_neg, vb_tup, vb_lst, vb_sub, vb_slice, vb_attr, vb_call, vb_bi, vb_meth, ve_dead, ve_const, ve_loc, ve_bin, ve_neg, ve_cmp, ve_band, ve_bor, ve_bnot, ve_ite, ve_tup, ve_lst, ve_dict0, ve_sdict2, ve_sub, ve_slice, ve_attr, ve_call, ve_bi, ve_sortset, ve_append, ve_pop, ve_meth, ve_comp, vs_dead, vs_assign1, vs_assignT, vs_assignA, vs_assignS, vs_expr, vs_ifS, vs_forS, vs_whileS, vs_ret0, vs_ret, setMany, setS, getS, initR, List.replicate, bindT, bindTs, unpackV, List.length_cons, List.length_nil]); simp only [vk_nil, vk_cons, vl_nil, vl_cons, vf_nil, vf_cons, vo_none, vo_some, vt_one, vt_more, vi_seq, oo_int, oo_lst, vi_range1, vi_range2, vi_zip, vi_enum, vb_bnot, vb_band, vb_bor, vb_ite, vb_cmp, vb_chain, vb_const, vb_loc, vb_bin, vb_neg, vb_tup, vb_lst, vb_sub, vb_slice, vb_attr, vb_call, vb_bi, vb_meth, ve_dead, ve_const, ve_loc, ve_bin, ve_neg, ve_cmp, ve_band, ve_bor, ve_bnot, ve_ite, ve_tup, ve_lst, ve_dict0, ve_sdict2, ve_sub, ve_slice, ve_attr, ve_call, ve_bi, ve_sortset, ve_append, ve_pop, ve_meth, ve_comp, vs_dead, vs_assign1, vs_assignT, vs_assignA, vs_assignS, vs_expr, vs_ifS, vs_forS, vs_whileS, vs_ret0, vs_ret, setMany, setS, getS, initR, List.replicate, bindT, bindTs, unpackV, List.length_cons, List.length_nil, cmp_lt, true_and])
  rw [show (run.map N).sum = sN N run from rfl]
  by_cases c : sN N run < goal
  · simp only [c, decide_true, if_true]
    rw [enough_none run [] 0 (fun k hk => hN k (hr k hk)) (by omega)]
    have z : ∀ k : Bool → Prop, cmpV .Is (optL none) .none μ k = k true := fun _ => rfl
    rw [z]
    exact ret_done hq
  · simp only [c, decide_false, Bool.false_eq_true, if_false]
    obtain ⟨j, j1, j2, j3, j4⟩ := enough_some (N := N) (goal := goal) run [] 0 (by omega)
    rw [j4]
    refine len_lst (by rw [List.length_map]; omega) ?_
    simp only [bv_add, bv_sub, bv_mul, bv_mod, bv_tup, bv_lst]
    refine ⟨by rw [List.length_map]; omega, ?_⟩
    have er : (((run.map pN).length : Int) + 1).toNat = run.length + 1 := by rw [List.length_map]; omega
    rw [er, rangeP_row]
    refine comp_pure (α := Nat) (List.range (run.length + 1)) pN (fun i => if decide (goal ≤ sN N (run.take i)) then some (pN i) else none) rfl (by simp; omega) (fun i hi kk hkk => ?_) ?_
    · have hi' : i < run.length + 1 := by simpa using hi
      dsimp only [pN, vk_nil, vk_cons, vl_nil, vl_cons, vf_nil, vf_cons, vo_none, vo_some, vt_one, vt_more, vi_seq, oo_int, oo_lst, vi_range1, vi_range2, vi_zip, vi_enum, vb_bnot, vb_band, vb_bor, vb_ite, vb_cmp, vb_chain, vb_const, vb_loc, vb_bin, vb_neg, vb_tup, vb_lst, vb_sub, vb_slice, vb_attr, vb_call, vb_bi, vb_meth, ve_dead, ve_const, ve_loc, ve_bin, ve_neg, ve_cmp, ve_band, ve_bor, ve_bnot, ve_ite, ve_tup, ve_lst, ve_dict0, ve_sdict2, ve_sub, ve_slice, ve_attr, ve_call, ve_bi, ve_sortset, ve_append, ve_pop, ve_meth, ve_comp, vs_dead, vs_assign1, vs_assignT, vs_assignA, vs_assignS, vs_expr, vs_ifS, vs_forS, vs_whileS, vs_ret0, vs_ret, setMany, setS, getS, initR, List.replicate, bindT, bindTs, unpackV, List.length_cons, List.length_nil]
      refine .hi rfl (by simp; omega) (by omega) (newL_lst (by simp; omega) ?_)
      rw [Int.toNat_natCast, ← List.map_take]
      refine comp_need (m := m) (L := L) (N := N) (by omega) (fun k hk => hr k (List.mem_of_mem_take hk)) (by rw [List.length_take]; omega) rfl (sum_lst (by rw [List.length_map, List.length_take]; omega) ?_)
      rw [show ((run.take i).map N).sum = sN N (run.take i) from rfl, cmp_ge]
      by_cases c : goal ≤ sN N (run.take i)
      · simpa [c, pN] using hkk
      · simpa [c, pN] using hkk
    · rw [filter_map]
      obtain ⟨r, hf⟩ := filter_first (c := fun i => decide (goal ≤ sN N (run.take i))) (n := run.length + 1) (j := j) (by omega) (by simpa using j2) (fun i hi => by have := j3 i hi; simp; omega)
      have hfl : ((List.range (run.length + 1)).filter fun i => decide (goal ≤ sN N (run.take i))).length ≤ 30 := Nat.le_trans (List.length_filter_le _ _) (by simp; omega)
      rw [hf] at hfl ⊢
      refine newL_lst (by rw [List.length_map]; omega) (sub_lst (v := pN j) (by decide) rfl ?_)
      simp only [pN]
      refine .hi rfl (by rw [List.length_map]; omega) (by omega) (newL_lst (by simp; omega) ?_)
      rw [Int.toNat_natCast, List.nil_append]
      have e1 : (List.take j (run.map pN)) = (run.take j).map pN := by rw [List.map_take]
      have e2 : optL (some (run.take j)) = .lst ((run.take j).map pN) := rfl
      rw [e1, e2]
      refine eq_lst_same ?_ ?_ (ret_done hq)
      · exact ⟨(DD.lst (m := 0) (DD.map fun a _ => DD.int)).1, Nat.le_trans (DD.lst (m := 0) (DD.map fun a _ => DD.int)).2 (by decide)⟩
      · rw [pvEqs_map pvEq_pN]; simp
end
end Mine

open PySem PySem.Calls PyProof.Rows PySem.W
set_option maxRecDepth 100000
set_option linter.unusedVariables false
set_option linter.unusedSimpArgs false
set_option backward.match.sparseCases false
namespace Mine

theorem pvEq_refl (p : PV) : pvData p = true → pvEq p p = true :=
  PV.rec (motive_1 := fun p => pvData p = true → pvEq p p = true) (motive_2 := fun l => pvDatas l = true → pvEqs l l = true)
    (fun _ => rfl) (fun _ h => ff h) (fun i _ => beq_self_eq_true i) (fun x _ => beq_self_eq_true x) (fun _ ih h => ih h) (fun _ ih h => ih h) (fun _ h => ff h) (fun _ h => ff h)
    (fun _ => rfl) (fun _ _ a b h => Bool.and_eq_true_iff.mpr ⟨a (Bool.and_eq_true_iff.mp h).1, b (Bool.and_eq_true_iff.mp h).2⟩) p

noncomputable def has14 (m : Nat) (L N : Nat → Int) (O : Nat → List Int) (k t : Nat) : Bool := (runAt m L N O t).any fun x => decide (x = k)
noncomputable def timesOf (m : Nat) (L N : Nat → Int) (O : Nat → List Int) (k : Nat) : List Nat := (List.range 14).filter (has14 m L N O k)
noncomputable def stretch (l : List Nat) (k : Nat) : Option (Int × Int × Nat) := match l with
  | [] => none
  | a :: r => some ((a : Int), (r.getLastD a : Int) + 1, k)
noncomputable def stretches (m : Nat) (L N : Nat → Int) (O : Nat → List Int) (j : Nat) : List (Int × Int × Nat) := (List.range j).filterMap fun k => stretch (timesOf m L N O k) k
noncomputable def tlP (p : Int × List Nat) : PV := .tup [.int p.1, .lst (p.2.map pN)]
noncomputable def tellB (r : Int × Int × List Nat) : List (Int × List Nat) := (List.range (r.2.1 - r.1).toNat).map fun (k : Nat) => (r.1 + (k : Int), r.2.2)
noncomputable def tellS (m : Nat) (L N : Nat → Int) (O : Nat → List Int) : List (Int × List Nat) := ((List.range 14).filter fun (t : Nat) => !(runAt m L N O t).isEmpty).map fun (t : Nat) => ((t : Int), runAt m L N O t)
structure NowOk (m : Nat) (L N : Nat → Int) (O : Nat → List Int) (s : List (Int × Int × Nat)) (rows : List (Int × Int × List Nat)) : Prop where
  st : stretches m L N O m = s
  told : rows.flatMap tellB = tellS m L N O
  apart : ∀ p ∈ rows.zip (rows.drop 1), ¬ (p.1.2.1 = p.2.1 ∧ p.1.2.2 = p.2.2.2)
  blk : ∀ r ∈ rows, (∀ k ∈ r.2.2, k < m) ∧ (∀ k ∈ r.2.2, ∀ s ∈ O k, s ≤ r.1 ∧ r.2.1 - L k ≤ s) ∧ r.1 ≤ r.2.1 ∧ 0 ≤ r.1 ∧ r.2.1 ≤ 50 ∧ r.2.2.length ≤ 20
  few : rows.length ≤ 50
section
variable {Γ : Gl} {n : Nat} {μ : Mu} {Q : PV → Mu → Prop} {m : Nat} {L N : Nat → Int} {lim : Int} {e : Addr} {O F : Nat → List Int}
noncomputable def nowT3 : List MS := m_law_is_now_right.drop 3
noncomputable def nowT7 : List MS := m_law_is_now_right.drop 7
theorem now_e0 : m_law_is_now_right = [.assignT [.one 6, .one 7] (.tup [.call (.ref 451) [.loc 3, .loc 5], .meth (.loc 1) 10 [.loc 2]]), .assign1 8 (.lst []), .forS (.one 9) (.range1 (.bi .len [.loc 3])) [.assign1 10 (.comp (.loc 1) (.one 1) (.seq (.loc 6)) [.cmp .In (.loc 2) (.sub (.loc 3) (.loc 1))] [none, none, some 9, some 6]), .ifS (.cmp .NotEq (.loc 10) (.lst [])) [.expr (.append (.loc 8) (.tup [.sub (.loc 10) (.const (.int 0)), .bin .Add (.sub (.loc 10) (.neg (.const (.int 1)))) (.const (.int 1)), .loc 9]))] []]] ++ nowT3 := rfl
theorem now_e3 : nowT3 = [.ifS (.cmp .NotEq (.meth (.loc 1) 9 [.loc 2]) (.loc 8)) [.ret (some (.const (.bool false)))] [], .assign1 11 (.lst []), .forS (.many [.one 12, .one 13, .one 14]) (.seq (.loc 7)) [.assign1 11 (.bin .Add (.loc 11) (.comp (.tup [.loc 1, .loc 2]) (.one 1) (.range2 (.loc 12) (.loc 13)) [] [none, none, some 14]))], .ifS (.cmp .NotEq (.loc 11) (.comp (.tup [.loc 1, .sub (.loc 2) (.loc 1)]) (.one 1) (.seq (.loc 6)) [.cmp .NotEq (.sub (.loc 2) (.loc 1)) (.lst [])] [none, none, some 6])) [.ret (some (.const (.bool false)))] []] ++ nowT7 := rfl
theorem now_e7 : nowT7 = [.forS (.many [.one 15, .one 16]) (.zip (.loc 7) (.slice (.loc 7) (some (.const (.int 1))) none)) [.ifS (.band (.cmp .Eq (.sub (.loc 15) (.const (.int 1))) (.sub (.loc 16) (.const (.int 0)))) (.cmp .Eq (.sub (.loc 15) (.const (.int 2))) (.sub (.loc 16) (.const (.int 2))))) [.ret (some (.const (.bool false)))] []], .assign1 17 (.tup [.const (.int 0), .bin .Add (.const (.int 1)) (.call (.ref 434) [.loc 0, .const (.int 4)]), .bin .Add (.const (.int 2)) (.call (.ref 434) [.loc 0, .const (.int 7)])]), .forS (.one 18) (.seq (.loc 7)) [.ifS (.bnot (.call (.ref 456) [.loc 1, .loc 18, .loc 3, .loc 4, .loc 5])) [.ret (some (.const (.bool false)))] [], .ifS (.bnot (.bi .all [.comp (.call (.ref 461) [.loc 4, .sub (.loc 3) (.const (.int 2)), .loc 5, .loc 1]) (.one 1) (.seq (.loc 17)) [] [none, none, none, some 18, some 1, some 3]])) [.ret (some (.const (.bool false)))] []], .ret (some (.const (.bool true)))] := rfl
theorem ne_same {l : List PV} {a : Addr} {k : Bool → Prop} (h : μ a = some (.list l)) (hd : DD (.lst l) 8) (hk : k false) : cmpV .NotEq (.lst l) (.ref a) μ k := by
  have e : cmpV .NotEq (.lst l) (.ref a) μ k = eqV (.lst l) (.lst l) fun b => k (!b) := by simp only [cv_lt, cv_le, cv_gt, cv_ge, cv_eq, cv_ne, cv_in, cv_isn, cv_isl, cv_ist, cv_isr, dr_ref, dr_lst, dr_tup, dr_int, dr_str, dr_none, dr_bool, dr_obj, h]
  rw [e]
  cases l with
  | nil => exact hk
  | cons x r => exact ⟨hd.ok (by decide), hd.ok (by decide), by rw [pvEq_refl _ hd.1]; exact hk⟩
theorem ne_sameL {l : List PV} {k : Bool → Prop} (hd : DD (.lst l) 8) (hk : k false) : cmpV .NotEq (.lst l) (.lst l) μ k := by
  have e : cmpV .NotEq (.lst l) (.lst l) μ k = eqV (.lst l) (.lst l) fun b => k (!b) := rfl
  rw [e]
  cases l with
  | nil => exact hk
  | cons x r => exact ⟨hd.ok (by decide), hd.ok (by decide), by rw [pvEq_refl _ hd.1]; exact hk⟩
theorem look_sure {t j : Nat} (h : t < j) : lookS (t : Int) (sureMap m L N O j) = some (.lst ((runAt m L N O t).map pN)) := by
  have g : ∀ l : List Nat, t ∈ l → lookS (t : Int) (l.map fun (t : Nat) => ((t : Int), PV.lst ((runAt m L N O t).map pN))) = some (.lst ((runAt m L N O t).map pN)) := by
    intro l
    induction l with
    | nil => intro h; cases h
    | cons a r ih =>
      intro h
      simp only [List.map_cons, lookS]
      by_cases c : a = t
      · subst c; rw [if_pos rfl]
      · rw [if_neg (by omega)]
        exact ih (by rcases List.mem_cons.mp h with q | q; exact absurd q.symm c; exact q)
  exact g _ (by simpa using h)
theorem sub_imap {a : Addr} {es : List (Int × PV)} {j : Int} {v : PV} {k : PV → Prop} (hm : μ a = some (.imap es)) (h : lookS j es = some v) (hk : k v) : subV (.ref a) (.int j) μ k := .imap hm h hk
theorem sure_keys : (sureMap m L N O 14).map (fun x => PV.int x.1) = (List.range 14).map pN := by
  simp [sureMap, pN]
theorem DD.pN {k m : Nat} : DD (pN k) m := DD.int
theorem DD.run {r : List Nat} {m : Nat} : DD (.lst (r.map Mine.pN)) (m + 1) := DD.lst (DD.map fun a _ => DD.int)
theorem in_lst {l : List PV} {p : PV} {k : Bool → Prop} (h1 : dataOk p) (h2 : dataOk (.lst l)) (hk : k (l.any fun x => pvEq x p)) : cmpV .In p (.lst l) μ k := ⟨h1, h2, hk⟩
structure At (μ : Mu) (f o d e : Addr) (cs : List Int) (kf : Nat) (S : SA) (m : Nat) (L N : Nat → Int) (lim : Int) (O : Nat → List Int) (D : Nat → Dom) (firsts trail marks : List PV) : Prop where
  hf : μ f = some (feedMO cs kf)
  h : CumAt μ e m L N lim
  hs : StoreAt μ S (row m fun k => dP (D k)) firsts trail marks
  ho : μ o = some (.list (row m (ownP O)))
  hd : μ d = some (.imap (sureMap m L N O 14))
theorem At.set {f o d e a : Addr} {cs : List Int} {kf : Nat} {S : SA} {D : Nat → Dom} {firsts trail marks : List PV} {x : MO} (A : At μ f o d e cs kf S m L N lim O D firsts trail marks) (ha : μ a = none) : At (μ.set a x) f o d e cs kf S m L N lim O D firsts trail marks := by
  have nk : ∀ {b o}, μ b = some o → b ≠ a := fun h q => by rw [q, ha] at h; cases h
  exact
  { hf := by rw [Mu.set_ne (nk A.hf)]; exact A.hf
    h := by unfold CumAt; rw [Mu.set_ne (nk A.h)]; exact A.h
    hs := store_set A.hs ha
    ho := by rw [Mu.set_ne (nk A.ho)]; exact A.ho
    hd := by rw [Mu.set_ne (nk A.hd)]; exact A.hd }
theorem At.feed {f o d e : Addr} {cs : List Int} {kf kf' : Nat} {S : SA} {D : Nat → Dom} {firsts trail marks : List PV} (A : At μ f o d e cs kf S m L N lim O D firsts trail marks) : At (μ.set f (feedMO cs kf')) f o d e cs kf' S m L N lim O D firsts trail marks := by
  have nk : ∀ {b o}, μ b = some o → (∀ es, o ≠ .sdict es) → b ≠ f := fun h q r => by
    subst r
    rw [A.hf] at h
    exact q _ (Option.some.inj h).symm
  obtain ⟨es, e1, e2⟩ := A.hs.hnw
  exact
  { hf := Mu.set_self
    h := by unfold CumAt; rw [Mu.set_ne (nk A.h (by simp))]; exact A.h
    hs := { A.hs with
      hd := by rw [Mu.set_ne (nk A.hs.hd (by simp))]; exact A.hs.hd
      hdm := by rw [Mu.set_ne (nk A.hs.hdm (by simp))]; exact A.hs.hdm
      hfr := by rw [Mu.set_ne (nk A.hs.hfr (by simp))]; exact A.hs.hfr
      htr := by rw [Mu.set_ne (nk A.hs.htr (by simp))]; exact A.hs.htr
      hmk := by rw [Mu.set_ne (nk A.hs.hmk (by simp))]; exact A.hs.hmk
      hnw := ⟨es, by rw [Mu.set_ne (nk e1 (by simp))]; exact e1, e2⟩ }
    ho := by rw [Mu.set_ne (nk A.ho (by simp))]; exact A.ho
    hd := by rw [Mu.set_ne (nk A.hd (by simp))]; exact A.hd }
section
variable {f o d a : Addr} {cs : List Int} {kf : Nat} {S : SA} {D : Nat → Dom} {firsts trail marks : List PV} {rows : List (Int × Int × List Nat)} {s : List (Int × Int × Nat)}
noncomputable def base (f o d a e : Addr) (S : SA) (m : Nat) (L N : Nat → Int) (F : Nat → List Int) (rows : List (Int × Int × List Nat)) (r : Rho) : Rho :=
  some (.ref f) :: some (cObj e) :: some (sObj S.d) :: some (.lst (row m (taskP L N))) :: some (.lst (row m (firstP F))) :: some (.ref o) :: some (.ref d) :: some (.lst (rows.map bl3)) :: some (.ref a) :: r
theorem eq_runs {x y : List Nat} {k : Bool → Prop} (h : k (decide (x = y))) : cmpV .Eq (.lst (x.map pN)) (.lst (y.map pN)) μ k := by
  have e : cmpV .Eq (.lst (x.map pN)) (.lst (y.map pN)) μ k = eqV (.lst (x.map pN)) (.lst (y.map pN)) k := rfl
  rw [e]
  cases y with
  | nil =>
    cases x with
    | nil => exact h
    | cons a r => exact h
  | cons b r =>
    refine ⟨(DD.run (m := 0)).ok (by decide), (DD.run (r := b :: r) (m := 0)).ok (by decide), ?_⟩
    show k (pvEqs (List.map pN x) (List.map pN (b :: r)))
    rw [pvEqs_map pvEq_pN x (b :: r)]
    exact h
theorem all_true {α : Type} {l : List α} {K : PV → Mu → Prop} (hl : l.length ≤ big) (hk : K (.bool true) μ) : biV .all [.lst (l.map fun _ => PV.bool true)] μ K := by
  refine ⟨l.map fun _ => true, ?_, by simpa using hl, ?_⟩
  · induction l with
    | nil => rfl
    | cons a r ih =>
      have := ih (by simp at hl; omega)
      exact congrArg (Option.map (true :: ·)) this
  · have : (l.map fun _ => true).all id = true := by simp
    rw [this]
    exact hk
theorem now_7 (P : PR Γ) (A : At μ f o d e cs kf S m L N lim O D firsts trail marks) (hc : cs.length ≤ 60) (hkf : kf ≤ 90000) (hm : m ≤ 20) (hO : ∀ k, k < m → (O k).length ≤ 100) (hF : ∀ k, k < m → (F k).length ≤ 100) (hN : ∀ k, k < m → 0 ≤ N k)
    (ok : NowOk m L N O s rows) (hq : Q (.bool true) (μ.set f (feedMO cs (kf + 2)))) (w9 w10 w11 w12 w13 w14 : Option PV) :
    vcSs Γ (n + 4) nowT7 (base f o d a e S m L N F rows [w9, w10, w11, w12, w13, w14, none, none, none, none, none, none, none, none, none, none, none]) μ (RetQ Q) := by
  have hb : big = 100000 := rfl
  dsimp only [now_e7, base, vk_nil, vk_cons, vl_nil, vl_cons, vf_nil, vf_cons, vo_none, vo_some, vt_one, vt_more, vi_seq, oo_int, oo_lst, vi_range1, vi_range2, vi_zip, vi_enum, vb_bnot, vb_band, vb_bor, vb_ite, vb_cmp, vb_chain, vb_const, vb_loc, vb_bin, vb_neg, vb_tup, vb_lst, vb_sub, vb_slice, vb_attr, vb_call, vb_bi, vb_meth, ve_dead, ve_const, ve_loc, ve_bin, ve_neg, ve_cmp, ve_band, ve_bor, ve_bnot, ve_ite, ve_tup, ve_lst, ve_dict0, ve_sdict2, ve_sub, ve_slice, ve_attr, ve_call, ve_bi, ve_sortset, ve_append, ve_pop, ve_meth, ve_comp, vs_dead, vs_assign1, vs_assignT, vs_assignA, vs_assignS, vs_expr, vs_ifS, vs_forS, vs_whileS, vs_ret0, vs_ret, setMany, setS, getS, initR, List.replicate, bindT, bindTs, unpackV, List.length_cons, List.length_nil]
  have hfew := ok.few
  refine slice_lo (by rw [List.length_map]; omega) (by decide) (newL_lst (by rw [List.length_drop, List.length_map]; omega) ?_)
  have ez : zipP (rows.map bl3) ((rows.map bl3).drop (Int.toNat 1)) = (rows.zip (rows.drop 1)).map fun p => .tup [bl3 p.1, bl3 p.2] := by
    rw [show Int.toNat 1 = 1 from rfl, ← List.map_drop, zipP_map]
  simp only [oo_lst, ez]
  refine for_rule (by rw [List.length_map, List.length_zip]; omega) (fun i ρ' μ' => (∃ w15 w16, ρ' = base f o d a e S m L N F rows [w9, w10, w11, w12, w13, w14, w15, w16, none, none, none, none, none, none, none, none, none]) ∧ μ' = μ) (⟨⟨_, _, rfl⟩, rfl⟩) (fun i x ρ' μ' hx hJ => ?_) fun ρ' μ' hJ => ?_
  · obtain ⟨⟨w15, w16, rfl⟩, rfl⟩ := hJ
    rw [nth_eq, List.getElem?_map] at hx
    cases hv : (rows.zip (rows.drop 1))[i]? with
    | none => rw [hv] at hx; cases hx
    | some p =>
      rw [hv] at hx
      cases hx
      have hap := ok.apart p (List.mem_of_getElem? hv)
      dsimp only [base, vk_nil, vk_cons, vl_nil, vl_cons, vf_nil, vf_cons, vo_none, vo_some, vt_one, vt_more, vi_seq, oo_int, oo_lst, vi_range1, vi_range2, vi_zip, vi_enum, vb_bnot, vb_band, vb_bor, vb_ite, vb_cmp, vb_chain, vb_const, vb_loc, vb_bin, vb_neg, vb_tup, vb_lst, vb_sub, vb_slice, vb_attr, vb_call, vb_bi, vb_meth, ve_dead, ve_const, ve_loc, ve_bin, ve_neg, ve_cmp, ve_band, ve_bor, ve_bnot, ve_ite, ve_tup, ve_lst, ve_dict0, ve_sdict2, ve_sub, ve_slice, ve_attr, ve_call, ve_bi, ve_sortset, ve_append, ve_pop, ve_meth, ve_comp, vs_dead, vs_assign1, vs_assignT, vs_assignA, vs_assignS, vs_expr, vs_ifS, vs_forS, vs_whileS, vs_ret0, vs_ret, setMany, setS, getS, initR, List.replicate, bindT, bindTs, unpackV, List.length_cons, List.length_nil]
      refine ⟨by trivial, sub_tup (v := .int p.1.2.1) (by decide) rfl (sub_tup (v := .int p.2.1) (by decide) rfl ?_)⟩
      rw [cmp_eqI]
      by_cases c1 : p.1.2.1 = p.2.1
      · have c2 : ¬ p.1.2.2 = p.2.2.2 := fun q => hap ⟨c1, q⟩
        rw [beq_dec, decide_eq_true c1, if_pos rfl]
        refine sub_tup (v := .lst (p.1.2.2.map pN)) (by decide) rfl (sub_tup (v := .lst (p.2.2.2.map pN)) (by decide) rfl (eq_runs ?_))
        rw [decide_eq_false c2]
        simp only [Bool.false_eq_true, if_false]
        exact FZ.done ⟨⟨_, _, rfl⟩, rfl⟩
      · rw [beq_dec, decide_eq_false c1]
        simp only [Bool.false_eq_true, if_false]
        exact FZ.done ⟨⟨_, _, rfl⟩, rfl⟩
  · obtain ⟨⟨w15, w16, rfl⟩, rfl⟩ := hJ
    dsimp only [base, vk_nil, vk_cons, vl_nil, vl_cons, vf_nil, vf_cons, vo_none, vo_some, vt_one, vt_more, vi_seq, oo_int, oo_lst, vi_range1, vi_range2, vi_zip, vi_enum, vb_bnot, vb_band, vb_bor, vb_ite, vb_cmp, vb_chain, vb_const, vb_loc, vb_bin, vb_neg, vb_tup, vb_lst, vb_sub, vb_slice, vb_attr, vb_call, vb_bi, vb_meth, ve_dead, ve_const, ve_loc, ve_bin, ve_neg, ve_cmp, ve_band, ve_bor, ve_bnot, ve_ite, ve_tup, ve_lst, ve_dict0, ve_sdict2, ve_sub, ve_slice, ve_attr, ve_call, ve_bi, ve_sortset, ve_append, ve_pop, ve_meth, ve_comp, vs_dead, vs_assign1, vs_assignT, vs_assignA, vs_assignS, vs_expr, vs_ifS, vs_forS, vs_whileS, vs_ret0, vs_ret, setMany, setS, getS, initR, List.replicate, bindT, bindTs, unpackV, List.length_cons, List.length_nil]
    refine c_draw P A.hf hc (by omega) (by decide) fun r1 _ _ => ?_
    simp only [bv_add, bv_sub, bv_mul, bv_mod, bv_tup, bv_lst]
    refine c_draw P A.feed.hf hc (by omega) (by decide) fun r2 _ _ => ?_
    simp only [bv_add, bv_sub, bv_mul, bv_mod, bv_tup, bv_lst, Mu.set_set]
    have A2 := A.feed (kf' := kf + 1 + 1)
    have hq2 : Q (.bool true) (μ'.set f (feedMO cs (kf + 1 + 1))) := hq
    generalize μ'.set f (feedMO cs (kf + 1 + 1)) = μ2 at *; revert μ2; refine id ?_; set_option tactic.hygienic false in intros
    refine for_rule (by rw [List.length_map]; omega) (fun i ρ' μ' => (∃ w18, ρ' = base f o d a e S m L N F rows [w9, w10, w11, w12, w13, w14, w15, w16, some (.tup [.int 0, .int (1 + r1), .int (2 + r2)]), w18, none, none, none, none, none, none, none]) ∧ μ' = μ2) (⟨⟨_, rfl⟩, rfl⟩) (fun i x ρ' μ' hx hJ => ?_) fun ρ' μ' hJ => ?_
    · obtain ⟨⟨w18, rfl⟩, rfl⟩ := hJ
      rw [nth_eq, List.getElem?_map] at hx
      cases hv : rows[i]? with
      | none => rw [hv] at hx; cases hx
      | some r =>
        rw [hv] at hx
        cases hx
        obtain ⟨b1, b2, b3, b4, b5, b6⟩ := ok.blk r (List.mem_of_getElem? hv)
        obtain ⟨b, en, run⟩ := r
        dsimp only [base, vk_nil, vk_cons, vl_nil, vl_cons, vf_nil, vf_cons, vo_none, vo_some, vt_one, vt_more, vi_seq, oo_int, oo_lst, vi_range1, vi_range2, vi_zip, vi_enum, vb_bnot, vb_band, vb_bor, vb_ite, vb_cmp, vb_chain, vb_const, vb_loc, vb_bin, vb_neg, vb_tup, vb_lst, vb_sub, vb_slice, vb_attr, vb_call, vb_bi, vb_meth, ve_dead, ve_const, ve_loc, ve_bin, ve_neg, ve_cmp, ve_band, ve_bor, ve_bnot, ve_ite, ve_tup, ve_lst, ve_dict0, ve_sdict2, ve_sub, ve_slice, ve_attr, ve_call, ve_bi, ve_sortset, ve_append, ve_pop, ve_meth, ve_comp, vs_dead, vs_assign1, vs_assignT, vs_assignA, vs_assignS, vs_expr, vs_ifS, vs_forS, vs_whileS, vs_ret0, vs_ret, setMany, setS, getS, initR, List.replicate, bindT, bindTs, unpackV, List.length_cons, List.length_nil]
        refine c_block_right P A2.h A2.ho hm hO hF b1 b6 b2 b3 ?_
        ((try dsimp only [tv_bool, tv_int, tv_none, vk_nil, vk_cons, vl_nil, vl_cons, vf_nil, vf_cons, vo_none, vo_some, vt_one, vt_more, vi_seq, oo_int, oo_lst, vi_range1, vi_range2, vi_zip, vi_enum, vb_bnot, vb_band, vb_bor, vb_ite, vb_cmp, vb_chain, vb_const, vb_loc, vb_bin, vb_neg, vb_tup, vb_lst, vb_sub, vb_slice, vb_attr, vb_call, vb_bi, vb_meth, ve_dead, ve_const, ve_loc, ve_bin, ve_neg, ve_cmp, ve_band, ve_bor, ve_bnot, ve_ite, ve_tup, ve_lst, ve_dict0, ve_sdict2, ve_sub, ve_slice, ve_attr, ve_call, ve_bi, ve_sortset, ve_append, ve_pop, ve_meth, ve_comp, vs_dead, vs_assign1, vs_assignT, vs_assignA, vs_assignS, vs_expr, vs_ifS, vs_forS, vs_whileS, vs_ret0, vs_ret, setMany, setS, getS, initR, List.replicate, bindT, bindTs, unpackV, List.length_cons, List.length_nil]); simp only [tv_bool, tv_int, tv_none, Bool.not_true, Bool.false_eq_true, if_false, vk_nil, vk_cons, vl_nil, vl_cons, vf_nil, vf_cons, vo_none, vo_some, vt_one, vt_more, vi_seq, oo_int, oo_lst, vi_range1, vi_range2, vi_zip, vi_enum, vb_bnot, vb_band, vb_bor, vb_ite, vb_cmp, vb_chain, vb_const, vb_loc, vb_bin, vb_neg, vb_tup, vb_lst, vb_sub, vb_slice, vb_attr, vb_call, vb_bi, vb_meth, ve_dead, ve_const, ve_loc, ve_bin, ve_neg, ve_cmp, ve_band, ve_bor, ve_bnot, ve_ite, ve_tup, ve_lst, ve_dict0, ve_sdict2, ve_sub, ve_slice, ve_attr, ve_call, ve_bi, ve_sortset, ve_append, ve_pop, ve_meth, ve_comp, vs_dead, vs_assign1, vs_assignT, vs_assignA, vs_assignS, vs_expr, vs_ifS, vs_forS, vs_whileS, vs_ret0, vs_ret, setMany, setS, getS, initR, List.replicate, bindT, bindTs, unpackV, List.length_cons, List.length_nil])
        refine comp_pure (α := Int) [0, 1 + r1, 2 + r2] PV.int (fun _ => some (.bool true)) rfl (by simp; omega) (fun g hg kk hk => ?_) ?_
        · dsimp only [vk_nil, vk_cons, vl_nil, vl_cons, vf_nil, vf_cons, vo_none, vo_some, vt_one, vt_more, vi_seq, oo_int, oo_lst, vi_range1, vi_range2, vi_zip, vi_enum, vb_bnot, vb_band, vb_bor, vb_ite, vb_cmp, vb_chain, vb_const, vb_loc, vb_bin, vb_neg, vb_tup, vb_lst, vb_sub, vb_slice, vb_attr, vb_call, vb_bi, vb_meth, ve_dead, ve_const, ve_loc, ve_bin, ve_neg, ve_cmp, ve_band, ve_bor, ve_bnot, ve_ite, ve_tup, ve_lst, ve_dict0, ve_sdict2, ve_sub, ve_slice, ve_attr, ve_call, ve_bi, ve_sortset, ve_append, ve_pop, ve_meth, ve_comp, vs_dead, vs_assign1, vs_assignT, vs_assignA, vs_assignS, vs_expr, vs_ifS, vs_forS, vs_whileS, vs_ret0, vs_ret, setMany, setS, getS, initR, List.replicate, bindT, bindTs, unpackV, List.length_cons, List.length_nil]
          exact sub_tup (μ := μ') (v := .lst (run.map pN)) (by decide) rfl (c_enough_right P A2.h hm b1 b6 hN hk)
        · rw [List.filterMap_eq_map']
          refine newL_lst (by simp; omega) (all_true (by simp; omega) ?_)
          simp only [tv_bool, tv_int, tv_none, Bool.not_true, Bool.false_eq_true, if_false]
          exact FZ.done ⟨⟨_, rfl⟩, rfl⟩
    · obtain ⟨⟨w18, rfl⟩, rfl⟩ := hJ
      dsimp only [base, vk_nil, vk_cons, vl_nil, vl_cons, vf_nil, vf_cons, vo_none, vo_some, vt_one, vt_more, vi_seq, oo_int, oo_lst, vi_range1, vi_range2, vi_zip, vi_enum, vb_bnot, vb_band, vb_bor, vb_ite, vb_cmp, vb_chain, vb_const, vb_loc, vb_bin, vb_neg, vb_tup, vb_lst, vb_sub, vb_slice, vb_attr, vb_call, vb_bi, vb_meth, ve_dead, ve_const, ve_loc, ve_bin, ve_neg, ve_cmp, ve_band, ve_bor, ve_bnot, ve_ite, ve_tup, ve_lst, ve_dict0, ve_sdict2, ve_sub, ve_slice, ve_attr, ve_call, ve_bi, ve_sortset, ve_append, ve_pop, ve_meth, ve_comp, vs_dead, vs_assign1, vs_assignT, vs_assignA, vs_assignS, vs_expr, vs_ifS, vs_forS, vs_whileS, vs_ret0, vs_ret, setMany, setS, getS, initR, List.replicate, bindT, bindTs, unpackV, List.length_cons, List.length_nil]
      exact ret_done hq2
theorem tellS_len : (tellS m L N O).length ≤ 14 := by
  unfold tellS
  rw [List.length_map]
  exact Nat.le_trans (List.length_filter_le _ _) (by simp)
theorem DD.tl {p : Int × List Nat} : DD (tlP p) 2 := DD.tup (m := 1) (by
  intro q hq
  simp only [List.mem_cons, List.not_mem_nil, or_false] at hq
  rcases hq with rfl | rfl
  · exact DD.int
  · exact DD.run)
theorem DD.st {t : Int × Int × Nat} : DD (st3 t) 1 := DD.tup (m := 0) (by
  intro q hq
  simp only [List.mem_cons, List.not_mem_nil, or_false] at hq
  rcases hq with rfl | rfl | rfl <;> exact DD.int)
theorem DD.up {p : PV} {m k : Nat} (h : DD p m) (hk : m ≤ k) : DD p k := ⟨h.1, Nat.le_trans h.2 hk⟩
noncomputable def nw3 : MS := .ifS (.cmp .NotEq (.meth (.loc 1) 9 [.loc 2]) (.loc 8)) [.ret (some (.const (.bool false)))] []
noncomputable def nw4 : MS := .assign1 11 (.lst [])
noncomputable def nw5 : MS := .forS (.many [.one 12, .one 13, .one 14]) (.seq (.loc 7)) [.assign1 11 (.bin .Add (.loc 11) (.comp (.tup [.loc 1, .loc 2]) (.one 1) (.range2 (.loc 12) (.loc 13)) [] [none, none, some 14]))]
noncomputable def nw6 : MS := .ifS (.cmp .NotEq (.loc 11) (.comp (.tup [.loc 1, .sub (.loc 2) (.loc 1)]) (.one 1) (.seq (.loc 6)) [.cmp .NotEq (.sub (.loc 2) (.loc 1)) (.lst [])] [none, none, some 6])) [.ret (some (.const (.bool false)))] []
theorem now_all3 : nowT3 = nw3 :: nw4 :: nw5 :: nw6 :: nowT7 := rfl
section
variable {QS : FP → Rho → Mu → Prop} {ss : List MS} {w9 w10 w12 w13 w14 : Option PV}
theorem nw_c3 (P : PR Γ) (A : At μ f o d e cs kf S m L N lim O D firsts trail marks) (hm : m ≤ 20) (hD : ∀ k, k < m → D k ≠ []) (hs : s = sureL m L N (fun k => loD (D k)) (fun k => hiD (D k))) (ha : μ a = some (.list (s.map st3)))
    (h : vcSs Γ (n + 4) ss (base f o d a e S m L N F rows [w9, w10, none, none, none, none, none, none, none, none, none, none, none, none, none, none, none]) μ QS) : vcSs Γ (n + 4) (nw3 :: ss) (base f o d a e S m L N F rows [w9, w10, none, none, none, none, none, none, none, none, none, none, none, none, none, none, none]) μ QS := by
  dsimp only [nw3, base, vk_nil, vk_cons, vl_nil, vl_cons, vf_nil, vf_cons, vo_none, vo_some, vt_one, vt_more, vi_seq, oo_int, oo_lst, vi_range1, vi_range2, vi_zip, vi_enum, vb_bnot, vb_band, vb_bor, vb_ite, vb_cmp, vb_chain, vb_const, vb_loc, vb_bin, vb_neg, vb_tup, vb_lst, vb_sub, vb_slice, vb_attr, vb_call, vb_bi, vb_meth, ve_dead, ve_const, ve_loc, ve_bin, ve_neg, ve_cmp, ve_band, ve_bor, ve_bnot, ve_ite, ve_tup, ve_lst, ve_dict0, ve_sdict2, ve_sub, ve_slice, ve_attr, ve_call, ve_bi, ve_sortset, ve_append, ve_pop, ve_meth, ve_comp, vs_dead, vs_assign1, vs_assignT, vs_assignA, vs_assignS, vs_expr, vs_ifS, vs_forS, vs_whileS, vs_ret0, vs_ret, setMany, setS, getS, initR, List.replicate, bindT, bindTs, unpackV, List.length_cons, List.length_nil]
  refine meth_at A.h rfl rfl ?_
  dsimp only [vk_nil, vk_cons, vl_nil, vl_cons, vf_nil, vf_cons, vo_none, vo_some, vt_one, vt_more, vi_seq, oo_int, oo_lst, vi_range1, vi_range2, vi_zip, vi_enum, vb_bnot, vb_band, vb_bor, vb_ite, vb_cmp, vb_chain, vb_const, vb_loc, vb_bin, vb_neg, vb_tup, vb_lst, vb_sub, vb_slice, vb_attr, vb_call, vb_bi, vb_meth, ve_dead, ve_const, ve_loc, ve_bin, ve_neg, ve_cmp, ve_band, ve_bor, ve_bnot, ve_ite, ve_tup, ve_lst, ve_dict0, ve_sdict2, ve_sub, ve_slice, ve_attr, ve_call, ve_bi, ve_sortset, ve_append, ve_pop, ve_meth, ve_comp, vs_dead, vs_assign1, vs_assignT, vs_assignA, vs_assignS, vs_expr, vs_ifS, vs_forS, vs_whileS, vs_ret0, vs_ret, setMany, setS, getS, initR, List.replicate, bindT, bindTs, unpackV, List.length_cons, List.length_nil]
  refine c_sure P A.h A.hs (by omega) hD ?_
  rw [← hs]
  refine ne_same ha ((DD.lst (m := 1) (DD.map fun a _ => DD.st)).up (by decide)) ?_
  simp only [Bool.false_eq_true, if_false]
  exact h
theorem nw_c45 (ok : NowOk m L N O s rows)
    (h : ∀ w12 w13 w14, vcSs Γ (n + 4) ss (base f o d a e S m L N F rows [w9, w10, some (.lst ((tellS m L N O).map tlP)), w12, w13, w14, none, none, none, none, none, none, none, none, none, none, none]) μ QS) : vcSs Γ (n + 4) (nw4 :: nw5 :: ss) (base f o d a e S m L N F rows [w9, w10, none, none, none, none, none, none, none, none, none, none, none, none, none, none, none]) μ QS := by
  have hb : big = 100000 := rfl
  have hfew := ok.few
  dsimp only [nw4, nw5, base, vk_nil, vk_cons, vl_nil, vl_cons, vf_nil, vf_cons, vo_none, vo_some, vt_one, vt_more, vi_seq, oo_int, oo_lst, vi_range1, vi_range2, vi_zip, vi_enum, vb_bnot, vb_band, vb_bor, vb_ite, vb_cmp, vb_chain, vb_const, vb_loc, vb_bin, vb_neg, vb_tup, vb_lst, vb_sub, vb_slice, vb_attr, vb_call, vb_bi, vb_meth, ve_dead, ve_const, ve_loc, ve_bin, ve_neg, ve_cmp, ve_band, ve_bor, ve_bnot, ve_ite, ve_tup, ve_lst, ve_dict0, ve_sdict2, ve_sub, ve_slice, ve_attr, ve_call, ve_bi, ve_sortset, ve_append, ve_pop, ve_meth, ve_comp, vs_dead, vs_assign1, vs_assignT, vs_assignA, vs_assignS, vs_expr, vs_ifS, vs_forS, vs_whileS, vs_ret0, vs_ret, setMany, setS, getS, initR, List.replicate, bindT, bindTs, unpackV, List.length_cons, List.length_nil]
  refine newL_lst (by simp) ?_
  refine for_rule (by rw [List.length_map]; omega) (fun i ρ' μ' => (∃ w12 w13 w14, ρ' = base f o d a e S m L N F rows [w9, w10, some (.lst (((rows.take i).flatMap tellB).map tlP)), w12, w13, w14, none, none, none, none, none, none, none, none, none, none, none]) ∧ μ' = μ) (⟨⟨_, _, _, rfl⟩, rfl⟩) (fun i x ρ' μ' hx hJ => ?_) fun ρ' μ' hJ => ?_
  · obtain ⟨⟨w12, w13, w14, rfl⟩, rfl⟩ := hJ
    rw [nth_eq, List.getElem?_map] at hx
    cases hv : rows[i]? with
    | none => rw [hv] at hx; cases hx
    | some r =>
      rw [hv] at hx
      cases hx
      obtain ⟨b1, b2, b3, b4, b5, b6⟩ := ok.blk r (List.mem_of_getElem? hv)
      obtain ⟨b, en, run⟩ := r
      dsimp only at b1 b2 b3 b4 b5 b6
      have hi : i < rows.length := (List.getElem?_eq_some_iff.mp hv).1
      have htk : rows.take (i + 1) = rows.take i ++ [(b, en, run)] := by rw [List.take_add_one, hv]; rfl
      have hpre : ((rows.take (i + 1)).flatMap tellB).length ≤ 14 := by
        have h1 := tellS_len (m := m) (L := L) (N := N) (O := O)
        rw [← ok.told] at h1
        have h2 : rows.flatMap tellB = (rows.take (i + 1)).flatMap tellB ++ (rows.drop (i + 1)).flatMap tellB := by
          rw [← List.flatMap_append, List.take_append_drop]
        rw [h2, List.length_append] at h1
        omega
      rw [htk, List.flatMap_append, List.length_append] at hpre
      have hs1 : [(b, en, run)].flatMap tellB = tellB (b, en, run) := by simp
      rw [hs1] at hpre
      dsimp only [bl3, base, vk_nil, vk_cons, vl_nil, vl_cons, vf_nil, vf_cons, vo_none, vo_some, vt_one, vt_more, vi_seq, oo_int, oo_lst, vi_range1, vi_range2, vi_zip, vi_enum, vb_bnot, vb_band, vb_bor, vb_ite, vb_cmp, vb_chain, vb_const, vb_loc, vb_bin, vb_neg, vb_tup, vb_lst, vb_sub, vb_slice, vb_attr, vb_call, vb_bi, vb_meth, ve_dead, ve_const, ve_loc, ve_bin, ve_neg, ve_cmp, ve_band, ve_bor, ve_bnot, ve_ite, ve_tup, ve_lst, ve_dict0, ve_sdict2, ve_sub, ve_slice, ve_attr, ve_call, ve_bi, ve_sortset, ve_append, ve_pop, ve_meth, ve_comp, vs_dead, vs_assign1, vs_assignT, vs_assignA, vs_assignS, vs_expr, vs_ifS, vs_forS, vs_whileS, vs_ret0, vs_ret, setMany, setS, getS, initR, List.replicate, bindT, bindTs, unpackV, List.length_cons, List.length_nil]
      refine ⟨by trivial, by omega, by omega, ?_⟩
      rw [rangeP_map]
      have tbl : (tellB (b, en, run)).length = (en - b).toNat := by simp [tellB]
      refine comp_pure (α := Nat) (List.range (en - b).toNat) (fun k => .int (b + (k : Int))) (fun k => some (tlP (b + (k : Int), run))) rfl (by simp; omega) (fun k hk kk hkk => ?_) ?_
      · dsimp only [vk_nil, vk_cons, vl_nil, vl_cons, vf_nil, vf_cons, vo_none, vo_some, vt_one, vt_more, vi_seq, oo_int, oo_lst, vi_range1, vi_range2, vi_zip, vi_enum, vb_bnot, vb_band, vb_bor, vb_ite, vb_cmp, vb_chain, vb_const, vb_loc, vb_bin, vb_neg, vb_tup, vb_lst, vb_sub, vb_slice, vb_attr, vb_call, vb_bi, vb_meth, ve_dead, ve_const, ve_loc, ve_bin, ve_neg, ve_cmp, ve_band, ve_bor, ve_bnot, ve_ite, ve_tup, ve_lst, ve_dict0, ve_sdict2, ve_sub, ve_slice, ve_attr, ve_call, ve_bi, ve_sortset, ve_append, ve_pop, ve_meth, ve_comp, vs_dead, vs_assign1, vs_assignT, vs_assignA, vs_assignS, vs_expr, vs_ifS, vs_forS, vs_whileS, vs_ret0, vs_ret, setMany, setS, getS, initR, List.replicate, bindT, bindTs, unpackV, List.length_cons, List.length_nil]
        exact hkk
      · rw [List.filterMap_eq_map']
        refine newL_lst (by simp; omega) ?_
        simp only [bv_add, bv_sub, bv_mul, bv_mod, bv_tup, bv_lst]
        refine ⟨by simp only [List.length_map, List.length_range]; omega, FZ.done ⟨⟨some (.int b), some (.int en), some (.lst (run.map pN)), ?_⟩, rfl⟩⟩
        rw [htk, List.flatMap_append, hs1, List.map_append]
        have : (tellB (b, en, run)).map tlP = (List.range (en - b).toNat).map fun (k : Nat) => tlP (b + (k : Int), run) := by simp [tellB, Function.comp_def]
        rw [this]
  · obtain ⟨⟨w12, w13, w14, rfl⟩, rfl⟩ := hJ
    have tk : rows.take (rows.map bl3).length = rows := by simp
    rw [tk, ok.told]
    exact h _ _ _
theorem nw_c6 (A : At μ f o d e cs kf S m L N lim O D firsts trail marks)
    (h : vcSs Γ (n + 4) ss (base f o d a e S m L N F rows [w9, w10, some (.lst ((tellS m L N O).map tlP)), w12, w13, w14, none, none, none, none, none, none, none, none, none, none, none]) μ QS) : vcSs Γ (n + 4) (nw6 :: ss) (base f o d a e S m L N F rows [w9, w10, some (.lst ((tellS m L N O).map tlP)), w12, w13, w14, none, none, none, none, none, none, none, none, none, none, none]) μ QS := by
  have hb : big = 100000 := rfl
  ((try dsimp only [nw6, base, vk_nil, vk_cons, vl_nil, vl_cons, vf_nil, vf_cons, vo_none, vo_some, vt_one, vt_more, vi_seq, oo_int, oo_lst, vi_range1, vi_range2, vi_zip, vi_enum, vb_bnot, vb_band, vb_bor, vb_ite, vb_cmp, vb_chain, vb_const, vb_loc, vb_bin, vb_neg, vb_tup, vb_lst, vb_sub, vb_slice, vb_attr, vb_call, vb_bi, vb_meth, ve_dead, ve_const, ve_loc, ve_bin, ve_neg, ve_cmp, ve_band, ve_bor, ve_bnot, ve_ite, ve_tup, ve_lst, ve_dict0, ve_sdict2, ve_sub, ve_slice, ve_attr, ve_call, ve_bi, ve_sortset, ve_append, ve_pop, ve_meth, ve_comp, vs_dead, vs_assign1, vs_assignT, vs_assignA, vs_assignS, vs_expr, vs_ifS, vs_forS, vs_whileS, vs_ret0, vs_ret, setMany, setS, getS, initR, List.replicate, bindT, bindTs, unpackV, List.length_cons, List.length_nil]); simp only [nw6, base, vk_nil, vk_cons, vl_nil, vl_cons, vf_nil, vf_cons, vo_none, vo_some, vt_one, vt_more, vi_seq, oo_int, oo_lst, vi_range1, vi_range2, vi_zip, vi_enum, vb_bnot, vb_band, vb_bor, vb_ite, vb_cmp, vb_chain, vb_const, vb_loc, vb_bin, vb_neg, vb_tup, vb_lst, vb_sub, vb_slice, vb_attr, vb_call, vb_bi, vb_meth, ve_dead, ve_const, ve_loc, ve_bin, ve_neg, ve_cmp, ve_band, ve_bor, ve_bnot, ve_ite, ve_tup, ve_lst, ve_dict0, ve_sdict2, ve_sub, ve_slice, ve_attr, ve_call, ve_bi, ve_sortset, ve_append, ve_pop, ve_meth, ve_comp, vs_dead, vs_assign1, vs_assignT, vs_assignA, vs_assignS, vs_expr, vs_ifS, vs_forS, vs_whileS, vs_ret0, vs_ret, setMany, setS, getS, initR, List.replicate, bindT, bindTs, unpackV, List.length_cons, List.length_nil, A.hd, sure_keys])
  refine comp_pure (α := Nat) (List.range 14) pN (fun t => if !(runAt m L N O t).isEmpty then some (tlP ((t : Int), runAt m L N O t)) else none) rfl (by decide) (fun t ht kk hk => ?_) ?_
  · have ht' : t < 14 := by simpa using ht
    dsimp only [vk_nil, vk_cons, vl_nil, vl_cons, vf_nil, vf_cons, vo_none, vo_some, vt_one, vt_more, vi_seq, oo_int, oo_lst, vi_range1, vi_range2, vi_zip, vi_enum, vb_bnot, vb_band, vb_bor, vb_ite, vb_cmp, vb_chain, vb_const, vb_loc, vb_bin, vb_neg, vb_tup, vb_lst, vb_sub, vb_slice, vb_attr, vb_call, vb_bi, vb_meth, ve_dead, ve_const, ve_loc, ve_bin, ve_neg, ve_cmp, ve_band, ve_bor, ve_bnot, ve_ite, ve_tup, ve_lst, ve_dict0, ve_sdict2, ve_sub, ve_slice, ve_attr, ve_call, ve_bi, ve_sortset, ve_append, ve_pop, ve_meth, ve_comp, vs_dead, vs_assign1, vs_assignT, vs_assignA, vs_assignS, vs_expr, vs_ifS, vs_forS, vs_whileS, vs_ret0, vs_ret, setMany, setS, getS, initR, List.replicate, bindT, bindTs, unpackV, List.length_cons, List.length_nil]
    refine sub_imap A.hd (look_sure ht') (newL_lst (by simp) ?_)
    rw [ne_lst0]
    have e1 : ((runAt m L N O (t : Int)).map pN).isEmpty = (runAt m L N O t).isEmpty := by cases runAt m L N O (t : Int) <;> rfl
    rw [e1]
    cases c : (runAt m L N O (t : Int)).isEmpty with
    | true =>
      rw [c] at hk
      simpa using hk
    | false =>
      rw [c] at hk
      simp only [Bool.not_false, if_true]
      exact sub_imap A.hd (look_sure ht') (by simpa [tlP, pN] using hk)
  · rw [filter_map]
    have e2 : ((List.range 14).filter fun (t : Nat) => !(runAt m L N O t).isEmpty).map (fun (t : Nat) => tlP ((t : Int), runAt m L N O t)) = (tellS m L N O).map tlP := by simp [tellS]
    rw [e2]
    refine newL_lst (by rw [List.length_map]; have := tellS_len (m := m) (L := L) (N := N) (O := O); omega) (ne_sameL ((DD.lst (m := 2) (DD.map fun a _ => DD.tl)).up (by decide)) ?_)
    simp only [Bool.false_eq_true, if_false]
    exact h
end
theorem now_3 (P : PR Γ) (A : At μ f o d e cs kf S m L N lim O D firsts trail marks) (hc : cs.length ≤ 60) (hkf : kf ≤ 90000) (hm : m ≤ 20) (hO : ∀ k, k < m → (O k).length ≤ 100) (hF : ∀ k, k < m → (F k).length ≤ 100) (hN : ∀ k, k < m → 0 ≤ N k)
    (hD : ∀ k, k < m → D k ≠ []) (hs : s = sureL m L N (fun k => loD (D k)) (fun k => hiD (D k))) (ha : μ a = some (.list (s.map st3)))
    (ok : NowOk m L N O s rows) (hq : Q (.bool true) (μ.set f (feedMO cs (kf + 2)))) (w9 w10 : Option PV) :
    vcSs Γ (n + 4) nowT3 (base f o d a e S m L N F rows [w9, w10, none, none, none, none, none, none, none, none, none, none, none, none, none, none, none]) μ (RetQ Q) := by
  rw [now_all3]
  exact nw_c3 P A hm hD hs ha (nw_c45 ok fun _ _ _ => nw_c6 A (now_7 P A hc hkf hm hO hF hN ok hq _ _ _ _ _ _))
theorem stretch_bound {j : Nat} : (stretches m L N O j).length ≤ j := Nat.le_trans (List.length_filterMap_le _ _) (by simp)
theorem c_now_right (P : PR Γ) (hf : μ f = some (feedMO cs kf)) (hc : cs.length ≤ 60) (hkf : kf ≤ 90000)
    (h : CumAt μ e m L N lim) (hs : StoreAt μ S (row m fun k => dP (D k)) firsts trail marks) (ho : μ o = some (.list (row m (ownP O)))) (hm : m ≤ 20) (hD : ∀ k, k < m → D k ≠ [])
    (hO : ∀ k, k < m → (O k).length ≤ 100) (hF : ∀ k, k < m → (F k).length ≤ 100) (hN : ∀ k, k < m → 0 ≤ N k)
    (ok : NowOk m L N O (sureL m L N (fun k => loD (D k)) (fun k => hiD (D k))) (blocksL (sureL m L N (fun k => loD (D k)) (fun k => hiD (D k)))))
    (hq : ∀ μ', μ' f = some (feedMO cs (kf + 2)) → (∀ b, b ≠ f → μ b ≠ none → μ' b = μ b) → Q (.bool true) μ') :
    CallT Γ (n + 5) (.ref 466) [.ref f, cObj e, sObj S.d, .lst (row m (taskP L N)), .lst (row m (firstP F)), .ref o] μ Q := by
  have hb : big = 100000 := rfl
  refine FN.call P.gt P.f466 rfl ?_
  dsimp only [now_e0, List.cons_append, List.nil_append, vk_nil, vk_cons, vl_nil, vl_cons, vf_nil, vf_cons, vo_none, vo_some, vt_one, vt_more, vi_seq, oo_int, oo_lst, vi_range1, vi_range2, vi_zip, vi_enum, vb_bnot, vb_band, vb_bor, vb_ite, vb_cmp, vb_chain, vb_const, vb_loc, vb_bin, vb_neg, vb_tup, vb_lst, vb_sub, vb_slice, vb_attr, vb_call, vb_bi, vb_meth, ve_dead, ve_const, ve_loc, ve_bin, ve_neg, ve_cmp, ve_band, ve_bor, ve_bnot, ve_ite, ve_tup, ve_lst, ve_dict0, ve_sdict2, ve_sub, ve_slice, ve_attr, ve_call, ve_bi, ve_sortset, ve_append, ve_pop, ve_meth, ve_comp, vs_dead, vs_assign1, vs_assignT, vs_assignA, vs_assignS, vs_expr, vs_ifS, vs_forS, vs_whileS, vs_ret0, vs_ret, setMany, setS, getS, initR, List.replicate, bindT, bindTs, unpackV, List.length_cons, List.length_nil]
  refine c_law_sure P ho hm hO fun d hd => ?_
  have keep : ∀ b, μ b ≠ none → (μ.set d (.imap (sureMap m L N O 14))) b = μ b := fun b hb => Mu.set_ne fun q => hb (q ▸ hd)
  have A : At (μ.set d (.imap (sureMap m L N O 14))) f o d e cs kf S m L N lim O D firsts trail marks :=
  { hf := by rw [keep _ (by rw [hf]; simp)]; exact hf
    h := by unfold CumAt; rw [keep _ (by rw [h]; simp)]; exact h
    hs := store_set hs hd
    ho := by rw [keep _ (by rw [ho]; simp)]; exact ho
    hd := Mu.set_self }
  generalize μ.set d (.imap (sureMap m L N O 14)) = μ1 at *; revert μ1; refine id ?_; set_option tactic.hygienic false in intros
  have hq1 : ∀ μ', μ' f = some (feedMO cs (kf + 2)) → (∀ b, b ≠ f → μ1 b ≠ none → μ' b = μ1 b) → Q (.bool true) μ' := fun μ' a1 a2 => hq μ' a1 fun b b1 b2 => by
    rw [← keep b b2]
    exact a2 b b1 (by rw [keep b b2]; exact b2)
  clear hq keep hd h hs ho hf
  refine meth_at A.h rfl rfl ?_
  dsimp only [vk_nil, vk_cons, vl_nil, vl_cons, vf_nil, vf_cons, vo_none, vo_some, vt_one, vt_more, vi_seq, oo_int, oo_lst, vi_range1, vi_range2, vi_zip, vi_enum, vb_bnot, vb_band, vb_bor, vb_ite, vb_cmp, vb_chain, vb_const, vb_loc, vb_bin, vb_neg, vb_tup, vb_lst, vb_sub, vb_slice, vb_attr, vb_call, vb_bi, vb_meth, ve_dead, ve_const, ve_loc, ve_bin, ve_neg, ve_cmp, ve_band, ve_bor, ve_bnot, ve_ite, ve_tup, ve_lst, ve_dict0, ve_sdict2, ve_sub, ve_slice, ve_attr, ve_call, ve_bi, ve_sortset, ve_append, ve_pop, ve_meth, ve_comp, vs_dead, vs_assign1, vs_assignT, vs_assignA, vs_assignS, vs_expr, vs_ifS, vs_forS, vs_whileS, vs_ret0, vs_ret, setMany, setS, getS, initR, List.replicate, bindT, bindTs, unpackV, List.length_cons, List.length_nil]
  refine c_blocks P A.h A.hs hm hD ?_
  refine ⟨by trivial, ?_⟩
  refine newL_ref (by simp) fun a ha => ?_
  refine len_lst (by rw [row_len]; omega) ?_
  rw [row_len]
  refine ⟨by omega, ?_⟩
  rw [Int.toNat_natCast, rangeP_row]
  generalize hsr : blocksL (sureL m L N (fun k => loD (D k)) (fun k => hiD (D k))) = rows at *; revert rows; refine id ?_; set_option tactic.hygienic false in intros
  refine for_rule (by rw [row_len]; omega) (fun i ρ' μ' => (∃ w1 w2, ρ' = base f o d a e S m L N F rows [w1, w2, none, none, none, none, none, none, none, none, none, none, none, none, none, none, none]) ∧ μ' = μ1.set a (.list ((stretches m L N O i).map st3))) (⟨⟨_, _, rfl⟩, by simp [stretches]⟩) (fun i x ρ' μ' hx hJ => ?_) fun ρ' μ' hJ => ?_
  · obtain ⟨⟨w1, w2, rfl⟩, rfl⟩ := hJ
    rw [nth_eq] at hx
    have hi : i < m := by
      have := (List.getElem?_eq_some_iff.mp hx).1
      rwa [row_len] at this
    rw [row_at hi] at hx
    cases hx
    have A1 := A.set (x := .list ((stretches m L N O i).map st3)) ha
    have hsl := stretch_bound (m := m) (L := L) (N := N) (O := O) (j := i)
    have hst : stretches m L N O (i + 1) = stretches m L N O i ++ (match stretch (timesOf m L N O i) i with | some t => [t] | none => []) := by
      unfold stretches
      rw [List.range_succ, List.filterMap_append]
      cases q : stretch (timesOf m L N O i) i <;> simp [q]
    ((try dsimp only [base, vk_nil, vk_cons, vl_nil, vl_cons, vf_nil, vf_cons, vo_none, vo_some, vt_one, vt_more, vi_seq, oo_int, oo_lst, vi_range1, vi_range2, vi_zip, vi_enum, vb_bnot, vb_band, vb_bor, vb_ite, vb_cmp, vb_chain, vb_const, vb_loc, vb_bin, vb_neg, vb_tup, vb_lst, vb_sub, vb_slice, vb_attr, vb_call, vb_bi, vb_meth, ve_dead, ve_const, ve_loc, ve_bin, ve_neg, ve_cmp, ve_band, ve_bor, ve_bnot, ve_ite, ve_tup, ve_lst, ve_dict0, ve_sdict2, ve_sub, ve_slice, ve_attr, ve_call, ve_bi, ve_sortset, ve_append, ve_pop, ve_meth, ve_comp, vs_dead, vs_assign1, vs_assignT, vs_assignA, vs_assignS, vs_expr, vs_ifS, vs_forS, vs_whileS, vs_ret0, vs_ret, setMany, setS, getS, initR, List.replicate, bindT, bindTs, unpackV, List.length_cons, List.length_nil]); simp only [base, vk_nil, vk_cons, vl_nil, vl_cons, vf_nil, vf_cons, vo_none, vo_some, vt_one, vt_more, vi_seq, oo_int, oo_lst, vi_range1, vi_range2, vi_zip, vi_enum, vb_bnot, vb_band, vb_bor, vb_ite, vb_cmp, vb_chain, vb_const, vb_loc, vb_bin, vb_neg, vb_tup, vb_lst, vb_sub, vb_slice, vb_attr, vb_call, vb_bi, vb_meth, ve_dead, ve_const, ve_loc, ve_bin, ve_neg, ve_cmp, ve_band, ve_bor, ve_bnot, ve_ite, ve_tup, ve_lst, ve_dict0, ve_sdict2, ve_sub, ve_slice, ve_attr, ve_call, ve_bi, ve_sortset, ve_append, ve_pop, ve_meth, ve_comp, vs_dead, vs_assign1, vs_assignT, vs_assignA, vs_assignS, vs_expr, vs_ifS, vs_forS, vs_whileS, vs_ret0, vs_ret, setMany, setS, getS, initR, List.replicate, bindT, bindTs, unpackV, List.length_cons, List.length_nil, A1.hd, sure_keys])
    refine comp_pure (α := Nat) (List.range 14) pN (fun t => if has14 m L N O i t then some (pN t) else none) rfl (by decide) (fun t ht kk hk => ?_) ?_
    · have ht' : t < 14 := by simpa using ht
      dsimp only [vk_nil, vk_cons, vl_nil, vl_cons, vf_nil, vf_cons, vo_none, vo_some, vt_one, vt_more, vi_seq, oo_int, oo_lst, vi_range1, vi_range2, vi_zip, vi_enum, vb_bnot, vb_band, vb_bor, vb_ite, vb_cmp, vb_chain, vb_const, vb_loc, vb_bin, vb_neg, vb_tup, vb_lst, vb_sub, vb_slice, vb_attr, vb_call, vb_bi, vb_meth, ve_dead, ve_const, ve_loc, ve_bin, ve_neg, ve_cmp, ve_band, ve_bor, ve_bnot, ve_ite, ve_tup, ve_lst, ve_dict0, ve_sdict2, ve_sub, ve_slice, ve_attr, ve_call, ve_bi, ve_sortset, ve_append, ve_pop, ve_meth, ve_comp, vs_dead, vs_assign1, vs_assignT, vs_assignA, vs_assignS, vs_expr, vs_ifS, vs_forS, vs_whileS, vs_ret0, vs_ret, setMany, setS, getS, initR, List.replicate, bindT, bindTs, unpackV, List.length_cons, List.length_nil]
      refine sub_imap A1.hd (look_sure ht') (in_lst (DD.ok (m := 0) DD.pN (by decide)) (DD.ok (m := 1) DD.run (by decide)) ?_)
      have e1 : (((runAt m L N O (t : Int)).map pN).any fun x => pvEq x (pN i)) = has14 m L N O i t := by
        unfold has14
        rw [List.any_map]
        congr 1
        funext x
        exact pvEq_pN x i
      rw [e1]
      by_cases c : has14 m L N O i t <;> simpa [c] using hk
    · rw [filter_map]
      have e2 : ((List.range 14).filter fun t => has14 m L N O i t) = timesOf m L N O i := rfl
      rw [e2]
      have htl : (timesOf m L N O i).length ≤ 14 := Nat.le_trans (List.length_filter_le _ _) (by simp)
      refine newL_lst (by rw [List.length_map]; omega) (newL_lst (by simp) ?_)
      rw [ne_lst0]
      cases htm : timesOf m L N O i with
      | nil =>
        rw [htm] at hst
        simp only [List.map_nil, List.isEmpty_nil, Bool.not_true, Bool.false_eq_true, if_false]
        refine FZ.done ⟨⟨_, _, rfl⟩, ?_⟩
        rw [hst]
        simp [stretch]
      | cons t r =>
        rw [htm] at hst htl
        simp only [List.map_cons, List.isEmpty_cons, Bool.not_false, if_true]
        refine ⟨listRef_at Mu.set_self, sub_lst (v := pN t) (by decide) rfl ?_⟩
        have hlast : itemAt (pN t :: r.map pN) (-1) = some (pN (r.getLastD t)) := by
          rcases snoc_cases r with rfl | ⟨q, y, rfl⟩
          · rfl
          · have : pN t :: (q ++ [y]).map pN = (pN t :: q.map pN) ++ [pN y] := by simp
            rw [this]
            have e3 : (q ++ [y]).getLastD t = y := by simp
            rw [e3]
            exact itemAt_last
        refine sub_lst (v := pN (r.getLastD t)) (by decide) hlast ?_
        simp only [pN, bv_add, bv_sub, bv_mul, bv_mod, bv_tup, bv_lst]
        refine append_at Mu.set_self (by rw [List.length_map]; omega) (FZ.done ⟨⟨_, _, rfl⟩, ?_⟩)
        rw [Mu.set_set, hst]
        simp [stretch, st3]
  · obtain ⟨⟨w1, w2, rfl⟩, rfl⟩ := hJ
    rw [row_len, ok.st]
    have A1 := A.set (x := .list ((sureL m L N (fun k => loD (D k)) (fun k => hiD (D k))).map st3)) ha
    refine now_3 P A1 hc hkf hm hO hF hN hD rfl Mu.set_self ok ?_ _ _
    refine hq1 _ Mu.set_self fun b b1 b2 => ?_
    rw [Mu.set_ne b1, Mu.set_ne (fun q : b = a => b2 (by rw [q]; exact ha))]
end
end
end Mine

open PySem PySem.Calls PyProof.Rows PySem.W
set_option maxRecDepth 100000
set_option linter.unusedVariables false
set_option linter.unusedSimpArgs false
set_option backward.match.sparseCases false
namespace Mine

noncomputable def rng (p : Int × Int) : List Int := (List.range (p.2 - p.1 + 1).toNat).map fun (k : Nat) => p.1 + (k : Int)
theorem mem_rng {p : Int × Int} {x : Int} : x ∈ rng p ↔ p.1 ≤ x ∧ x ≤ p.2 := by
  unfold rng
  simp only [List.mem_map, List.mem_range]
  constructor
  · rintro ⟨k, hk, rfl⟩
    omega
  · rintro ⟨h1, h2⟩
    exact ⟨(x - p.1).toNat, by omega, by omega⟩
structure Repr (d : Dom) (l : List Int) : Prop where
  good : ∀ p ∈ d, p.1 ≤ p.2
  all : d.flatMap rng = l
theorem rng_sorted (p : Int × Int) : (rng p).Pairwise (· < ·) := by
  unfold rng
  rw [List.pairwise_map]
  exact List.pairwise_lt_range.imp (by intro a b h; omega)
theorem sorted_ext : ∀ {l r : List Int}, l.Pairwise (· < ·) → r.Pairwise (· < ·) → (∀ x, x ∈ l ↔ x ∈ r) → l = r
  | [], [], _, _, _ => rfl
  | [], b :: r, _, _, h => absurd ((h b).mpr List.mem_cons_self) (by simp)
  | a :: l, [], _, _, h => absurd ((h a).mp List.mem_cons_self) (by simp)
  | a :: l, b :: r, hl, hr, h => by
    rw [List.pairwise_cons] at hl hr
    have hab : a = b := by
      rcases List.mem_cons.mp ((h a).mp List.mem_cons_self) with q | q
      · exact q
      · have h1 := hr.1 a q
        rcases List.mem_cons.mp ((h b).mpr List.mem_cons_self) with q2 | q2
        · omega
        · have := hl.1 b q2; omega
    subst hab
    congr 1
    refine sorted_ext hl.2 hr.2 fun x => ?_
    constructor
    · intro hx
      rcases List.mem_cons.mp ((h x).mp (List.mem_cons_of_mem _ hx)) with q | q
      · have := hl.1 x hx; omega
      · exact q
    · intro hx
      rcases List.mem_cons.mp ((h x).mpr (List.mem_cons_of_mem _ hx)) with q | q
      · have := hr.1 x hx; omega
      · exact q
theorem rng_le {p : Int × Int} {k : Int} : (rng p).filter (fun x => decide (x ≤ k)) = if p.1 ≤ k then rng (p.1, if k < p.2 then k else p.2) else [] := by
  by_cases c : p.1 ≤ k
  · rw [if_pos c]
    refine sorted_ext ((rng_sorted p).filter _) (rng_sorted _) fun x => ?_
    rw [List.mem_filter, mem_rng, mem_rng]
    simp only [decide_eq_true_eq]
    split <;> omega
  · rw [if_neg c, List.filter_eq_nil_iff]
    intro x hx
    have := (mem_rng.mp hx).1
    simp; omega
theorem rng_ge {p : Int × Int} {k : Int} : (rng p).filter (fun x => decide (k ≤ x)) = if k ≤ p.2 then rng (if p.1 < k then k else p.1, p.2) else [] := by
  by_cases c : k ≤ p.2
  · rw [if_pos c]
    refine sorted_ext ((rng_sorted p).filter _) (rng_sorted _) fun x => ?_
    rw [List.mem_filter, mem_rng, mem_rng]
    simp only [decide_eq_true_eq]
    split <;> omega
  · rw [if_neg c, List.filter_eq_nil_iff]
    intro x hx
    have := (mem_rng.mp hx).2
    simp; omega
theorem flatMap_filterMap {α β : Type} (g : α → Option α) (f : α → List β) (c : β → Bool) (h : ∀ a, (f a).filter c = match g a with | some b => f b | none => []) : ∀ d : List α, (d.filterMap g).flatMap f = (d.flatMap f).filter c
  | [] => rfl
  | a :: r => by
    rw [List.flatMap_cons, List.filter_append, h a, ← flatMap_filterMap g f c h r]
    cases q : g a with
    | none => simp [q]
    | some b => simp [q]
theorem Repr.upto {d : Dom} {l : List Int} (h : Repr d l) (k : Int) : Repr (uptoD d k) (l.filter fun x => decide (x ≤ k)) := by
  refine ⟨fun p hp => ?_, ?_⟩
  · obtain ⟨q, hq, e⟩ := List.mem_filterMap.mp hp
    have := h.good q hq
    split at e
    · cases e
      dsimp only
      split <;> omega
    · cases e
  · rw [← h.all]
    refine flatMap_filterMap _ _ _ (fun a => ?_) d
    rw [rng_le]
    split <;> rfl
theorem Repr.from' {d : Dom} {l : List Int} (h : Repr d l) (k : Int) : Repr (fromD d k) (l.filter fun x => decide (k ≤ x)) := by
  refine ⟨fun p hp => ?_, ?_⟩
  · obtain ⟨q, hq, e⟩ := List.mem_filterMap.mp hp
    have := h.good q hq
    split at e
    · cases e
      dsimp only
      split <;> omega
    · cases e
  · rw [← h.all]
    refine flatMap_filterMap _ _ _ (fun a => ?_) d
    rw [rng_ge]
    split <;> rfl
theorem sorted_without {l : List Int} (h : l.Pairwise (· < ·)) (v : Int) : (l.filter fun x => decide (x ≤ v - 1)) ++ (l.filter fun x => decide (v + 1 ≤ x)) = l.filter fun x => !(x == v) := by
  refine sorted_ext ?_ (h.filter _) fun x => ?_
  · refine List.pairwise_append.mpr ⟨h.filter _, h.filter _, fun a ha b hb => ?_⟩
    have h1 := (List.mem_filter.mp ha).2
    have h2 := (List.mem_filter.mp hb).2
    simp only [decide_eq_true_eq] at h1 h2
    omega
  · simp only [List.mem_append, List.mem_filter, decide_eq_true_eq, Bool.not_eq_true', beq_eq_false_iff_ne]
    constructor
    · rintro (⟨a, b⟩ | ⟨a, b⟩)
      · exact ⟨a, by omega⟩
      · exact ⟨a, by omega⟩
    · rintro ⟨a, b⟩
      rcases Int.lt_or_gt_of_ne b with q | q
      · exact .inl ⟨a, by omega⟩
      · exact .inr ⟨a, by omega⟩
theorem Repr.without {d : Dom} {l : List Int} (h : Repr d l) (hs : l.Pairwise (· < ·)) (v : Int) : Repr (withoutD d v) (l.filter fun x => !(x == v)) := by
  have h1 := h.upto (v - 1)
  have h2 := h.from' (v + 1)
  refine ⟨fun p hp => ?_, ?_⟩
  · rcases List.mem_append.mp hp with q | q
    · exact h1.good p q
    · exact h2.good p q
  · unfold withoutD
    rw [List.flatMap_append, h1.all, h2.all, sorted_without hs]
theorem Repr.struck {d : Dom} {l : List Int} {sg : Str} (hsg : sg = "<=" ∨ sg = ">=" ∨ sg = "!=") (h : Repr d l) (hs : l.Pairwise (· < ·)) (v : Int) : Repr (struckD sg v d) (l.filter fun x => !barsL sg v x) := by
  rcases hsg with rfl | rfl | rfl
  · have := h.upto v
    rw [struckD, if_pos rfl]
    have e : (fun x => !barsL "<=" v x) = fun x => decide (x ≤ v) := by
      funext x
      rw [bars_le]
      by_cases c : v < x
      · have : ¬ x ≤ v := by omega
        simp [c, this]
      · have : x ≤ v := by omega
        simp [c, this]
    rw [e]; exact this
  · have := h.from' v
    rw [struckD, if_neg (by decide), if_pos rfl]
    have e : (fun x => !barsL ">=" v x) = fun x => decide (v ≤ x) := by
      funext x
      rw [bars_ge]
      by_cases c : x < v
      · have : ¬ v ≤ x := by omega
        simp [c, this]
      · have : v ≤ x := by omega
        simp [c, this]
    rw [e]; exact this
  · have := h.without hs v
    rw [struckD, if_neg (by decide), if_neg (by decide)]
    have e : (fun x => !barsL "!=" v x) = fun x => !(x == v) := by
      funext x
      rw [barsL, if_neg (by decide), if_neg (by decide)]
    rw [e]; exact this
theorem rng_ne {p : Int × Int} (h : p.1 ≤ p.2) : rng p ≠ [] := fun q => by
  have := mem_rng.mpr ⟨Int.le_refl p.1, h⟩
  rw [q] at this
  cases this
theorem Repr.ne {d : Dom} {l : List Int} (h : Repr d l) (hl : l ≠ []) : d ≠ [] := fun q => hl (by rw [← h.all, q]; rfl)
theorem Repr.len {d : Dom} {l : List Int} (h : Repr d l) : d.length ≤ l.length := by
  rw [← h.all]
  have g : ∀ d : Dom, (∀ p ∈ d, p.1 ≤ p.2) → d.length ≤ (d.flatMap rng).length := by
    intro d
    induction d with
    | nil => intro _; simp
    | cons p r ih =>
      intro hg
      have h1 := ih fun q hq => hg q (List.mem_cons_of_mem _ hq)
      have h2 : 1 ≤ (rng p).length := by
        have := List.length_pos_iff.mpr (rng_ne (hg p List.mem_cons_self))
        omega
      rw [List.flatMap_cons, List.length_append, List.length_cons]
      omega
  exact g d h.good
theorem Repr.lo {d : Dom} {l : List Int} (h : Repr d l) (hs : l.Pairwise (· < ·)) (hl : l ≠ []) : loD d ∈ l ∧ ∀ x ∈ l, loD d ≤ x := by
  cases d with
  | nil => exact absurd h.all.symm hl
  | cons p r =>
    obtain ⟨a, b⟩ := p
    have hab := h.good (a, b) List.mem_cons_self
    have hmem : a ∈ rng (a, b) := mem_rng.mpr ⟨Int.le_refl _, hab⟩
    rw [← h.all, List.flatMap_cons] at hs ⊢
    refine ⟨List.mem_append_left _ hmem, fun x hx => ?_⟩
    show a ≤ x
    rcases List.mem_append.mp hx with q | q
    · exact (mem_rng.mp q).1
    · exact Int.le_of_lt ((List.pairwise_append.mp hs).2.2 a hmem x q)
theorem Repr.hi {d : Dom} {l : List Int} (h : Repr d l) (hs : l.Pairwise (· < ·)) (hl : l ≠ []) : hiD d ∈ l ∧ ∀ x ∈ l, x ≤ hiD d := by
  rcases snoc_cases d with rfl | ⟨r, ⟨a, b⟩, rfl⟩
  · exact absurd h.all.symm hl
  · have hab := h.good (a, b) (by simp)
    have hmem : b ∈ rng (a, b) := mem_rng.mpr ⟨hab, Int.le_refl _⟩
    have e : hiD (r ++ [(a, b)]) = b := by simp [hiD]
    rw [e]
    rw [← h.all, List.flatMap_append] at hs ⊢
    have e2 : [(a, b)].flatMap rng = rng (a, b) := by simp
    rw [e2] at hs ⊢
    refine ⟨List.mem_append_right _ hmem, fun x hx => ?_⟩
    rcases List.mem_append.mp hx with q | q
    · exact Int.le_of_lt ((List.pairwise_append.mp hs).2.2 x q b hmem)
    · exact (mem_rng.mp q).2
theorem sortI_id : ∀ {l : List Int}, l.Pairwise (· < ·) → sortI l = l
  | [], _ => rfl
  | a :: r, h => by
    rw [List.pairwise_cons] at h
    rw [sortI, sortI_id h.2]
    cases r with
    | nil => rfl
    | cons b t =>
      have := h.1 b List.mem_cons_self
      rw [insI]
      rw [if_pos (by omega)]
theorem Repr.put {d : Dom} {l : List Int} {v : Int} (h : Repr d l) (hs : (l ++ [v]).Pairwise (· < ·)) : Repr (putB d v v) (l ++ [v]) := by
  rcases snoc_cases d with rfl | ⟨r, ⟨a, b⟩, rfl⟩
  · have : l = [] := h.all.symm
    subst this
    rw [putB_nil]
    exact ⟨fun p hp => by rw [List.mem_singleton.mp hp]; exact Int.le_refl v, by simp [rng]⟩
  · have hab := h.good (a, b) (by simp)
    dsimp only at hab
    have hmem : b ∈ rng (a, b) := mem_rng.mpr ⟨hab, Int.le_refl _⟩
    have hall := h.all
    rw [List.flatMap_append] at hall
    have e2 : [(a, b)].flatMap rng = rng (a, b) := by simp
    rw [e2] at hall
    have hbv : b < v := (List.pairwise_append.mp hs).2.2 b (by rw [← hall]; exact List.mem_append_right _ hmem) v (by simp)
    rw [putB_snoc]
    by_cases c : v ≤ b + 1
    · rw [if_pos c, if_pos hbv]
      refine ⟨fun p hp => ?_, ?_⟩
      · rcases List.mem_append.mp hp with q | q
        · exact h.good p (List.mem_append_left _ q)
        · rw [List.mem_singleton.mp q]; dsimp only; omega
      · rw [List.flatMap_append, ← hall, List.append_assoc]
        congr 1
        have e3 : [(a, v)].flatMap rng = rng (a, v) := by simp
        rw [e3]
        have hv : v = b + 1 := by omega
        subst hv
        unfold rng
        dsimp only
        have : (b + 1 - a + 1).toNat = (b - a + 1).toNat + 1 := by omega
        rw [this, List.range_succ, List.map_append]
        congr 1
        simp only [List.map_cons, List.map_nil, List.cons.injEq, and_true]
        omega
    · rw [if_neg c]
      refine ⟨fun p hp => ?_, ?_⟩
      · rcases List.mem_append.mp hp with q | q
        · exact h.good p q
        · rw [List.mem_singleton.mp q]; exact Int.le_refl v
      · rw [List.flatMap_append, h.all]
        congr 1
        simp [rng]
theorem Repr.foldl : ∀ (ns : List Int) (d : Dom) (l : List Int), Repr d l → (l ++ ns).Pairwise (· < ·) → Repr (ns.foldl (fun d v => putB d v v) d) (l ++ ns)
  | [], d, l, h, _ => by simpa using h
  | v :: r, d, l, h, hs => by
    have e : l ++ v :: r = (l ++ [v]) ++ r := by simp
    rw [e] at hs ⊢
    exact Repr.foldl r _ _ (h.put (List.pairwise_append.mp hs).1) hs
theorem Repr.vals {ns : List Int} (hs : ns.Pairwise (· < ·)) : Repr (fromVals ns) ns := by
  unfold fromVals
  rw [sortI_id hs]
  have := Repr.foldl ns [] [] ⟨by simp, rfl⟩ (by simpa using hs)
  simpa using this
end Mine

open PySem PySem.Calls PyProof.Rows PySem.W
set_option maxRecDepth 100000
set_option linter.unusedVariables false
set_option linter.unusedSimpArgs false
set_option backward.match.sparseCases false
namespace Mine

theorem pairs_cons (a b : Int) (r : List Int) : (a :: b :: r).zip ((a :: b :: r).drop 1) = (a, b) :: (b :: r).zip ((b :: r).drop 1) := rfl
theorem pairs_ok : ∀ {E : List Int}, E.Pairwise (· < ·) → ∀ {p}, p ∈ E.zip (E.drop 1) → p.1 ∈ E ∧ p.2 ∈ E ∧ p.1 < p.2 ∧ ∀ z ∈ E, z ≤ p.1 ∨ p.2 ≤ z
  | [], _, p, h => by simp at h
  | [a], _, p, h => by simp at h
  | a :: b :: r, hs, p, h => by
    rw [pairs_cons] at h
    rw [List.pairwise_cons] at hs
    rcases List.mem_cons.mp h with rfl | h
    · refine ⟨List.mem_cons_self, by simp, hs.1 b List.mem_cons_self, fun z hz => ?_⟩
      dsimp only
      rcases List.mem_cons.mp hz with rfl | hz
      · exact .inl (Int.le_refl _)
      · rcases List.mem_cons.mp hz with rfl | hz
        · exact .inr (Int.le_refl _)
        · exact .inr (Int.le_of_lt ((List.pairwise_cons.mp hs.2).1 z hz))
    · obtain ⟨h1, h2, h3, h4⟩ := pairs_ok hs.2 h
      refine ⟨List.mem_cons_of_mem _ h1, List.mem_cons_of_mem _ h2, h3, fun z hz => ?_⟩
      rcases List.mem_cons.mp hz with rfl | hz
      · exact .inl (Int.le_of_lt (hs.1 _ h1))
      · exact h4 z hz
noncomputable def rh (a b : Int) : List Int := (List.range (b - a).toNat).map fun (k : Nat) => a + (k : Int)
theorem mem_rh {a b x : Int} : x ∈ rh a b ↔ a ≤ x ∧ x < b := by
  unfold rh
  simp only [List.mem_map, List.mem_range]
  constructor
  · rintro ⟨k, hk, rfl⟩
    omega
  · rintro ⟨h1, h2⟩
    exact ⟨(x - a).toNat, by omega, by omega⟩
theorem rh_sorted (a b : Int) : (rh a b).Pairwise (· < ·) := by
  unfold rh
  rw [List.pairwise_map]
  exact List.pairwise_lt_range.imp (by intro a b h; omega)
theorem rh_split {a b c : Int} (h1 : a ≤ b) (h2 : b ≤ c) : rh a c = rh a b ++ rh b c := by
  refine sorted_ext (rh_sorted _ _) (List.pairwise_append.mpr ⟨rh_sorted _ _, rh_sorted _ _, fun x hx y hy => ?_⟩) fun x => ?_
  · have := mem_rh.mp hx; have := mem_rh.mp hy; omega
  · rw [List.mem_append, mem_rh, mem_rh, mem_rh]; omega
abbrev Sr := List (Int × Int × Nat)
noncomputable def run1 (s : Sr) (t : Int) : List Nat := s.filterMap fun p => if decide (p.1 ≤ t) && decide (t < p.2.1) then some p.2.2 else none
theorem fm_congr {α β : Type} {f g : α → Option β} : ∀ {l : List α}, (∀ a ∈ l, f a = g a) → l.filterMap f = l.filterMap g
  | [], _ => rfl
  | a :: r, h => by
    rw [List.filterMap_cons, List.filterMap_cons, h a List.mem_cons_self, fm_congr fun b hb => h b (List.mem_cons_of_mem _ hb)]
theorem run_pair {s : Sr} {E : List Int} {x y t : Int} (hb : ∀ p ∈ s, p.1 ∈ E) (he : ∀ p ∈ s, p.2.1 ∈ E) (h : ∀ z ∈ E, z ≤ x ∨ y ≤ z) (h1 : x ≤ t) (h2 : t < y) : run1 s t = runL s x y := by
  unfold run1 runL
  apply fm_congr
  intro p hp
  have a1 := h _ (hb p hp)
  have a2 := h _ (he p hp)
  have e1 : decide (p.1 ≤ t) = decide (p.1 ≤ x) := by
    apply decide_eq_decide.mpr; omega
  have e2 : decide (t < p.2.1) = decide (y ≤ p.2.1) := by
    apply decide_eq_decide.mpr; omega
  rw [e1, e2]
noncomputable def blk (s : Sr) (p : Int × Int) : Option (Int × Int × List Nat) := if 0 < (runL s p.1 p.2).length then some (p.1, p.2, runL s p.1 p.2) else none
noncomputable def tellR (s : Sr) (l : List Int) : List (Int × List Nat) := (l.filter fun t => !(run1 s t).isEmpty).map fun t => (t, run1 s t)
theorem tellR_append (s : Sr) (l r : List Int) : tellR s (l ++ r) = tellR s l ++ tellR s r := by simp [tellR]
theorem tell_pair {s : Sr} {x y : Int} (h : ∀ t, x ≤ t → t < y → run1 s t = runL s x y) : ((match blk s (x, y) with | some b => [b] | none => []).flatMap tellB) = tellR s (rh x y) := by
  unfold blk
  by_cases c : 0 < (runL s x y).length
  · rw [if_pos c]
    have hne : (runL s x y).isEmpty = false := by
      cases q : runL s x y with
      | nil => rw [q] at c; simp at c
      | cons a r => rfl
    have e : (rh x y).filter (fun t => !(run1 s t).isEmpty) = rh x y := by
      rw [List.filter_eq_self]
      intro t ht
      obtain ⟨h1, h2⟩ := mem_rh.mp ht
      rw [h t h1 h2, hne]; rfl
    unfold tellR
    rw [e]
    simp only [List.flatMap_cons, List.flatMap_nil, List.append_nil, tellB, rh, List.map_map]
    apply List.map_congr_left
    intro k hk
    have hk' := List.mem_range.mp hk
    simp only [Function.comp_apply]
    rw [h (x + k) (by omega) (by omega)]
  · rw [if_neg c]
    have hn : runL s x y = [] := by
      cases q : runL s x y with
      | nil => rfl
      | cons a r => rw [q] at c; simp at c
    have e : (rh x y).filter (fun t => !(run1 s t).isEmpty) = [] := by
      rw [List.filter_eq_nil_iff]
      intro t ht
      obtain ⟨h1, h2⟩ := mem_rh.mp ht
      rw [h t h1 h2, hn]; simp
    unfold tellR
    rw [e]
    rfl
theorem tell_all {s : Sr} : ∀ (E : List Int) (a : Int), (a :: E).Pairwise (· < ·) → (∀ p ∈ (a :: E).zip ((a :: E).drop 1), ∀ t, p.1 ≤ t → t < p.2 → run1 s t = runL s p.1 p.2) →
    (((a :: E).zip ((a :: E).drop 1)).filterMap (blk s)).flatMap tellB = tellR s (rh a (E.getLastD a))
  | [], a, _, _ => by simp [tellR, rh]
  | b :: r, a, hs, h => by
    rw [pairs_cons] at h ⊢
    have hs' := List.pairwise_cons.mp hs
    have ih := tell_all r b hs'.2 fun p hp => h p (List.mem_cons_of_mem _ hp)
    have h0 := tell_pair (h (a, b) List.mem_cons_self)
    have hl : b ≤ r.getLastD b := by
      cases r with
      | nil => exact Int.le_refl _
      | cons c t =>
        have : (c :: t).getLastD b ∈ c :: t := by
          rw [List.getLastD_cons]
          rcases snoc_cases t with rfl | ⟨q, y, rfl⟩
          · simp
          · simp
        exact Int.le_of_lt ((List.pairwise_cons.mp hs'.2).1 _ this)
    have hg : (b :: r).getLastD a = r.getLastD b := by rw [List.getLastD_cons]
    rw [hg, rh_split (Int.le_of_lt (hs'.1 b List.mem_cons_self)) hl, tellR_append, ← h0, ← ih, List.filterMap_cons]
    cases q : blk s (a, b) with
    | none => simp
    | some v => simp
theorem dedup_mem : ∀ {l : List Int} {x : Int}, x ∈ dedupI l ↔ x ∈ l
  | [], x => by simp [dedupI]
  | a :: r, x => by
    simp only [dedupI]
    split
    · rename_i h
      have ha : a ∈ r := dedup_mem.mp (by simpa using h)
      rw [dedup_mem, List.mem_cons]
      constructor
      · exact .inr
      · rintro (rfl | q)
        · exact ha
        · exact q
    · rw [List.mem_cons, List.mem_cons, dedup_mem]
theorem dedup_nodup : ∀ l : List Int, (dedupI l).Nodup
  | [] => .nil
  | a :: r => by
    simp only [dedupI]
    split
    · exact dedup_nodup r
    · rename_i h
      exact List.nodup_cons.mpr ⟨by simpa using h, dedup_nodup r⟩
theorem ends_sorted (s : Sr) : (endsL s).Pairwise (· < ·) := by
  unfold endsL
  have h1 := sortI_sorted (dedupI (s.map (·.1) ++ s.map (·.2.1)))
  have h2 : (sortI (dedupI (s.map (·.1) ++ s.map (·.2.1)))).Nodup := (sortI_perm _).nodup_iff.mpr (dedup_nodup _)
  exact (List.pairwise_iff_forall_sublist.mpr fun {a b} hab => by
    have q1 := List.pairwise_iff_forall_sublist.mp h1 hab
    have q2 := List.pairwise_iff_forall_sublist.mp h2 hab
    omega)
theorem ends_mem {s : Sr} {x : Int} : x ∈ endsL s ↔ (∃ p ∈ s, p.1 = x) ∨ ∃ p ∈ s, p.2.1 = x := by
  unfold endsL
  rw [(sortI_perm _).mem_iff, dedup_mem, List.mem_append, List.mem_map, List.mem_map]
end Mine

open PySem PySem.Calls PyProof.Rows PySem.W
set_option maxRecDepth 100000
set_option linter.unusedVariables false
set_option linter.unusedSimpArgs false
set_option backward.match.sparseCases false
namespace Mine

structure PL (m : Nat) (L N : Nat → Int) (O : Nat → List Int) (lo hi : Nat → Int) : Prop where
  few : m ≤ 4
  lo1 : ∀ k, k < m → lo k ∈ O k ∧ ∀ x ∈ O k, lo k ≤ x
  hi1 : ∀ k, k < m → hi k ∈ O k ∧ ∀ x ∈ O k, x ≤ hi k
  rg : ∀ k, k < m → ∀ x ∈ O k, 0 ≤ x ∧ x ≤ 6
  ln : ∀ k, k < m → 0 ≤ L k ∧ L k ≤ 5
section
variable {m : Nat} {L N : Nat → Int} {O : Nat → List Int} {lo hi : Nat → Int}
theorem PL.order (p : PL m L N O lo hi) {k : Nat} (h : k < m) : 0 ≤ lo k ∧ lo k ≤ hi k ∧ hi k ≤ 6 := by
  have a := p.lo1 k h
  have b := p.hi1 k h
  have c := p.rg k h _ a.1
  have d := p.rg k h _ b.1
  have e := a.2 _ b.1
  omega
theorem PL.surely (p : PL m L N O lo hi) {k : Nat} (h : k < m) (t : Int) : surely L N O t k = (decide (0 < N k) && (decide (hi k ≤ t) && decide (t < lo k + L k))) := by
  unfold Mine.surely
  congr 1
  have a := p.lo1 k h
  have b := p.hi1 k h
  rw [Bool.eq_iff_iff, List.isEmpty_iff, List.filter_eq_nil_iff]
  simp only [Bool.and_eq_true, decide_eq_true_eq, Bool.not_eq_true', Bool.not_eq_false]
  constructor
  · intro h
    have h1 := h _ a.1
    have h2 := h _ b.1
    omega
  · rintro ⟨h1, h2⟩ x hx
    have := a.2 x hx
    have := b.2 x hx
    omega
noncomputable def sOne (L N lo hi : Nat → Int) (k : Nat) : Option (Int × Int × Nat) := if decide (0 < N k) && decide (hi k < lo k + L k) then some (hi k, lo k + L k, k) else none
theorem PL.sure (p : PL m L N O lo hi) : sureL m L N lo hi = (List.range m).filterMap (sOne L N lo hi) := by
  unfold sureL tasksL
  rw [List.filterMap_filter]
  apply fm_congr
  intro k hk
  have hk' : k < m := by simpa using hk
  have o := p.order hk'
  unfold sOne
  by_cases c1 : 0 < N k
  · by_cases c2 : hi k < lo k + L k
    · have c3 : 0 < L k := by omega
      simp [c1, c2, c3]
    · simp [c1, c2]
  · simp [c1]
theorem PL.sure_mem (p : PL m L N O lo hi) {q : Int × Int × Nat} (h : q ∈ sureL m L N lo hi) : q.2.2 < m ∧ 0 < N q.2.2 ∧ q.1 = hi q.2.2 ∧ q.2.1 = lo q.2.2 + L q.2.2 ∧ q.1 < q.2.1 := by
  rw [p.sure] at h
  obtain ⟨k, hk, e⟩ := List.mem_filterMap.mp h
  unfold sOne at e
  split at e
  · rename_i c
    cases e
    simp only [Bool.and_eq_true, decide_eq_true_eq] at c
    exact ⟨by simpa using hk, c.1, rfl, rfl, c.2⟩
  · cases e
theorem PL.run (p : PL m L N O lo hi) (t : Int) : runAt m L N O t = run1 (sureL m L N lo hi) t := by
  unfold runAt run1
  rw [p.sure, List.filterMap_filterMap, ← List.filterMap_eq_filter]
  apply fm_congr
  intro k hk
  have hk' : k < m := by simpa using hk
  have o := p.order hk'
  rw [Option.guard_def]
  dsimp only
  rw [p.surely hk']
  unfold sOne
  by_cases c1 : 0 < N k
  · by_cases c2 : hi k < lo k + L k
    · simp [c1, c2]
    · have c3 : ¬ (hi k ≤ t ∧ t < lo k + L k) := by omega
      simp [c1, c2, c3]
  · simp [c1]
theorem nat_last {c : Nat → Bool} {A B n : Nat} (hAB : A < B) (hB : B ≤ n) (hc : ∀ i, i < n → (c i = true ↔ A ≤ i ∧ i < B)) : ∃ r, (List.range n).filter c = A :: r ∧ r.getLastD A = B - 1 := by
  obtain ⟨r, hr⟩ := filter_first (c := c) (n := n) (j := A) (by omega) ((hc A (by omega)).mpr ⟨Nat.le_refl _, hAB⟩) (fun i hi => by
    have := hc i (by omega)
    cases q : c i with
    | false => rfl
    | true => have := this.mp q; omega)
  refine ⟨r, hr, ?_⟩
  obtain ⟨b, rfl⟩ : ∃ b, n = B + b := ⟨n - B, by omega⟩
  obtain ⟨B', rfl⟩ : ∃ B', B = B' + 1 := ⟨B - 1, by omega⟩
  have e : (List.range (B' + 1 + b)).filter c = (List.range B').filter c ++ [B'] := by
    rw [List.range_add, List.filter_append, List.range_succ, List.filter_append]
    have e1 : ((List.range b).map fun x => B' + 1 + x).filter c = [] := by
      rw [List.filter_eq_nil_iff]
      intro x hx
      obtain ⟨y, hy, rfl⟩ := List.mem_map.mp hx
      have hy' : y < b := by simpa using hy
      have := hc (B' + 1 + y) (by omega)
      intro q
      have := this.mp q
      omega
    have e2 : [B'].filter c = [B'] := by
      rw [List.filter_eq_self]
      intro x hx
      rw [List.mem_singleton.mp hx]
      exact (hc B' (by omega)).mpr (by omega)
    rw [e1, e2, List.append_nil]
  have hl : ((List.range (B' + 1 + b)).filter c).getLast? = some B' := by rw [e]; simp
  rw [hr, List.getLast?_cons] at hl
  simpa using hl
theorem PL.stretch (p : PL m L N O lo hi) {k : Nat} (h : k < m) : Mine.stretch (timesOf m L N O k) k = sOne L N lo hi k := by
  have o := p.order h
  have l := p.ln k h
  have hc : ∀ t, has14 m L N O k t = true ↔ 0 < N k ∧ hi k ≤ (t : Int) ∧ (t : Int) < lo k + L k := by
    intro t
    unfold has14 runAt
    rw [List.any_eq_true]
    simp only [decide_eq_true_eq, exists_eq_right, List.mem_filter, List.mem_range, p.surely h, Bool.and_eq_true]
    constructor
    · exact fun q => ⟨q.2.1, q.2.2⟩
    · exact fun q => ⟨h, q.1, q.2⟩
  unfold timesOf sOne
  by_cases c : 0 < N k ∧ hi k < lo k + L k
  · obtain ⟨r, hr, hl⟩ := nat_last (c := has14 m L N O k) (A := (hi k).toNat) (B := (lo k + L k).toNat) (n := 14) (by omega) (by omega) (fun i hi => by rw [hc]; omega)
    rw [hr]
    simp only [Mine.stretch, hl]
    rw [if_pos (by simp [c])]
    congr 2
    · omega
    · congr 1
      omega
  · have hn : (List.range 14).filter (has14 m L N O k) = [] := by
      rw [List.filter_eq_nil_iff]
      intro t ht
      rw [hc]
      omega
    rw [hn]
    have : (decide (0 < N k) && decide (hi k < lo k + L k)) = false := by
      rw [Bool.eq_false_iff]
      intro q
      simp only [Bool.and_eq_true, decide_eq_true_eq] at q
      exact c q
    rw [this]
    rfl
theorem getLastD_mem {E : List Int} {a : Int} : E.getLastD a ∈ a :: E := by
  rcases snoc_cases E with rfl | ⟨q, y, rfl⟩
  · simp
  · simp
theorem last_ge : ∀ {E : List Int} {a : Int}, (a :: E).Pairwise (· < ·) → ∀ x ∈ a :: E, x ≤ E.getLastD a
  | [], a, _, x, hx => by rw [List.mem_singleton.mp hx]; exact Int.le_refl _
  | b :: r, a, h, x, hx => by
    rw [List.pairwise_cons] at h
    have hg : (b :: r).getLastD a = r.getLastD b := by rw [List.getLastD_cons]
    rw [hg]
    rcases List.mem_cons.mp hx with rfl | hx
    · have := last_ge h.2 b List.mem_cons_self
      have := h.1 b List.mem_cons_self
      omega
    · exact last_ge h.2 x hx
theorem rh14 : rh 0 14 = (List.range 14).map fun (t : Nat) => (t : Int) := by
  unfold rh
  simp
theorem tellS_eq (p : PL m L N O lo hi) : tellS m L N O = tellR (sureL m L N lo hi) (rh 0 14) := by
  unfold tellS tellR
  rw [rh14, List.filter_map, List.map_map]
  congr 1
  · funext t
    simp [p.run]
  · congr 1
    funext t
    simp [p.run]
theorem tellR_nil {s : Sr} {l : List Int} (h : ∀ t ∈ l, run1 s t = []) : tellR s l = [] := by
  unfold tellR
  have : l.filter (fun t => !(run1 s t).isEmpty) = [] := by
    rw [List.filter_eq_nil_iff]
    intro t ht
    rw [h t ht]; simp
  rw [this]
  rfl
theorem run1_nil {s : Sr} {t : Int} (h : ∀ p ∈ s, t < p.1 ∨ p.2.1 ≤ t) : run1 s t = [] := by
  unfold run1
  rw [List.filterMap_eq_nil_iff]
  intro p hp
  have := h p hp
  rw [if_neg]
  simp only [Bool.and_eq_true, decide_eq_true_eq]
  omega
theorem blocks_eq (s : Sr) : blocksL s = ((endsL s).zip ((endsL s).drop 1)).filterMap (blk s) := rfl
theorem PL.told (p : PL m L N O lo hi) : (blocksL (sureL m L N lo hi)).flatMap tellB = tellS m L N O := by
  rw [tellS_eq p, blocks_eq]
  have hs := ends_sorted (sureL m L N lo hi)
  have hb : ∀ q ∈ sureL m L N lo hi, q.1 ∈ endsL (sureL m L N lo hi) := fun q hq => ends_mem.mpr (.inl ⟨q, hq, rfl⟩)
  have he : ∀ q ∈ sureL m L N lo hi, q.2.1 ∈ endsL (sureL m L N lo hi) := fun q hq => ends_mem.mpr (.inr ⟨q, hq, rfl⟩)
  have hr : ∀ x ∈ endsL (sureL m L N lo hi), 0 ≤ x ∧ x ≤ 14 := by
    intro x hx
    rcases ends_mem.mp hx with ⟨q, hq, rfl⟩ | ⟨q, hq, rfl⟩
    · obtain ⟨h1, h2, h3, h4, h5⟩ := p.sure_mem hq
      have := p.order h1
      omega
    · obtain ⟨h1, h2, h3, h4, h5⟩ := p.sure_mem hq
      have := p.order h1
      have := p.ln _ h1
      omega
  generalize sureL m L N lo hi = s at *
  cases hE : endsL s with
  | nil =>
    have : s = [] := by
      cases s with
      | nil => rfl
      | cons q r =>
        have := hb q List.mem_cons_self
        rw [hE] at this
        cases this
    subst this
    rw [tellR_nil fun t ht => run1_nil (by simp)]
    rfl
  | cons a E =>
    rw [hE] at hs hb he hr
    have hl := getLastD_mem (E := E) (a := a)
    have hla := last_ge hs a List.mem_cons_self
    have ha := hr a List.mem_cons_self
    have hz := hr _ hl
    rw [tell_all E a hs (fun q hq t h1 h2 => run_pair hb he (pairs_ok hs hq).2.2.2 h1 h2), rh_split ha.1 (by omega : a ≤ 14), rh_split hla hz.2, tellR_append, tellR_append]
    have n1 : tellR s (rh 0 a) = [] := tellR_nil fun t ht => run1_nil fun q hq => by
      have h1 := (mem_rh.mp ht).2
      have h2 := hb q hq
      have : a ≤ q.1 := by
        rcases List.mem_cons.mp h2 with h | h
        · omega
        · exact Int.le_of_lt ((List.pairwise_cons.mp hs).1 _ h)
      exact .inl (by omega)
    have n2 : tellR s (rh (E.getLastD a) 14) = [] := tellR_nil fun t ht => run1_nil fun q hq => by
      have h1 := (mem_rh.mp ht).1
      have h2 := last_ge hs _ (he q hq)
      exact .inr (by omega)
    rw [n1, n2, List.nil_append, List.append_nil]
theorem nodup_third (p : PL m L N O lo hi) {q r : Int × Int × Nat} (hq : q ∈ sureL m L N lo hi) (hr : r ∈ sureL m L N lo hi) (h : q.2.2 = r.2.2) : q = r := by
  obtain ⟨h1, h2, h3, h4, h5⟩ := p.sure_mem hq
  obtain ⟨g1, g2, g3, g4, g5⟩ := p.sure_mem hr
  obtain ⟨a, b, k⟩ := q
  obtain ⟨c, d, k'⟩ := r
  dsimp only at *
  subst h
  rw [h3, h4, g3, g4]
theorem mem_runL {s : Sr} {x y : Int} {k : Nat} : k ∈ runL s x y ↔ ∃ q ∈ s, q.2.2 = k ∧ q.1 ≤ x ∧ y ≤ q.2.1 := by
  unfold runL
  rw [List.mem_filterMap]
  constructor
  · rintro ⟨q, hq, e⟩
    split at e
    · rename_i c
      simp only [Bool.and_eq_true, decide_eq_true_eq] at c
      cases e
      exact ⟨q, hq, rfl, c.1, c.2⟩
    · cases e
  · rintro ⟨q, hq, rfl, h1, h2⟩
    exact ⟨q, hq, by rw [if_pos (by simp [h1, h2])]⟩
theorem mem_blocks {s : Sr} {r : Int × Int × List Nat} (h : r ∈ blocksL s) : (r.1, r.2.1) ∈ (endsL s).zip ((endsL s).drop 1) ∧ r.2.2 = runL s r.1 r.2.1 := by
  rw [blocks_eq] at h
  obtain ⟨q, hq, e⟩ := List.mem_filterMap.mp h
  unfold blk at e
  split at e
  · cases e
    exact ⟨hq, rfl⟩
  · cases e
theorem PL.now (p : PL m L N O lo hi) : NowOk m L N O (sureL m L N lo hi) (blocksL (sureL m L N lo hi)) := by
  have hs := ends_sorted (sureL m L N lo hi)
  refine ⟨?_, p.told, ?_, ?_, ?_⟩
  · unfold stretches
    rw [p.sure]
    apply fm_congr
    intro k hk
    exact p.stretch (by simpa using hk)
  · rintro ⟨r, r'⟩ hp ⟨h1, h2⟩
    dsimp only at h1 h2
    have m1 : r ∈ blocksL (sureL m L N lo hi) := (List.of_mem_zip hp).1
    have m2 : r' ∈ blocksL (sureL m L N lo hi) := List.mem_of_mem_drop (List.of_mem_zip hp).2
    obtain ⟨z1, e1⟩ := mem_blocks m1
    obtain ⟨z2, e2⟩ := mem_blocks m2
    obtain ⟨a1, a2, a3, a4⟩ := pairs_ok hs z1
    obtain ⟨b1, b2, b3, b4⟩ := pairs_ok hs z2
    dsimp only at a1 a2 a3 a4 b1 b2 b3 b4
    rw [e1, e2] at h2
    rcases ends_mem.mp a2 with ⟨q, hq, e⟩ | ⟨q, hq, e⟩
    · obtain ⟨c1, c2, c3, c4, c5⟩ := p.sure_mem hq
      have d1 := b4 _ (ends_mem.mpr (.inr ⟨q, hq, rfl⟩))
      have k1 : q.2.2 ∈ runL (sureL m L N lo hi) r'.1 r'.2.1 := mem_runL.mpr ⟨q, hq, rfl, by omega, by omega⟩
      rw [← h2] at k1
      obtain ⟨q', hq', f1, f2, f3⟩ := mem_runL.mp k1
      have := nodup_third p hq' hq f1
      subst this
      omega
    · obtain ⟨c1, c2, c3, c4, c5⟩ := p.sure_mem hq
      have d1 := a4 _ (ends_mem.mpr (.inl ⟨q, hq, rfl⟩))
      have k1 : q.2.2 ∈ runL (sureL m L N lo hi) r.1 r.2.1 := mem_runL.mpr ⟨q, hq, rfl, by omega, by omega⟩
      rw [h2] at k1
      obtain ⟨q', hq', f1, f2, f3⟩ := mem_runL.mp k1
      have := nodup_third p hq' hq f1
      subst this
      omega
  · intro r hr
    obtain ⟨z1, e1⟩ := mem_blocks hr
    obtain ⟨a1, a2, a3, a4⟩ := pairs_ok hs z1
    dsimp only at a1 a2 a3 a4
    have hrange : ∀ x ∈ endsL (sureL m L N lo hi), 0 ≤ x ∧ x ≤ 14 := by
      intro x hx
      rcases ends_mem.mp hx with ⟨q, hq, rfl⟩ | ⟨q, hq, rfl⟩
      · obtain ⟨h1, h2, h3, h4, h5⟩ := p.sure_mem hq
        have := p.order h1
        omega
      · obtain ⟨h1, h2, h3, h4, h5⟩ := p.sure_mem hq
        have := p.order h1
        have := p.ln _ h1
        omega
    have g1 := hrange _ a1
    have g2 := hrange _ a2
    rw [e1]
    refine ⟨fun k hk => ?_, fun k hk x hx => ?_, by omega, by omega, by omega, ?_⟩
    · obtain ⟨q, hq, rfl, f2, f3⟩ := mem_runL.mp hk
      exact (p.sure_mem hq).1
    · obtain ⟨q, hq, rfl, f2, f3⟩ := mem_runL.mp hk
      obtain ⟨h1, h2, h3, h4, h5⟩ := p.sure_mem hq
      have := (p.lo1 _ h1).2 x hx
      have := (p.hi1 _ h1).2 x hx
      omega
    · have := p.few
      refine Nat.le_trans (List.length_filterMap_le _ _) (Nat.le_trans sure_len (by omega))
  · rw [blocks_eq]
    refine Nat.le_trans (List.length_filterMap_le _ _) ?_
    rw [List.length_zip]
    have := ends_len (sureL m L N lo hi)
    have := sure_len (m := m) (L := L) (N := N) (lo := lo) (hi := hi)
    have := p.few
    omega
end
end Mine

open PySem PySem.Calls PyProof.Rows PySem.W
set_option maxRecDepth 100000
set_option linter.unusedVariables false
set_option linter.unusedSimpArgs false
set_option backward.match.sparseCases false
namespace Mine

structure PW (Γ : Gl) : Prop extends PR Γ where
  mS : makesIn Γ.K 287 = true
  iS : findIn Γ.K (.ref 287) "__init__" = some (some (.ref 151))
  tS : typeIn Γ.K (.ref 151) = some (.type "function")
  mC : makesIn Γ.K 425 = true
  iC : findIn Γ.K (.ref 425) "__init__" = some (some (.ref 356))
  tC : typeIn Γ.K (.ref 356) = some (.type "function")
  c356 : ∀ (n : Nat) (μ : Mu) (Q : PV → Mu → Prop) (d : Addr) (m : Nat) (L N : Nat → Int) (lim : Int), μ d = some (.attrs []) → m ≤ 20 → (∀ k, k < m → 0 ≤ L k) → (∀ k, k < m → 0 ≤ N k) → 0 ≤ lim →
    Q .none (μ.set d (.attrs (cAttrs m L N lim))) → CallT Γ (n + 3) (.ref 356) [cObj d, .lst (row m pN), .lst (row m fun k => .int (L k)), .lst (row m fun k => .int (N k)), .int lim] μ Q

structure OwnOk (m : Nat) (O : Nat → List Int) (D : Nat → Dom) : Prop where
  ne : ∀ k, k < m → O k ≠ []
  rise : ∀ k, k < m → (O k).Pairwise (· < ·)
  range : ∀ k, k < m → ∀ x ∈ O k, 0 ≤ x ∧ x ≤ 6
  few : ∀ k, k < m → (O k).length ≤ 4
  rep : ∀ k, k < m → Repr (D k) (O k)
abbrev Stk := List (Addr × Nat × (Nat → List Int))
noncomputable def Hist (m : Nat) : Stk → (Nat → Dom) → List Tr → Prop
  | [], _, _ => True
  | x :: r, D, ts => x.2.1 ≤ ts.length ∧ ∃ D0, OwnOk m x.2.2 D0 ∧ undo (row m fun k => dP (D k)) (ts.drop x.2.1) = (row m fun k => dP (D0 k)) ∧ Hist m r D0 (ts.take x.2.1)
structure LS (μ : Mu) (f e st o : Addr) (S : SA) (cs : List Int) (kf m : Nat) (L N : Nat → Int) (lim : Int) (F O : Nat → List Int) (D : Nat → Dom) (ts : List Tr) (stk : Stk) : Prop where
  hf : μ f = some (feedMO cs kf)
  h : CumAt μ e m L N lim
  hs : StoreAt μ S (row m fun k => dP (D k)) (row m fun k => dP (fromVals (F k))) (ts.map Tr.pv) (stk.reverse.map fun x => pN x.2.1)
  ho : μ o = some (.list (row m (ownP O)))
  hst : μ st = some (.list (stk.reverse.map fun x => .ref x.1))
  hstk : ∀ x ∈ stk, μ x.1 = some (.list (row m (ownP x.2.2)))
  own : OwnOk m O D
  hist : Hist m stk D ts
  tx : ∀ t ∈ ts, t.x < m
  sep : ∀ a ∈ o :: st :: stk.map (·.1), a ≠ S.dm ∧ a ≠ S.fr ∧ a ≠ S.tr ∧ a ≠ S.ms
  nd : (o :: st :: stk.map (·.1)).Nodup
structure ST (cs : List Int) (m : Nat) (L N : Nat → Int) (F : Nat → List Int) : Prop where
  hc : cs.length ≤ 60
  m2 : 2 ≤ m
  m4 : m ≤ 4
  hL : ∀ k, k < m → 0 ≤ L k ∧ L k ≤ 5
  hN : ∀ k, k < m → 0 ≤ N k ∧ N k ≤ 3
  hF : ∀ k, k < m → StartsOk (F k)
section
variable {Γ : Gl} {n : Nat} {μ : Mu} {Q : PV → Mu → Prop}
variable {f e st o : Addr} {S : SA} {cs : List Int} {kf m : Nat} {L N : Nat → Int} {lim : Int} {F O : Nat → List Int} {D : Nat → Dom} {ts : List Tr} {stk : Stk}
theorem LS.plain (s : LS μ f e st o S cs kf m L N lim F O D ts stk) (T : ST cs m L N F) : PL m L N O (fun k => loD (D k)) (fun k => hiD (D k)) :=
  ⟨T.m4, fun k hk => (s.own.rep k hk).lo (s.own.rise k hk) (s.own.ne k hk), fun k hk => (s.own.rep k hk).hi (s.own.rise k hk) (s.own.ne k hk), s.own.range, T.hL⟩
theorem LS.feed (s : LS μ f e st o S cs kf m L N lim F O D ts stk) (kf' : Nat) : LS (μ.set f (feedMO cs kf')) f e st o S cs kf' m L N lim F O D ts stk := by
  have nk : ∀ {b o}, μ b = some o → (∀ es, o ≠ .sdict es) → b ≠ f := fun h q r => by
    subst r
    rw [s.hf] at h
    exact q _ (Option.some.inj h).symm
  obtain ⟨es, e1, e2⟩ := s.hs.hnw
  exact { s with
    hf := Mu.set_self
    h := by unfold CumAt; rw [Mu.set_ne (nk s.h (by simp))]; exact s.h
    hs := { s.hs with
      hd := by rw [Mu.set_ne (nk s.hs.hd (by simp))]; exact s.hs.hd
      hdm := by rw [Mu.set_ne (nk s.hs.hdm (by simp))]; exact s.hs.hdm
      hfr := by rw [Mu.set_ne (nk s.hs.hfr (by simp))]; exact s.hs.hfr
      htr := by rw [Mu.set_ne (nk s.hs.htr (by simp))]; exact s.hs.htr
      hmk := by rw [Mu.set_ne (nk s.hs.hmk (by simp))]; exact s.hs.hmk
      hnw := ⟨es, by rw [Mu.set_ne (nk e1 (by simp))]; exact e1, e2⟩ }
    ho := by rw [Mu.set_ne (nk s.ho (by simp))]; exact s.ho
    hst := by rw [Mu.set_ne (nk s.hst (by simp))]; exact s.hst
    hstk := fun x hx => by rw [Mu.set_ne (nk (s.hstk x hx) (by simp))]; exact s.hstk x hx }
theorem LS.keep {μ' : Mu} {kf' : Nat} (s : LS μ f e st o S cs kf m L N lim F O D ts stk) (hf' : μ' f = some (feedMO cs kf')) (fr : ∀ b, b ≠ f → μ b ≠ none → μ' b = μ b) : LS μ' f e st o S cs kf' m L N lim F O D ts stk := by
  have nk : ∀ {b o}, μ b = some o → (∀ es, o ≠ .sdict es) → μ' b = μ b := fun {b o} h q => fr b (fun r => by
    subst r
    rw [s.hf] at h
    exact q _ (Option.some.inj h).symm) (by rw [h]; simp)
  obtain ⟨es, e1, e2⟩ := s.hs.hnw
  exact { s with
    hf := hf'
    h := by unfold CumAt; rw [nk s.h (by simp)]; exact s.h
    hs := { s.hs with
      hd := by rw [nk s.hs.hd (by simp)]; exact s.hs.hd
      hdm := by rw [nk s.hs.hdm (by simp)]; exact s.hs.hdm
      hfr := by rw [nk s.hs.hfr (by simp)]; exact s.hs.hfr
      htr := by rw [nk s.hs.htr (by simp)]; exact s.hs.htr
      hmk := by rw [nk s.hs.hmk (by simp)]; exact s.hs.hmk
      hnw := ⟨es, by rw [nk e1 (by simp)]; exact e1, e2⟩ }
    ho := by rw [nk s.ho (by simp)]; exact s.ho
    hst := by rw [nk s.hst (by simp)]; exact s.hst
    hstk := fun x hx => by rw [nk (s.hstk x hx) (by simp)]; exact s.hstk x hx }
theorem now_call (P : PR Γ) (s : LS μ f e st o S cs kf m L N lim F O D ts stk) (T : ST cs m L N F) (hk : kf ≤ 90000) (hq : ∀ μ', LS μ' f e st o S cs (kf + 2) m L N lim F O D ts stk → Q (.bool true) μ') :
    CallT Γ (n + 5) (.ref 466) [.ref f, cObj e, sObj S.d, .lst (row m (taskP L N)), .lst (row m (firstP F)), .ref o] μ Q := by
  have m4 := T.m4
  refine c_now_right P s.hf T.hc hk s.h s.hs s.ho (by omega) (fun k hk => (s.own.rep k hk).ne (s.own.ne k hk)) (fun k hk => by have := s.own.few k hk; omega) (fun k hk => by have := (T.hF k hk).few; omega) (fun k hk => (T.hN k hk).1) (s.plain T).now ?_
  exact fun μ' h1 h2 => hq μ' (s.keep h1 h2)
theorem row_set {g : Nat → PV} {k : Nat} {v : PV} {h : Nat → PV} (h1 : ∀ j, j < m → j ≠ k → h j = g j) (h2 : k < m → h k = v) : (row m g).set k v = row m h := by
  apply List.ext_getElem
  · simp [row]
  · intro j a b
    have hj : j < m := by simpa [row] using b
    rw [List.getElem_set]
    by_cases c : k = j
    · subst c
      rw [if_pos rfl]
      simp [row, h2 hj]
    · rw [if_neg c]
      simp [row, h1 j hj (fun q => c q.symm)]
end
end Mine

open PySem PySem.Calls PyProof.Rows PySem.W
set_option maxRecDepth 100000
set_option linter.unusedVariables false
set_option linter.unusedSimpArgs false
set_option backward.match.sparseCases false
namespace Mine
section
variable {Γ : Gl} {n : Nat} {μ : Mu} {Q : PV → Mu → Prop}
variable {f e st o : Addr} {S : SA} {cs : List Int} {kf m : Nat} {L N : Nat → Int} {lim : Int} {F O : Nat → List Int} {D : Nat → Dom} {ts : List Tr} {stk : Stk}
theorem attrs_ne {n : Nat} {S : SA} {p : PV} : MO.attrs (cAttrs n L N lim) ≠ MO.attrs (sAttrs S p) := by
  intro h
  have := MO.attrs.inj h
  simp only [cAttrs, sAttrs, List.cons.injEq, Prod.mk.injEq] at this
  exact absurd this.1.1 (by decide)
theorem pop_call (P : PR Γ) {x : Addr × Nat × (Nat → List Int)} {r : Stk} (s : LS μ f e st o S cs kf m L N lim F O D ts (x :: r)) (T : ST cs m L N F) (hts : ts.length ≤ 900) (hsk : r.length ≤ 900)
    (hq : ∀ μ' S' D0 ts', S'.d = S.d → ts'.length ≤ ts.length → μ' st = some (.list ((r.reverse.map fun x => PV.ref x.1) ++ [.ref x.1])) → LS (μ'.set st (.list (r.reverse.map fun x => .ref x.1))) f e st x.1 S' cs kf m L N lim F x.2.2 D0 ts' r → Q .none μ') :
    CallT Γ (n + 1) (.ref 270) [sObj S.d, .int 1] μ Q := by
  have m4 := T.m4
  obtain ⟨hm, D0, ow, hu, hh⟩ := s.hist
  have hs := s.hs
  have hmks : ((x :: r).reverse.map fun x => pN x.2.1) = (r.reverse.map fun x => pN x.2.1) ++ [PV.int x.2.1] := by simp [pN]
  rw [hmks] at hs
  refine c_pop P (ts := ts) (m := x.2.1) hs (by rw [row_len]; omega) (by omega) (by simp; omega) hm (fun t ht => by rw [row_len]; exact s.tx t ht) ⟨(List.range m).map fun k => fromVals (F k), by simp [row], by simp; omega, ?_⟩ ?_
  · intro h
    obtain ⟨k, hk, q⟩ := List.mem_map.mp h
    have hk' : k < m := by simpa using hk
    have := T.hF k hk'
    exact (Repr.vals this.rise).ne this.ne q
  · intro μ' mk nw hmk hnw hs' fr
    have nk : ∀ {b o}, μ b = some o → b ≠ mk := fun h q => by rw [q, hmk] at h; cases h
    have nw' : ∀ {b o}, μ b = some o → b ≠ nw := fun h q => by rw [q, hnw] at h; cases h
    have hst : μ st = some (.list ((r.reverse.map fun x => PV.ref x.1) ++ [.ref x.1])) := by
      have := s.hst
      simpa using this
    have keep : ∀ {b o}, μ b = some o → b ≠ S.d → b ≠ S.dm → b ≠ S.tr → μ' b = some o := fun h a1 a2 a3 => by rw [fr _ a1 a2 a3 (nk h) (nw' h)]; exact h
    have sep := s.sep
    have sp_o := sep o (by simp)
    have sp_st := sep st (by simp)
    have sp_x := sep x.1 (by simp)
    have hxx := s.hstk x List.mem_cons_self
    have hst' : μ' st = some (.list ((r.reverse.map fun x => PV.ref x.1) ++ [.ref x.1])) := keep hst (ne_of hst hs.hd (by simp)) sp_st.1 sp_st.2.2.1
    have fk : ∀ {b o}, μ b = some o → (∀ l, o ≠ .list l) → b ≠ st ∧ b ≠ S.dm ∧ b ≠ S.tr := fun {b o} h q => ⟨ne_of h hst (q _), ne_of h hs.hdm (q _), ne_of h hs.htr (q _)⟩
    have kf1 := fk s.hf (by simp [feedMO])
    have ke := fk s.h (by simp)
    obtain ⟨es, e1, e2⟩ := hs'.hnw
    have nst : st ∉ x.1 :: r.map (·.1) := (List.nodup_cons.mp (List.nodup_cons.mp s.nd).2).1
    have xst : x.1 ≠ st := fun q => nst (by rw [← q]; exact List.mem_cons_self)
    refine hq μ' ⟨S.d, S.dm, S.fr, S.tr, mk, nw⟩ D0 (ts.take x.2.1) rfl (by rw [List.length_take]; omega) hst' ?_
    rw [hu] at hs'
    have listne : ∀ {b o}, μ b = some o → (∀ l, o ≠ .list l) → b ≠ st := fun h q => (fk h q).1
    exact
    { hf := by rw [Mu.set_ne kf1.1]; exact keep s.hf (ne_of s.hf hs.hd (by simp [feedMO])) kf1.2.1 kf1.2.2
      h := by unfold CumAt; rw [Mu.set_ne ke.1]; exact keep s.h (ne_of s.h hs.hd attrs_ne) ke.2.1 ke.2.2
      hs := { hs' with
        hd := by rw [Mu.set_ne (ne_of hs'.hd hst' (by simp))]; exact hs'.hd
        hdm := by rw [Mu.set_ne sp_st.1.symm]; exact hs'.hdm
        hfr := by rw [Mu.set_ne sp_st.2.1.symm]; exact hs'.hfr
        htr := by rw [Mu.set_ne sp_st.2.2.1.symm]; exact hs'.htr
        hmk := by rw [Mu.set_ne (nk hst).symm]; exact hs'.hmk
        hnw := ⟨es, by rw [Mu.set_ne (ne_of e1 hst' (by simp))]; exact e1, e2⟩ }
      ho := by rw [Mu.set_ne xst]; exact keep hxx (ne_of hxx hs.hd (by simp)) sp_x.1 sp_x.2.2.1
      hst := Mu.set_self
      hstk := fun y hy => by
        have hy' := s.hstk y (List.mem_cons_of_mem _ hy)
        have sy := sep y.1 (by simp only [List.map_cons, List.mem_cons, List.mem_map]; exact .inr (.inr (.inr ⟨y, hy, rfl⟩)))
        have : y.1 ≠ st := fun q => nst (List.mem_cons_of_mem _ (List.mem_map.mpr ⟨y, hy, q⟩))
        rw [Mu.set_ne this]
        exact keep hy' (ne_of hy' hs.hd (by simp)) sy.1 sy.2.2.1
      own := ow
      hist := hh
      tx := fun t ht => s.tx t (List.mem_of_mem_take ht)
      sep := fun a ha => by
        have hmem : a ∈ o :: st :: (x :: r).map (·.1) := by
          simp only [List.map_cons, List.mem_cons] at ha ⊢
          rcases ha with h | h | h
          · exact .inr (.inr (.inl h))
          · exact .inr (.inl h)
          · exact .inr (.inr (.inr h))
        have q := sep a hmem
        refine ⟨q.1, q.2.1, q.2.2.1, ?_⟩
        have : ∃ v, μ a = some v := by
          simp only [List.map_cons, List.mem_cons, List.mem_map] at ha
          rcases ha with rfl | rfl | ⟨y, hy, rfl⟩
          · exact ⟨_, hxx⟩
          · exact ⟨_, hst⟩
          · exact ⟨_, s.hstk y (List.mem_cons_of_mem _ hy)⟩
        obtain ⟨v, hv⟩ := this
        exact nk hv
      nd := by
        have h1 := (List.nodup_cons.mp s.nd).2
        have h2 := (List.nodup_cons.mp h1).2
        rw [List.map_cons] at h1 h2
        have h3 := (List.nodup_cons.mp h2)
        refine List.nodup_cons.mpr ⟨?_, List.nodup_cons.mpr ⟨fun q => nst (List.mem_cons_of_mem _ q), h3.2⟩⟩
        intro q
        rcases List.mem_cons.mp q with q | q
        · exact xst q
        · exact h3.1 q }
end
end Mine

open PySem PySem.Calls PyProof.Rows PySem.W
set_option maxRecDepth 100000
set_option linter.unusedVariables false
set_option linter.unusedSimpArgs false
set_option backward.match.sparseCases false
namespace Mine
noncomputable def upd {α : Type} (g : Nat → α) (k : Nat) (v : α) : Nat → α := fun j => if j = k then v else g j
theorem upd_self {α : Type} {g : Nat → α} {k : Nat} {v : α} : upd g k v k = v := by simp [upd]
theorem upd_ne {α : Type} {g : Nat → α} {k j : Nat} {v : α} (h : j ≠ k) : upd g k v j = g j := by simp [upd, h]
section
variable {Γ : Gl} {n : Nat} {μ : Mu} {Q : PV → Mu → Prop}
variable {f e st o : Addr} {S : SA} {cs : List Int} {kf m : Nat} {L N : Nat → Int} {lim : Int} {F O : Nat → List Int} {D : Nat → Dom} {ts : List Tr} {stk : Stk}
theorem list_at {a : Addr} {l : List PV} {K : PV → Mu → Prop} (h : μ a = some (.list l)) (hk : newL l μ K) : biV .list [.ref a] μ K := by
  simp only [bi_len, bi_min2, bi_max2, bi_minT, bi_sum, bi_sorted, bi_list, bi_tuple, bi_all, dr_ref, dr_lst, dr_tup, dr_int, dr_str, dr_none, dr_bool, dr_obj, h]
  exact hk
theorem deed_call (P : PR Γ) (s : LS μ f e st o S cs kf m L N lim F O D ts stk) (T : ST cs m L N F) (hts : ts.length ≤ 900) (hsk : stk.length ≤ 900) {k : Nat} {sg : Str} {v : Int} {K : Mu → Prop} (hk : k < m) (hsg : sg = "<=" ∨ sg = ">=" ∨ sg = "!=")
    (hne : ((O k).filter fun x => !barsL sg v x) ≠ [])
    (hq : ∀ μ' D' ts' a, ts'.length ≤ ts.length + 1 → LS μ' f e st o S cs kf m L N lim F (upd O k ((O k).filter fun x => !barsL sg v x)) D' ts' ((a, ts.length, O) :: stk) → K μ')
    (M : Mu → Prop) (hM : ∀ μ1, μ1 S.d = some (.attrs (sAttrs S (.bool false))) → (CallT Γ (n + 5) (.ref 249) [sObj S.d, litP k sg v] μ1 fun _ μ2 => listRef (.ref st) μ2 ∧ biV .list [.ref o] μ2 fun q μ3 => appendV (.ref st) q μ3 fun _ μ4 => setItemV (.ref o) (.int k) (.lst (((O k).filter fun x => !barsL sg v x).map .int)) μ4 K) → M μ1) :
    CallT Γ (n + 5) (.ref 263) [sObj S.d] μ fun _ μ1 => M μ1 := by
  have hb : big = 100000 := rfl
  have m4 := T.m4
  have rep := s.own.rep k hk
  have rise := s.own.rise k hk
  have few := s.own.few k hk
  have rep' := rep.struck hsg rise v
  have dne := rep'.ne hne
  have hlen := rep.len
  have sep := s.sep
  have sp_o := sep o (by simp)
  have sp_st := sep st (by simp)
  have ost : o ≠ st := fun q => (List.nodup_cons.mp s.nd).1 (by rw [q]; simp)
  -- what stands after the store's work
  have fin : ∀ (μ2 : Mu) (ts' : List Tr), ts'.length ≤ ts.length + 1 → StoreAt μ2 S (row m fun j => dP (upd D k (struckD sg v (D k)) j)) (row m fun k => dP (fromVals (F k))) (ts'.map Tr.pv) ((stk.reverse.map fun x => pN x.2.1) ++ [.int ts.length]) →
      ts.length ≤ ts'.length → undo (row m fun j => dP (upd D k (struckD sg v (D k)) j)) (ts'.drop ts.length) = (row m fun k => dP (D k)) → ts'.take ts.length = ts → (∀ t ∈ ts', t.x < m) →
      (∀ b, b ≠ S.dm → b ≠ S.tr → b ≠ S.ms → b ≠ S.nw → μ2 b = μ b) →
      listRef (.ref st) μ2 ∧ biV .list [.ref o] μ2 fun q μ3 => appendV (.ref st) q μ3 fun _ μ4 => setItemV (.ref o) (.int k) (.lst (((O k).filter fun x => !barsL sg v x).map .int)) μ4 K := by
    intro μ2 ts' hl hs2 hge hun htk htx fr
    obtain ⟨es0, e01, e02⟩ := s.hs.hnw
    have keep : ∀ {b o}, μ b = some o → b ≠ S.dm → b ≠ S.tr → b ≠ S.ms → (∀ es, o ≠ .idict es) → μ2 b = some o := fun h a1 a2 a3 a4 => by rw [fr _ a1 a2 a3 (ne_of h e01 (a4 _))]; exact h
    have hst2 := keep s.hst sp_st.1 sp_st.2.2.1 sp_st.2.2.2 (by simp)
    have ho2 := keep s.ho sp_o.1 sp_o.2.2.1 sp_o.2.2.2 (by simp)
    have nl : ∀ {b o}, μ b = some o → (∀ l, o ≠ .list l) → b ≠ S.dm ∧ b ≠ S.tr ∧ b ≠ S.ms := fun h q => ⟨ne_of h s.hs.hdm (q _), ne_of h s.hs.htr (q _), ne_of h s.hs.hmk (q _)⟩
    have kf1 := nl s.hf (by simp [feedMO])
    have ke := nl s.h (by simp)
    have hf2 := keep s.hf kf1.1 kf1.2.1 kf1.2.2 (by simp [feedMO])
    have he2 := keep s.h ke.1 ke.2.1 ke.2.2 (by simp)
    have hstk2 : ∀ y ∈ stk, μ2 y.1 = some (.list (row m (ownP y.2.2))) := fun y hy => by
      have sy := sep y.1 (by simp only [List.mem_cons, List.mem_map]; exact .inr (.inr ⟨y, hy, rfl⟩))
      exact keep (s.hstk y hy) sy.1 sy.2.2.1 sy.2.2.2 (by simp)
    refine ⟨listRef_at hst2, list_at ho2 (newL_ref (by rw [row_len]; omega) fun a ha => ?_)⟩
    have nk : ∀ {b o}, μ2 b = some o → b ≠ a := fun h q => by rw [q, ha] at h; cases h
    refine append_at (l := stk.reverse.map fun x => PV.ref x.1) (by rw [Mu.set_ne (nk hst2)]; exact hst2) (by simp; omega) ?_
    refine set_at (l := row m (ownP O)) (by rw [Mu.set_ne ost, Mu.set_ne (nk ho2)]; exact ho2) (by rw [row_len]; exact hk) (by rw [row_len]; omega) ?_
    have en : ∀ {b o'}, μ2 b = some o' → b ≠ st → b ≠ o → (((μ2.set a (.list (row m (ownP O)))).set st (.list ((stk.reverse.map fun x => PV.ref x.1) ++ [.ref a]))).set o (.list ((row m (ownP O)).set k (.lst (((O k).filter fun x => !barsL sg v x).map .int))))) b = some o' := fun h a1 a2 => by
      rw [Mu.set_ne a2, Mu.set_ne a1, Mu.set_ne (nk h)]; exact h
    have nl2 : ∀ {b o'}, μ2 b = some o' → (∀ l, o' ≠ .list l) → b ≠ st ∧ b ≠ o := fun h q => ⟨ne_of h hst2 (q _), ne_of h ho2 (q _)⟩
    have g1 := nl2 hf2 (by simp [feedMO])
    have g2 := nl2 he2 (by simp)
    have g3 := nl2 hs2.hd (by simp)
    obtain ⟨es, e1, e2⟩ := hs2.hnw
    have g4 := nl2 e1 (by simp)
    have nd := s.nd
    have nd1 := List.nodup_cons.mp nd
    have nd2 := List.nodup_cons.mp nd1.2
    refine hq _ _ ts' a hl
      { hf := en hf2 g1.1 g1.2
        h := en he2 g2.1 g2.2
        hs := { hs2 with
          hd := en hs2.hd g3.1 g3.2
          hdm := en hs2.hdm sp_st.1.symm sp_o.1.symm
          hfr := en hs2.hfr sp_st.2.1.symm sp_o.2.1.symm
          htr := en hs2.htr sp_st.2.2.1.symm sp_o.2.2.1.symm
          hmk := by
            have := en hs2.hmk sp_st.2.2.2.symm sp_o.2.2.2.symm
            rw [this]
            simp [pN]
          hnw := ⟨es, en e1 g4.1 g4.2, e2⟩ }
        ho := by
          rw [Mu.set_self]
          congr 2
          refine row_set (fun j hj hjk => ?_) fun hk => ?_
          · simp [ownP, upd_ne hjk]
          · simp [ownP, upd_self]
        hst := by
          rw [Mu.set_ne ost.symm, Mu.set_self]
          simp
        hstk := fun y hy => by
          rcases List.mem_cons.mp hy with rfl | hy
          · rw [Mu.set_ne (nk ho2).symm, Mu.set_ne (nk hst2).symm, Mu.set_self]
          · have h1 : y.1 ≠ st := fun q => nd2.1 (by rw [← q]; exact List.mem_map.mpr ⟨y, hy, rfl⟩)
            have h2 : y.1 ≠ o := fun q => nd1.1 (by rw [← q]; exact List.mem_cons_of_mem _ (List.mem_map.mpr ⟨y, hy, rfl⟩))
            exact en (hstk2 y hy) h1 h2
        own :=
          { ne := fun j hj => by
              by_cases c : j = k
              · subst c; rw [upd_self]; exact hne
              · rw [upd_ne c]; exact s.own.ne j hj
            rise := fun j hj => by
              by_cases c : j = k
              · subst c; rw [upd_self]; exact rise.filter _
              · rw [upd_ne c]; exact s.own.rise j hj
            range := fun j hj x hx => by
              by_cases c : j = k
              · subst c; rw [upd_self] at hx; exact s.own.range j hj x (List.mem_filter.mp hx).1
              · rw [upd_ne c] at hx; exact s.own.range j hj x hx
            few := fun j hj => by
              by_cases c : j = k
              · subst c; rw [upd_self]; exact Nat.le_trans (List.length_filter_le _ _) few
              · rw [upd_ne c]; exact s.own.few j hj
            rep := fun j hj => by
              by_cases c : j = k
              · subst c; rw [upd_self, upd_self]; exact rep'
              · rw [upd_ne c, upd_ne c]; exact s.own.rep j hj }
        hist := ⟨hge, D, s.own, hun, by dsimp only; rw [htk]; exact s.hist⟩
        tx := htx
        sep := fun b hb => by
          simp only [List.map_cons, List.mem_cons] at hb
          rcases hb with rfl | rfl | rfl | hb
          · exact sp_o
          · exact sp_st
          · exact ⟨(nk hs2.hdm).symm, (nk hs2.hfr).symm, (nk hs2.htr).symm, (nk hs2.hmk).symm⟩
          · exact sep b (List.mem_cons_of_mem _ (List.mem_cons_of_mem _ hb))
        nd := by
          have na : a ∉ stk.map (·.1) := fun q => by
            obtain ⟨y, hy, q⟩ := List.mem_map.mp q
            exact nk (hstk2 y hy) q
          simp only [List.map_cons]
          refine List.nodup_cons.mpr ⟨fun q => ?_, List.nodup_cons.mpr ⟨fun q => ?_, List.nodup_cons.mpr ⟨na, nd2.2⟩⟩⟩
          · rcases List.mem_cons.mp q with q | q
            · exact ost q
            · rcases List.mem_cons.mp q with q | q
              · exact nk ho2 q
              · exact nd1.1 (List.mem_cons_of_mem _ q)
          · rcases List.mem_cons.mp q with q | q
            · exact nk hst2 q
            · exact nd2.1 q }
  refine c_push P s.hs (by simp; omega) (by simp; omega) fun μ1 hs1 fr1 => hM μ1 hs1.hd ?_
  rw [List.length_map] at hs1
  have hx : (row m fun k => dP (D k))[k]? = some (dP (D k)) := row_at hk
  have hset : (row m fun k => dP (D k)).set k (dP (struckD sg v (D k))) = row m fun j => dP (upd D k (struckD sg v (D k)) j) := by
    refine row_set (fun j hj hjk => ?_) fun hk => ?_
    · simp [upd_ne hjk]
    · simp [upd_self]
  refine c_decide P hs1 hsg hx (by omega) (by rw [row_len]; omega) (by simp; omega) dne (fun c => ?_) fun μ2 hs2 fr2 => ?_
  · have eD : (row m fun j => dP (upd D k (struckD sg v (D k)) j)) = row m fun k => dP (D k) := by
      rw [← hset, c]
      exact row_set (fun j hj hjk => rfl) fun hk => rfl
    refine fin μ1 ts (by omega) (by rw [eD]; exact hs1) (Nat.le_refl _) (by rw [List.drop_length, eD]; rfl) (List.take_length ..) s.tx fun b b1 b2 b3 b4 => fr1 b b3
  · rw [hset] at hs2
    have eun : undo (row m fun j => dP (upd D k (struckD sg v (D k)) j)) ((ts ++ [(⟨k, D k, sg, v⟩ : Tr)]).drop ts.length) = row m fun k => dP (D k) := by
      rw [List.drop_left]
      show (row m _).set k (dP (D k)) = _
      refine row_set (fun j hj hjk => ?_) fun hk => rfl
      simp [upd_ne hjk]
    refine fin μ2 (ts ++ [(⟨k, D k, sg, v⟩ : Tr)]) (by simp) (by simpa [Tr.pv] using hs2) (by simp) eun (List.take_left ..) (fun t ht => ?_) fun b b1 b2 b3 b4 => by rw [fr2 b b1 b2 b4, fr1 b b3]
    rcases List.mem_append.mp ht with q | q
    · exact s.tx t q
    · rw [List.mem_singleton.mp q]; exact hk
end
end Mine

open PySem PySem.Calls PyProof.Rows PySem.W
set_option maxRecDepth 100000
set_option linter.unusedVariables false
set_option linter.unusedSimpArgs false
set_option backward.match.sparseCases false
namespace Mine
noncomputable def lawElse : List MS := [.assignT [.one 5, .one 11, .one 12] (.tup [.call (.ref 434) [.loc 1, .loc 2], .sub (.tup [.const (.str "<="), .const (.str ">="), .const (.str "!=")]) (.call (.ref 434) [.loc 1, .const (.int 3)]), .call (.ref 434) [.loc 1, .const (.int 7)]]), .assign1 13 (.comp (.loc 1) (.one 1) (.seq (.sub (.loc 9) (.loc 5))) [.bnot (.call (.ref 441) [.tup [.loc 3, .loc 4, .loc 5], .loc 1])] [none, none, none, some 5, some 11, some 12]), .ifS (.cmp .NotEq (.loc 13) (.lst [])) [.expr (.meth (.loc 3) 6 []), .expr (.meth (.loc 3) 4 [.tup [.loc 5, .loc 11, .loc 12]]), .expr (.append (.loc 4) (.bi .list [.loc 9])), .assignS (.loc 9) (.loc 5) (.loc 13)] []]
noncomputable def lawT6 : List MS := m_law.drop 6
noncomputable def lawT7 : List MS := m_law.drop 7
theorem law_e0 : m_law = [.assign1 1 (.sdict2 "cells" (.comp (.bin .Mod (.loc 1) (.const (.int 1000003))) (.one 1) (.seq (.slice (.loc 0) none (some (.const (.int 60))))) [] [none, none]) "at" (.const (.int 0))), .assignT [.one 2, .one 3, .one 4] (.tup [.bin .Add (.const (.int 2)) (.call (.ref 434) [.loc 1, .const (.int 3)]), .call (.ref 287) [], .lst []]), .assign1 6 (.comp (.call (.ref 446) [.loc 3]) (.one 1) (.range1 (.loc 2)) [] [none, none, none, some 1]), .assign1 7 (.comp (.tup [.call (.ref 434) [.loc 3, .const (.int 6)], .call (.ref 434) [.loc 3, .const (.int 4)]]) (.one 1) (.range1 (.loc 2)) [] [none, none, none, some 1]), .assign1 8 (.call (.ref 425) [.comp (.meth (.loc 3) 0 [.call (.ref 64) [.loc 1]]) (.one 1) (.seq (.loc 6)) [] [none, none, none, some 3], .comp (.loc 1) (.many [.one 1, .one 2]) (.seq (.loc 7)) [] [none, none, none], .comp (.loc 2) (.many [.one 1, .one 2]) (.seq (.loc 7)) [] [none, none, none], .call (.ref 434) [.loc 1, .const (.int 6)]]), .assign1 9 (.bi .list [.loc 6])] ++ lawT6 := rfl
theorem law_e6 : lawT6 = [.ifS (.bnot (.call (.ref 466) [.loc 1, .loc 8, .loc 3, .loc 7, .loc 6, .loc 9])) [.ret (some (.const (.bool false)))] []] ++ lawT7 := rfl
theorem law_e7 : lawT7 = [.forS (.one 10) (.range1 (.bin .Add (.const (.int 2)) (.call (.ref 434) [.loc 1, .const (.int 3)]))) [.ifS (.band (.cmp .NotEq (.loc 4) (.lst [])) (.cmp .Eq (.call (.ref 434) [.loc 1, .const (.int 4)]) (.const (.int 3)))) [.expr (.meth (.loc 3) 7 [.const (.int 1)]), .assign1 9 (.pop (.loc 4))] lawElse, .ifS (.bnot (.call (.ref 466) [.loc 1, .loc 8, .loc 3, .loc 7, .loc 6, .loc 9])) [.ret (some (.const (.bool false)))] []], .ret (some (.const (.bool true)))] := rfl

section
variable {Γ : Gl} {n : Nat} {μ : Mu} {Q : PV → Mu → Prop} {QS : FP → Rho → Mu → Prop}
variable {f e st o : Addr} {S : SA} {cs : List Int} {kf m : Nat} {L N : Nat → Int} {lim : Int} {F O : Nat → List Int} {D : Nat → Dom} {ts : List Tr} {stk : Stk}
noncomputable def lbase (sc : PV) (f st o e d : Addr) (m : Nat) (L N : Nat → Int) (F : Nat → List Int) (w5 w10 w11 w12 w13 : Option PV) : Rho :=
  [some sc, some (.ref f), some (.int m), some (sObj d), some (.ref st), w5, some (.lst (row m (firstP F))), some (.lst (row m (taskP L N))), some (cObj e), some (.ref o), w10, w11, w12, w13, none, none, none, none, none, none]
theorem ne_ref0 {a : Addr} {l : List PV} {k : Bool → Prop} (h : μ a = some (.list l)) : cmpV .NotEq (.ref a) (.lst []) μ k = k (!l.isEmpty) := by
  have e : cmpV .NotEq (.ref a) (.lst []) μ k = eqV (.lst l) (.lst []) fun b => k (!b) := by simp only [cv_lt, cv_le, cv_gt, cv_ge, cv_eq, cv_ne, cv_in, cv_isn, cv_isl, cv_ist, cv_isr, dr_ref, dr_lst, dr_tup, dr_int, dr_str, dr_none, dr_bool, dr_obj, h]
  rw [e]
  cases l <;> rfl
theorem lap_else (P : PR Γ) (s : LS μ f e st o S cs kf m L N lim F O D ts stk) (T : ST cs m L N F) (hk : kf ≤ 80000) (hts : ts.length ≤ 900) (hsk : stk.length ≤ 900) {sc : PV} {w5 w10 w11 w12 w13 : Option PV}
    (hq : ∀ μ' O' D' ts' stk' v5 v11 v12 v13, LS μ' f e st o S cs (kf + 3) m L N lim F O' D' ts' stk' → ts'.length ≤ ts.length + 1 → stk'.length ≤ stk.length + 1 → QS .next (lbase sc f st o e S.d m L N F v5 w10 v11 v12 v13) μ') :
    vcSs Γ (n + 5) lawElse (lbase sc f st o e S.d m L N F w5 w10 w11 w12 w13) μ QS := by
  have hb : big = 100000 := rfl
  have m4 := T.m4
  have m2 := T.m2
  dsimp only [lawElse, lbase, vk_nil, vk_cons, vl_nil, vl_cons, vf_nil, vf_cons, vo_none, vo_some, vt_one, vt_more, vi_seq, oo_int, oo_lst, vi_range1, vi_range2, vi_zip, vi_enum, vb_bnot, vb_band, vb_bor, vb_ite, vb_cmp, vb_chain, vb_const, vb_loc, vb_bin, vb_neg, vb_tup, vb_lst, vb_sub, vb_slice, vb_attr, vb_call, vb_bi, vb_meth, ve_dead, ve_const, ve_loc, ve_bin, ve_neg, ve_cmp, ve_band, ve_bor, ve_bnot, ve_ite, ve_tup, ve_lst, ve_dict0, ve_sdict2, ve_sub, ve_slice, ve_attr, ve_call, ve_bi, ve_sortset, ve_append, ve_pop, ve_meth, ve_comp, vs_dead, vs_assign1, vs_assignT, vs_assignA, vs_assignS, vs_expr, vs_ifS, vs_forS, vs_whileS, vs_ret0, vs_ret, setMany, setS, getS, initR, List.replicate, bindT, bindTs, unpackV, List.length_cons, List.length_nil]
  refine c_draw P s.hf T.hc (by omega) (by omega) fun r hr0 hr1 => ?_
  obtain ⟨k, rfl⟩ : ∃ k : Nat, r = k := ⟨r.toNat, by omega⟩
  have hkm : k < m := by omega
  have s1 := s.feed (kf + 1)
  refine c_draw P s1.hf T.hc (by omega) (by decide) fun q hq0 hq1 => ?_
  have hsg : ∃ sg : Str, (sg = "<=" ∨ sg = ">=" ∨ sg = "!=") ∧ itemAt [PV.str "<=", PV.str ">=", PV.str "!="] q = some (.str sg) := by
    have : q = 0 ∨ q = 1 ∨ q = 2 := by omega
    rcases this with rfl | rfl | rfl
    · exact ⟨"<=", .inl rfl, rfl⟩
    · exact ⟨">=", .inr (.inl rfl), rfl⟩
    · exact ⟨"!=", .inr (.inr rfl), rfl⟩
  obtain ⟨sg, hsg, hit⟩ := hsg
  refine sub_tup (v := .str sg) (by omega) hit ?_
  have s2 := s1.feed (kf + 1 + 1)
  refine c_draw P s2.hf T.hc (by omega) (by decide) fun v hv0 hv1 => ?_
  have s3 := s2.feed (kf + 1 + 1 + 1)
  generalize ((μ.set f (feedMO cs (kf + 1))).set f (feedMO cs (kf + 1 + 1))).set f (feedMO cs (kf + 1 + 1 + 1)) = μ3 at *
  refine ⟨by trivial, sub_rowR s3.ho hkm (by omega) ?_⟩
  simp only [ownP]
  refine comp_pure (α := Int) (O k) PV.int (fun x => if !barsL sg v x then some (.int x) else none) rfl (by have := s.own.few k hkm; omega) (fun x hx kk hkk => ?_) ?_
  · dsimp only [vk_nil, vk_cons, vl_nil, vl_cons, vf_nil, vf_cons, vo_none, vo_some, vt_one, vt_more, vi_seq, oo_int, oo_lst, vi_range1, vi_range2, vi_zip, vi_enum, vb_bnot, vb_band, vb_bor, vb_ite, vb_cmp, vb_chain, vb_const, vb_loc, vb_bin, vb_neg, vb_tup, vb_lst, vb_sub, vb_slice, vb_attr, vb_call, vb_bi, vb_meth, ve_dead, ve_const, ve_loc, ve_bin, ve_neg, ve_cmp, ve_band, ve_bor, ve_bnot, ve_ite, ve_tup, ve_lst, ve_dict0, ve_sdict2, ve_sub, ve_slice, ve_attr, ve_call, ve_bi, ve_sortset, ve_append, ve_pop, ve_meth, ve_comp, vs_dead, vs_assign1, vs_assignT, vs_assignA, vs_assignS, vs_expr, vs_ifS, vs_forS, vs_whileS, vs_ret0, vs_ret, setMany, setS, getS, initR, List.replicate, bindT, bindTs, unpackV, List.length_cons, List.length_nil]
    refine c_bars P hsg ?_
    by_cases c : barsL sg v x <;> simpa [c, tv_bool, tv_int, tv_none] using hkk
  rw [filter_map]
  refine newL_lst (by rw [List.length_map]; exact Nat.le_trans (List.length_filter_le _ _) (by have := s.own.few k hkm; omega)) (newL_lst (by simp) ?_)
  rw [ne_lst0]
  cases c : (((O k).filter fun x => !barsL sg v x).map PV.int).isEmpty with
  | true =>
    simp only [Bool.not_true, Bool.false_eq_true, if_false]
    exact hq _ _ _ _ _ _ _ _ _ s3 (by omega) (by omega)
  | false =>
    have hne : ((O k).filter fun x => !barsL sg v x) ≠ [] := fun q => by rw [q] at c; cases c
    simp only [Bool.not_false, if_true]
    refine meth_at s3.hs.hd rfl rfl ?_
    dsimp only [vk_nil, vk_cons, vl_nil, vl_cons, vf_nil, vf_cons, vo_none, vo_some, vt_one, vt_more, vi_seq, oo_int, oo_lst, vi_range1, vi_range2, vi_zip, vi_enum, vb_bnot, vb_band, vb_bor, vb_ite, vb_cmp, vb_chain, vb_const, vb_loc, vb_bin, vb_neg, vb_tup, vb_lst, vb_sub, vb_slice, vb_attr, vb_call, vb_bi, vb_meth, ve_dead, ve_const, ve_loc, ve_bin, ve_neg, ve_cmp, ve_band, ve_bor, ve_bnot, ve_ite, ve_tup, ve_lst, ve_dict0, ve_sdict2, ve_sub, ve_slice, ve_attr, ve_call, ve_bi, ve_sortset, ve_append, ve_pop, ve_meth, ve_comp, vs_dead, vs_assign1, vs_assignT, vs_assignA, vs_assignS, vs_expr, vs_ifS, vs_forS, vs_whileS, vs_ret0, vs_ret, setMany, setS, getS, initR, List.replicate, bindT, bindTs, unpackV, List.length_cons, List.length_nil]
    refine deed_call P s3 T hts hsk hkm hsg hne (K := fun μ' => QS .next (lbase sc f st o e S.d m L N F (some (.int k)) w10 (some (.str sg)) (some (.int v)) (some (.lst (((O k).filter fun x => !barsL sg v x).map .int)))) μ') (fun μ' D' ts' a h1 h2 => hq _ _ _ _ _ _ _ _ _ h2 h1 (by simp)) _ fun μ1 hd hc => ?_
    refine meth_at hd rfl rfl ?_
    dsimp only [vk_nil, vk_cons, vl_nil, vl_cons, vf_nil, vf_cons, vo_none, vo_some, vt_one, vt_more, vi_seq, oo_int, oo_lst, vi_range1, vi_range2, vi_zip, vi_enum, vb_bnot, vb_band, vb_bor, vb_ite, vb_cmp, vb_chain, vb_const, vb_loc, vb_bin, vb_neg, vb_tup, vb_lst, vb_sub, vb_slice, vb_attr, vb_call, vb_bi, vb_meth, ve_dead, ve_const, ve_loc, ve_bin, ve_neg, ve_cmp, ve_band, ve_bor, ve_bnot, ve_ite, ve_tup, ve_lst, ve_dict0, ve_sdict2, ve_sub, ve_slice, ve_attr, ve_call, ve_bi, ve_sortset, ve_append, ve_pop, ve_meth, ve_comp, vs_dead, vs_assign1, vs_assignT, vs_assignA, vs_assignS, vs_expr, vs_ifS, vs_forS, vs_whileS, vs_ret0, vs_ret, setMany, setS, getS, initR, List.replicate, bindT, bindTs, unpackV, List.length_cons, List.length_nil]
    exact hc
inductive LapJ (sc : PV) (f e st d : Addr) (cs : List Int) (m : Nat) (L N : Nat → Int) (lim : Int) (F : Nat → List Int) (i : Nat) (ρ' : Rho) (μ' : Mu) : Prop
  | mk (o : Addr) (S' : SA) (O : Nat → List Int) (D : Nat → Dom) (ts : List Tr) (stk : Stk) (kf' : Nat) (v5 v10 v11 v12 v13 : Option PV) : S'.d = d → ρ' = lbase sc f st o e d m L N F v5 v10 v11 v12 v13 → LS μ' f e st o S' cs kf' m L N lim F O D ts stk → kf' ≤ 1001 + 10 * i → ts.length ≤ i → stk.length ≤ i → LapJ sc f e st d cs m L N lim F i ρ' μ'
theorem lap_end (P : PR Γ) (T : ST cs m L N F) {sc : PV} {d : Addr} {i : Nat} (hi : i < 10) {w5 w10 w11 w12 w13 : Option PV} (hSd : S.d = d) (s : LS μ f e st o S cs kf m L N lim F O D ts stk) (h1 : kf ≤ 1001 + 10 * i + 8) (h2 : ts.length ≤ i + 1) (h3 : stk.length ≤ i + 1) :
    CallT Γ (n + 5) (.ref 466) [.ref f, cObj e, sObj d, .lst (row m (taskP L N)), .lst (row m (firstP F)), .ref o] μ fun p μ₁ => truthV p fun b => if (!b) = true then RetQ Q (.ret (.bool false)) (lbase sc f st o e d m L N F w5 w10 w11 w12 w13) μ₁ else FZ (LapJ sc f e st d cs m L N lim F (i + 1)) (lbase sc f st o e d m L N F w5 w10 w11 w12 w13) μ₁ := by
  subst hSd
  refine now_call P s T (by omega) fun μ₂ s2 => ?_
  simp only [tv_bool, tv_int, tv_none, Bool.not_true, Bool.false_eq_true, if_false]
  exact FZ.done ⟨o, S, O, D, ts, stk, _, _, _, _, _, _, rfl, rfl, s2, by omega, h2, h3⟩
theorem law_7 (P : PR Γ) (s : LS μ f e st o S cs kf m L N lim F O D ts stk) (T : ST cs m L N F) (hk : kf ≤ 1000) (hts : ts.length = 0) (hsk : stk.length = 0) {sc : PV} {w5 w10 w11 w12 w13 : Option PV}
    (hq : ∀ μ', Q (.bool true) μ') :
    vcSs Γ (n + 5) lawT7 (lbase sc f st o e S.d m L N F w5 w10 w11 w12 w13) μ (RetQ Q) := by
  have hb : big = 100000 := rfl
  have m4 := T.m4
  generalize hd : S.d = d
  dsimp only [law_e7, lbase, vk_nil, vk_cons, vl_nil, vl_cons, vf_nil, vf_cons, vo_none, vo_some, vt_one, vt_more, vi_seq, oo_int, oo_lst, vi_range1, vi_range2, vi_zip, vi_enum, vb_bnot, vb_band, vb_bor, vb_ite, vb_cmp, vb_chain, vb_const, vb_loc, vb_bin, vb_neg, vb_tup, vb_lst, vb_sub, vb_slice, vb_attr, vb_call, vb_bi, vb_meth, ve_dead, ve_const, ve_loc, ve_bin, ve_neg, ve_cmp, ve_band, ve_bor, ve_bnot, ve_ite, ve_tup, ve_lst, ve_dict0, ve_sdict2, ve_sub, ve_slice, ve_attr, ve_call, ve_bi, ve_sortset, ve_append, ve_pop, ve_meth, ve_comp, vs_dead, vs_assign1, vs_assignT, vs_assignA, vs_assignS, vs_expr, vs_ifS, vs_forS, vs_whileS, vs_ret0, vs_ret, setMany, setS, getS, initR, List.replicate, bindT, bindTs, unpackV, List.length_cons, List.length_nil]
  refine c_draw P s.hf T.hc (by omega) (by decide) fun r hr0 hr1 => ?_
  have s1 := s.feed (kf + 1)
  generalize μ.set f (feedMO cs (kf + 1)) = μ1 at *
  simp only [bv_add, bv_sub, bv_mul, bv_mod, bv_tup, bv_lst]
  refine ⟨by omega, for_rule (by rw [rangeP_length]; omega) (LapJ sc f e st d cs m L N lim F) ⟨o, S, O, D, ts, stk, kf + 1, _, _, _, _, _, hd, rfl, s1, by omega, by omega, by omega⟩ (fun i x ρ' μ' hx hJ => ?_) fun ρ' μ' hJ => ?_⟩
  · clear s s1 hts hsk hd
    obtain ⟨o, S', O, D, ts, stk, kf', v5, v10, v11, v12, v13, hSd, rfl, s, hkf, htl, hsl⟩ := hJ
    have hi : i < 10 := by
      rw [nth_eq] at hx
      have := (List.getElem?_eq_some_iff.mp hx).1
      rw [rangeP_length] at this
      omega
    subst hSd
    dsimp only [lbase, vk_nil, vk_cons, vl_nil, vl_cons, vf_nil, vf_cons, vo_none, vo_some, vt_one, vt_more, vi_seq, oo_int, oo_lst, vi_range1, vi_range2, vi_zip, vi_enum, vb_bnot, vb_band, vb_bor, vb_ite, vb_cmp, vb_chain, vb_const, vb_loc, vb_bin, vb_neg, vb_tup, vb_lst, vb_sub, vb_slice, vb_attr, vb_call, vb_bi, vb_meth, ve_dead, ve_const, ve_loc, ve_bin, ve_neg, ve_cmp, ve_band, ve_bor, ve_bnot, ve_ite, ve_tup, ve_lst, ve_dict0, ve_sdict2, ve_sub, ve_slice, ve_attr, ve_call, ve_bi, ve_sortset, ve_append, ve_pop, ve_meth, ve_comp, vs_dead, vs_assign1, vs_assignT, vs_assignA, vs_assignS, vs_expr, vs_ifS, vs_forS, vs_whileS, vs_ret0, vs_ret, setMany, setS, getS, initR, List.replicate, bindT, bindTs, unpackV, List.length_cons, List.length_nil]
    refine newL_lst (by simp) ?_
    rw [ne_ref0 s.hst]
    cases stk with
    | nil =>
      simp only [List.reverse_nil, List.map_nil, List.isEmpty_nil, Bool.not_true, Bool.false_eq_true, if_false]
      refine lap_else P s T (by omega) (by omega) (by omega) (sc := sc) (w5 := v5) (w10 := some x) (w11 := v11) (w12 := v12) (w13 := v13) fun μ2 O' D' ts' stk' u5 u11 u12 u13 s2 h1 h2 => ?_
      dsimp only [lbase, vk_nil, vk_cons, vl_nil, vl_cons, vf_nil, vf_cons, vo_none, vo_some, vt_one, vt_more, vi_seq, oo_int, oo_lst, vi_range1, vi_range2, vi_zip, vi_enum, vb_bnot, vb_band, vb_bor, vb_ite, vb_cmp, vb_chain, vb_const, vb_loc, vb_bin, vb_neg, vb_tup, vb_lst, vb_sub, vb_slice, vb_attr, vb_call, vb_bi, vb_meth, ve_dead, ve_const, ve_loc, ve_bin, ve_neg, ve_cmp, ve_band, ve_bor, ve_bnot, ve_ite, ve_tup, ve_lst, ve_dict0, ve_sdict2, ve_sub, ve_slice, ve_attr, ve_call, ve_bi, ve_sortset, ve_append, ve_pop, ve_meth, ve_comp, vs_dead, vs_assign1, vs_assignT, vs_assignA, vs_assignS, vs_expr, vs_ifS, vs_forS, vs_whileS, vs_ret0, vs_ret, setMany, setS, getS, initR, List.replicate, bindT, bindTs, unpackV, List.length_cons, List.length_nil]
      exact lap_end P T hi rfl s2 (by omega) (by omega) (by simp at h2 ⊢; omega)
    | cons y r =>
      have he : (List.map (fun x => PV.ref x.1) (y :: r).reverse).isEmpty = false := by
        cases q : List.map (fun x => PV.ref x.1) (y :: r).reverse with
        | nil => simp at q
        | cons _ _ => rfl
      rw [he]
      simp only [Bool.not_false, if_true]
      refine c_draw P s.hf T.hc (by omega) (by decide) fun q hq0 hq1 => ?_
      have s1 := s.feed (kf' + 1)
      generalize μ'.set f (feedMO cs (kf' + 1)) = μ1 at *
      rw [cmp_eqI, beq_dec]
      have hsl' : r.length + 1 ≤ i := hsl
      by_cases c : q = 3
      · rw [decide_eq_true c, if_pos rfl]
        refine meth_at s1.hs.hd rfl rfl ?_
        dsimp only [vk_nil, vk_cons, vl_nil, vl_cons, vf_nil, vf_cons, vo_none, vo_some, vt_one, vt_more, vi_seq, oo_int, oo_lst, vi_range1, vi_range2, vi_zip, vi_enum, vb_bnot, vb_band, vb_bor, vb_ite, vb_cmp, vb_chain, vb_const, vb_loc, vb_bin, vb_neg, vb_tup, vb_lst, vb_sub, vb_slice, vb_attr, vb_call, vb_bi, vb_meth, ve_dead, ve_const, ve_loc, ve_bin, ve_neg, ve_cmp, ve_band, ve_bor, ve_bnot, ve_ite, ve_tup, ve_lst, ve_dict0, ve_sdict2, ve_sub, ve_slice, ve_attr, ve_call, ve_bi, ve_sortset, ve_append, ve_pop, ve_meth, ve_comp, vs_dead, vs_assign1, vs_assignT, vs_assignA, vs_assignS, vs_expr, vs_ifS, vs_forS, vs_whileS, vs_ret0, vs_ret, setMany, setS, getS, initR, List.replicate, bindT, bindTs, unpackV, List.length_cons, List.length_nil]
        refine pop_call P s1 T (by omega) (by omega) fun μ2 S2 D0 ts' hSd2 htl2 hst2 s2 => ?_
        refine pop_at hst2 (by simp; omega) ?_
        exact lap_end P T hi hSd2 s2 (by omega) (by omega) (by omega)
      · rw [decide_eq_false c]
        simp only [Bool.false_eq_true, if_false]
        refine lap_else P s1 T (by omega) (by omega) (by omega) (sc := sc) (w5 := v5) (w10 := some x) (w11 := v11) (w12 := v12) (w13 := v13) fun μ2 O' D' ts' stk' u5 u11 u12 u13 s2 h1 h2 => ?_
        dsimp only [lbase, vk_nil, vk_cons, vl_nil, vl_cons, vf_nil, vf_cons, vo_none, vo_some, vt_one, vt_more, vi_seq, oo_int, oo_lst, vi_range1, vi_range2, vi_zip, vi_enum, vb_bnot, vb_band, vb_bor, vb_ite, vb_cmp, vb_chain, vb_const, vb_loc, vb_bin, vb_neg, vb_tup, vb_lst, vb_sub, vb_slice, vb_attr, vb_call, vb_bi, vb_meth, ve_dead, ve_const, ve_loc, ve_bin, ve_neg, ve_cmp, ve_band, ve_bor, ve_bnot, ve_ite, ve_tup, ve_lst, ve_dict0, ve_sdict2, ve_sub, ve_slice, ve_attr, ve_call, ve_bi, ve_sortset, ve_append, ve_pop, ve_meth, ve_comp, vs_dead, vs_assign1, vs_assignT, vs_assignA, vs_assignS, vs_expr, vs_ifS, vs_forS, vs_whileS, vs_ret0, vs_ret, setMany, setS, getS, initR, List.replicate, bindT, bindTs, unpackV, List.length_cons, List.length_nil]
        exact lap_end P T hi rfl s2 (by omega) (by omega) (by omega)
  · obtain ⟨o, S', O, D, ts, stk, kf', v5, v10, v11, v12, v13, hSd, rfl, s, hkf, htl, hsl⟩ := hJ
    dsimp only [lbase, vk_nil, vk_cons, vl_nil, vl_cons, vf_nil, vf_cons, vo_none, vo_some, vt_one, vt_more, vi_seq, oo_int, oo_lst, vi_range1, vi_range2, vi_zip, vi_enum, vb_bnot, vb_band, vb_bor, vb_ite, vb_cmp, vb_chain, vb_const, vb_loc, vb_bin, vb_neg, vb_tup, vb_lst, vb_sub, vb_slice, vb_attr, vb_call, vb_bi, vb_meth, ve_dead, ve_const, ve_loc, ve_bin, ve_neg, ve_cmp, ve_band, ve_bor, ve_bnot, ve_ite, ve_tup, ve_lst, ve_dict0, ve_sdict2, ve_sub, ve_slice, ve_attr, ve_call, ve_bi, ve_sortset, ve_append, ve_pop, ve_meth, ve_comp, vs_dead, vs_assign1, vs_assignT, vs_assignA, vs_assignS, vs_expr, vs_ifS, vs_forS, vs_whileS, vs_ret0, vs_ret, setMany, setS, getS, initR, List.replicate, bindT, bindTs, unpackV, List.length_cons, List.length_nil]
    exact ret_done (hq _)
end
end Mine

open PySem PySem.Calls PyProof.Rows PySem.W
set_option maxRecDepth 100000
set_option linter.unusedVariables false
set_option linter.unusedSimpArgs false
set_option backward.match.sparseCases false
namespace Mine
section
variable {Γ : Gl} {n : Nat} {μ : Mu} {Q : PV → Mu → Prop} {QS : FP → Rho → Mu → Prop}
theorem c_store_new (W : PW Γ) (h : ∀ μ' S, StoreAt μ' S [] [] [] [] → (∀ b, μ b ≠ none → μ' b = μ b) → (∀ a ∈ [S.d, S.dm, S.fr, S.tr, S.ms, S.nw], μ a = none) → Q (sObj S.d) μ') : CallT Γ (n + 2) (.ref 287) [] μ Q := by
  refine callT_new W.mS W.iS W.tS fun d hd => ?_
  refine c_store_init W.toPR Mu.set_self fun μ' S hS hs fr hn => ⟨rfl, ?_⟩
  subst hS
  have ne : ∀ a, (μ.set S.d (.attrs [])) a = none → μ a = none := fun a ha => by
    by_cases q : a = S.d
    · subst q; rw [Mu.set_self] at ha; cases ha
    · rwa [Mu.set_ne q] at ha
  refine h μ' S hs (fun b hb => ?_) fun a ha => ?_
  · have hb' : b ≠ S.d := fun q => hb (q ▸ hd)
    rw [fr b hb' (by rw [Mu.set_ne hb']; exact hb), Mu.set_ne hb']
  · rcases List.mem_cons.mp ha with rfl | ha
    · exact hd
    · exact ne a (hn a ha)
theorem c_cum_new (W : PW Γ) {m : Nat} {L N : Nat → Int} {lim : Int} (hm : m ≤ 20) (hL : ∀ k, k < m → 0 ≤ L k) (hN : ∀ k, k < m → 0 ≤ N k) (hl : 0 ≤ lim) (h : ∀ d, μ d = none → Q (cObj d) (μ.set d (.attrs (cAttrs m L N lim)))) :
    CallT Γ (n + 4) (.ref 425) [.lst (row m pN), .lst (row m fun k => .int (L k)), .lst (row m fun k => .int (N k)), .int lim] μ Q := by
  refine callT_new W.mC W.iC W.tC fun d hd => ?_
  refine W.c356 n _ _ d m L N lim Mu.set_self hm hL hN hl ⟨rfl, ?_⟩
  rw [Mu.set_set]
  exact h d hd
noncomputable def law0 : MS := .assign1 1 (.sdict2 "cells" (.comp (.bin .Mod (.loc 1) (.const (.int 1000003))) (.one 1) (.seq (.slice (.loc 0) none (some (.const (.int 60))))) [] [none, none]) "at" (.const (.int 0)))
noncomputable def law1 : MS := .assignT [.one 2, .one 3, .one 4] (.tup [.bin .Add (.const (.int 2)) (.call (.ref 434) [.loc 1, .const (.int 3)]), .call (.ref 287) [], .lst []])
noncomputable def law2 : MS := .assign1 6 (.comp (.call (.ref 446) [.loc 3]) (.one 1) (.range1 (.loc 2)) [] [none, none, none, some 1])
noncomputable def law3 : MS := .assign1 7 (.comp (.tup [.call (.ref 434) [.loc 3, .const (.int 6)], .call (.ref 434) [.loc 3, .const (.int 4)]]) (.one 1) (.range1 (.loc 2)) [] [none, none, none, some 1])
noncomputable def law4 : MS := .assign1 8 (.call (.ref 425) [.comp (.meth (.loc 3) 0 [.call (.ref 64) [.loc 1]]) (.one 1) (.seq (.loc 6)) [] [none, none, none, some 3], .comp (.loc 1) (.many [.one 1, .one 2]) (.seq (.loc 7)) [] [none, none, none], .comp (.loc 2) (.many [.one 1, .one 2]) (.seq (.loc 7)) [] [none, none, none], .call (.ref 434) [.loc 1, .const (.int 6)]])
noncomputable def law5 : MS := .assign1 9 (.bi .list [.loc 6])
theorem law_all : m_law = law0 :: law1 :: law2 :: law3 :: law4 :: law5 :: lawT6 := rfl
section
variable {script cs : List Int} {ss : List MS} {f st : Addr} {S : SA} {m kf : Nat} {L N : Nat → Int} {F : Nat → List Int} {sc p3 p4 p6 p7 p8 : PV}
theorem law_c0 (hl : script.length ≤ 1000) (h : ∀ cs f, cs.length ≤ 60 → μ f = none → vcSs Γ (n + 5) ss [some (.lst (script.map .int)), some (.ref f), none, none, none, none, none, none, none, none, none, none, none, none, none, none, none, none, none, none] (μ.set f (feedMO cs 0)) QS) :
    vcSs Γ (n + 5) (law0 :: ss) [some (.lst (script.map .int)), none, none, none, none, none, none, none, none, none, none, none, none, none, none, none, none, none, none, none] μ QS := by
  have hb : big = 100000 := rfl
  dsimp only [law0, vk_nil, vk_cons, vl_nil, vl_cons, vf_nil, vf_cons, vo_none, vo_some, vt_one, vt_more, vi_seq, oo_int, oo_lst, vi_range1, vi_range2, vi_zip, vi_enum, vb_bnot, vb_band, vb_bor, vb_ite, vb_cmp, vb_chain, vb_const, vb_loc, vb_bin, vb_neg, vb_tup, vb_lst, vb_sub, vb_slice, vb_attr, vb_call, vb_bi, vb_meth, ve_dead, ve_const, ve_loc, ve_bin, ve_neg, ve_cmp, ve_band, ve_bor, ve_bnot, ve_ite, ve_tup, ve_lst, ve_dict0, ve_sdict2, ve_sub, ve_slice, ve_attr, ve_call, ve_bi, ve_sortset, ve_append, ve_pop, ve_meth, ve_comp, vs_dead, vs_assign1, vs_assignT, vs_assignA, vs_assignS, vs_expr, vs_ifS, vs_forS, vs_whileS, vs_ret0, vs_ret, setMany, setS, getS, initR, List.replicate, bindT, bindTs, unpackV, List.length_cons, List.length_nil]
  have sl : ∀ K : PV → Mu → Prop, newL ((script.map PV.int).take 60) μ K → sliceV (.lst (script.map PV.int)) none (some (.int 60)) μ K := fun K h => .hi rfl (by rw [List.length_map]; omega) (by omega) h
  refine sl _ (newL_lst (by rw [List.length_take]; omega) ?_)
  refine comp_pure (α := Int) (script.take 60) PV.int (fun i => some (.int (i.fmod 1000003))) (by rw [List.map_take]) (by rw [List.length_take]; omega) (fun i hi kk hkk => ?_) ?_
  · dsimp only [vk_nil, vk_cons, vl_nil, vl_cons, vf_nil, vf_cons, vo_none, vo_some, vt_one, vt_more, vi_seq, oo_int, oo_lst, vi_range1, vi_range2, vi_zip, vi_enum, vb_bnot, vb_band, vb_bor, vb_ite, vb_cmp, vb_chain, vb_const, vb_loc, vb_bin, vb_neg, vb_tup, vb_lst, vb_sub, vb_slice, vb_attr, vb_call, vb_bi, vb_meth, ve_dead, ve_const, ve_loc, ve_bin, ve_neg, ve_cmp, ve_band, ve_bor, ve_bnot, ve_ite, ve_tup, ve_lst, ve_dict0, ve_sdict2, ve_sub, ve_slice, ve_attr, ve_call, ve_bi, ve_sortset, ve_append, ve_pop, ve_meth, ve_comp, vs_dead, vs_assign1, vs_assignT, vs_assignA, vs_assignS, vs_expr, vs_ifS, vs_forS, vs_whileS, vs_ret0, vs_ret, setMany, setS, getS, initR, List.replicate, bindT, bindTs, unpackV, List.length_cons, List.length_nil, bv_add, bv_sub, bv_mul, bv_mod, bv_tup, bv_lst]
    exact ⟨by decide, hkk⟩
  rw [List.filterMap_eq_map']
  have ecs : (script.take 60).map (fun i => PV.int (i.fmod 1000003)) = ((script.take 60).map fun i => i.fmod 1000003).map PV.int := by simp [Function.comp_def]
  rw [ecs]
  have hcl : ((script.take 60).map fun i => i.fmod 1000003).length ≤ 60 := by rw [List.length_map, List.length_take]; omega
  exact newL_lst (by rw [List.length_map]; omega) fun f hf0 => h _ f hcl hf0
theorem law_c1 (W : PW Γ) (hf : μ f = some (feedMO cs 0)) (hcl : cs.length ≤ 60)
    (h : ∀ (m : Nat) S st μ', 2 ≤ m → m ≤ 4 → StoreAt μ' S [] [] [] [] → μ' f = some (feedMO cs 1) → μ' st = some (.list []) → (st ≠ S.dm ∧ st ≠ S.fr ∧ st ≠ S.tr ∧ st ≠ S.ms) → vcSs Γ (n + 5) ss [some sc, some (.ref f), some (.int m), some (sObj S.d), some (.ref st), none, none, none, none, none, none, none, none, none, none, none, none, none, none, none] μ' QS) :
    vcSs Γ (n + 5) (law1 :: ss) [some sc, some (.ref f), none, none, none, none, none, none, none, none, none, none, none, none, none, none, none, none, none, none] μ QS := by
  dsimp only [law1, vk_nil, vk_cons, vl_nil, vl_cons, vf_nil, vf_cons, vo_none, vo_some, vt_one, vt_more, vi_seq, oo_int, oo_lst, vi_range1, vi_range2, vi_zip, vi_enum, vb_bnot, vb_band, vb_bor, vb_ite, vb_cmp, vb_chain, vb_const, vb_loc, vb_bin, vb_neg, vb_tup, vb_lst, vb_sub, vb_slice, vb_attr, vb_call, vb_bi, vb_meth, ve_dead, ve_const, ve_loc, ve_bin, ve_neg, ve_cmp, ve_band, ve_bor, ve_bnot, ve_ite, ve_tup, ve_lst, ve_dict0, ve_sdict2, ve_sub, ve_slice, ve_attr, ve_call, ve_bi, ve_sortset, ve_append, ve_pop, ve_meth, ve_comp, vs_dead, vs_assign1, vs_assignT, vs_assignA, vs_assignS, vs_expr, vs_ifS, vs_forS, vs_whileS, vs_ret0, vs_ret, setMany, setS, getS, initR, List.replicate, bindT, bindTs, unpackV, List.length_cons, List.length_nil]
  refine c_draw W.toPR hf hcl (by omega) (by decide) fun r hr0 hr1 => ?_
  have hf1 : (μ.set f (feedMO cs (0 + 1))) f = some (feedMO cs 1) := Mu.set_self
  generalize μ.set f (feedMO cs (0 + 1)) = μ1 at *
  simp only [bv_add, bv_sub, bv_mul, bv_mod, bv_tup, bv_lst]
  obtain ⟨m, hm⟩ : ∃ m : Nat, 2 + r = m := ⟨(2 + r).toNat, by omega⟩
  rw [hm]
  refine c_store_new W fun μ2 S hs fr _ => ?_
  have hf2 : μ2 f = some (feedMO cs 1) := by rw [fr f (by rw [hf1]; simp)]; exact hf1
  refine newL_ref (by simp) fun st hst0 => ?_
  have fst : f ≠ st := fun q => by subst q; rw [hf2] at hst0; cases hst0
  have nk : ∀ {b o}, μ2 b = some o → st ≠ b := fun h q => by rw [← q, hst0] at h; cases h
  exact ⟨trivial, h m S st _ (by omega) (by omega) (store_set (o := .list []) hs hst0) (by rw [Mu.set_ne fst]; exact hf2) Mu.set_self ⟨nk hs.hdm, nk hs.hfr, nk hs.htr, nk hs.hmk⟩⟩
theorem law_c2 (W : PW Γ) (hf : μ f = some (feedMO cs 1)) (hcl : cs.length ≤ 60) (m2 : 2 ≤ m) (m4 : m ≤ 4)
    (h : ∀ F, (∀ k, k < m → StartsOk (F k)) → vcSs Γ (n + 5) ss [some sc, some (.ref f), some (.int m), some p3, some p4, none, some (.lst (row m (firstP F))), none, none, none, none, none, none, none, none, none, none, none, none, none] (μ.set f (feedMO cs (1 + 6 * m))) QS) :
    vcSs Γ (n + 5) (law2 :: ss) [some sc, some (.ref f), some (.int m), some p3, some p4, none, none, none, none, none, none, none, none, none, none, none, none, none, none, none] μ QS := by
  have hb : big = 100000 := rfl
  dsimp only [law2, vk_nil, vk_cons, vl_nil, vl_cons, vf_nil, vf_cons, vo_none, vo_some, vt_one, vt_more, vi_seq, oo_int, oo_lst, vi_range1, vi_range2, vi_zip, vi_enum, vb_bnot, vb_band, vb_bor, vb_ite, vb_cmp, vb_chain, vb_const, vb_loc, vb_bin, vb_neg, vb_tup, vb_lst, vb_sub, vb_slice, vb_attr, vb_call, vb_bi, vb_meth, ve_dead, ve_const, ve_loc, ve_bin, ve_neg, ve_cmp, ve_band, ve_bor, ve_bnot, ve_ite, ve_tup, ve_lst, ve_dict0, ve_sdict2, ve_sub, ve_slice, ve_attr, ve_call, ve_bi, ve_sortset, ve_append, ve_pop, ve_meth, ve_comp, vs_dead, vs_assign1, vs_assignT, vs_assignA, vs_assignS, vs_expr, vs_ifS, vs_forS, vs_whileS, vs_ret0, vs_ret, setMany, setS, getS, initR, List.replicate, bindT, bindTs, unpackV, List.length_cons, List.length_nil]
  have same : μ.set f (feedMO cs 1) = μ := by
    funext b
    by_cases q : b = f
    · subst q; rw [Mu.set_self, hf]
    · rw [Mu.set_ne q]
  refine ⟨by omega, ?_⟩
  rw [Int.toNat_natCast, rangeP_row]
  refine comp_rule (by rw [row_len]; omega) (fun i acc μ' => ∃ G : List (List Int), acc = G.map (fun l => PV.lst (l.map .int)) ∧ G.length = i ∧ (∀ l ∈ G, StartsOk l) ∧ μ' = μ.set f (feedMO cs (1 + 6 * i))) (⟨[], rfl, rfl, by simp, same.symm⟩) (fun i x acc μ' hx hJ => ?_) fun acc μ' hJ => ?_
  · obtain ⟨G, rfl, hG, hok, rfl⟩ := hJ
    have hi : i < m := by
      rw [nth_eq] at hx
      have := (List.getElem?_eq_some_iff.mp hx).1
      rwa [row_len] at this
    dsimp only [vk_nil, vk_cons, vl_nil, vl_cons, vf_nil, vf_cons, vo_none, vo_some, vt_one, vt_more, vi_seq, oo_int, oo_lst, vi_range1, vi_range2, vi_zip, vi_enum, vb_bnot, vb_band, vb_bor, vb_ite, vb_cmp, vb_chain, vb_const, vb_loc, vb_bin, vb_neg, vb_tup, vb_lst, vb_sub, vb_slice, vb_attr, vb_call, vb_bi, vb_meth, ve_dead, ve_const, ve_loc, ve_bin, ve_neg, ve_cmp, ve_band, ve_bor, ve_bnot, ve_ite, ve_tup, ve_lst, ve_dict0, ve_sdict2, ve_sub, ve_slice, ve_attr, ve_call, ve_bi, ve_sortset, ve_append, ve_pop, ve_meth, ve_comp, vs_dead, vs_assign1, vs_assignT, vs_assignA, vs_assignS, vs_expr, vs_ifS, vs_forS, vs_whileS, vs_ret0, vs_ret, setMany, setS, getS, initR, List.replicate, bindT, bindTs, unpackV, List.length_cons, List.length_nil]
    refine c_starts W.toPR Mu.set_self hcl (by omega) fun l hl => ?_
    refine ⟨G ++ [l], by simp, by simp [hG], fun x hx => ?_, by rw [Mu.set_set]; congr 2⟩
    rcases List.mem_append.mp hx with q | q
    · exact hok x q
    · rw [List.mem_singleton.mp q]; exact hl
  obtain ⟨G, rfl, hG, hok, rfl⟩ := hJ
  rw [row_len] at hG ⊢
  refine newL_lst (by rw [List.length_map]; omega) ?_
  have hFm : G.map (fun l => PV.lst (l.map .int)) = row m (firstP fun k => G.getD k []) := by
    apply List.ext_getElem
    · simp [row, hG]
    · intro k h1 h2
      have hk : k < G.length := by simpa using h1
      simp [row, firstP, List.getD_eq_getElem?_getD, List.getElem?_eq_getElem hk]
  rw [hFm]
  refine h _ fun k hk => hok _ ?_
  rw [List.getD_eq_getElem?_getD, List.getElem?_eq_getElem (by omega)]
  exact List.getElem_mem _
theorem law_c3 (W : PW Γ) {k0 : Nat} (hk0 : k0 ≤ 900) (hf : μ f = some (feedMO cs k0)) (hcl : cs.length ≤ 60) (m4 : m ≤ 4)
    (h : ∀ L N : Nat → Int, (∀ k, k < m → 0 ≤ L k ∧ L k ≤ 5) → (∀ k, k < m → 0 ≤ N k ∧ N k ≤ 3) → vcSs Γ (n + 5) ss [some sc, some (.ref f), some (.int m), some p3, some p4, none, some p6, some (.lst (row m (taskP L N))), none, none, none, none, none, none, none, none, none, none, none, none] (μ.set f (feedMO cs (k0 + 2 * m))) QS) :
    vcSs Γ (n + 5) (law3 :: ss) [some sc, some (.ref f), some (.int m), some p3, some p4, none, some p6, none, none, none, none, none, none, none, none, none, none, none, none, none] μ QS := by
  have hb : big = 100000 := rfl
  dsimp only [law3, vk_nil, vk_cons, vl_nil, vl_cons, vf_nil, vf_cons, vo_none, vo_some, vt_one, vt_more, vi_seq, oo_int, oo_lst, vi_range1, vi_range2, vi_zip, vi_enum, vb_bnot, vb_band, vb_bor, vb_ite, vb_cmp, vb_chain, vb_const, vb_loc, vb_bin, vb_neg, vb_tup, vb_lst, vb_sub, vb_slice, vb_attr, vb_call, vb_bi, vb_meth, ve_dead, ve_const, ve_loc, ve_bin, ve_neg, ve_cmp, ve_band, ve_bor, ve_bnot, ve_ite, ve_tup, ve_lst, ve_dict0, ve_sdict2, ve_sub, ve_slice, ve_attr, ve_call, ve_bi, ve_sortset, ve_append, ve_pop, ve_meth, ve_comp, vs_dead, vs_assign1, vs_assignT, vs_assignA, vs_assignS, vs_expr, vs_ifS, vs_forS, vs_whileS, vs_ret0, vs_ret, setMany, setS, getS, initR, List.replicate, bindT, bindTs, unpackV, List.length_cons, List.length_nil]
  have same : μ.set f (feedMO cs k0) = μ := by
    funext b
    by_cases q : b = f
    · subst q; rw [Mu.set_self, hf]
    · rw [Mu.set_ne q]
  refine ⟨by omega, ?_⟩
  rw [Int.toNat_natCast, rangeP_row]
  refine comp_rule (by rw [row_len]; omega) (fun i acc μ' => ∃ G : List (Int × Int), acc = G.map (fun p => PV.tup [.int p.1, .int p.2]) ∧ G.length = i ∧ (∀ p ∈ G, (0 ≤ p.1 ∧ p.1 ≤ 5) ∧ 0 ≤ p.2 ∧ p.2 ≤ 3) ∧ μ' = μ.set f (feedMO cs (k0 + 2 * i))) (⟨[], rfl, rfl, by simp, same.symm⟩) (fun i x acc μ' hx hJ => ?_) fun acc μ' hJ => ?_
  · obtain ⟨G, rfl, hG, hok, rfl⟩ := hJ
    have hi : i < m := by
      rw [nth_eq] at hx
      have := (List.getElem?_eq_some_iff.mp hx).1
      rwa [row_len] at this
    dsimp only [vk_nil, vk_cons, vl_nil, vl_cons, vf_nil, vf_cons, vo_none, vo_some, vt_one, vt_more, vi_seq, oo_int, oo_lst, vi_range1, vi_range2, vi_zip, vi_enum, vb_bnot, vb_band, vb_bor, vb_ite, vb_cmp, vb_chain, vb_const, vb_loc, vb_bin, vb_neg, vb_tup, vb_lst, vb_sub, vb_slice, vb_attr, vb_call, vb_bi, vb_meth, ve_dead, ve_const, ve_loc, ve_bin, ve_neg, ve_cmp, ve_band, ve_bor, ve_bnot, ve_ite, ve_tup, ve_lst, ve_dict0, ve_sdict2, ve_sub, ve_slice, ve_attr, ve_call, ve_bi, ve_sortset, ve_append, ve_pop, ve_meth, ve_comp, vs_dead, vs_assign1, vs_assignT, vs_assignA, vs_assignS, vs_expr, vs_ifS, vs_forS, vs_whileS, vs_ret0, vs_ret, setMany, setS, getS, initR, List.replicate, bindT, bindTs, unpackV, List.length_cons, List.length_nil]
    refine c_draw W.toPR Mu.set_self hcl (by omega) (by decide) fun a ha0 ha1 => ?_
    refine c_draw W.toPR Mu.set_self hcl (by omega) (by decide) fun b hb0 hb1 => ?_
    refine ⟨G ++ [(a, b)], by simp, by simp [hG], fun x hx => ?_, by rw [Mu.set_set, Mu.set_set]; congr 2⟩
    rcases List.mem_append.mp hx with q | q
    · exact hok x q
    · rw [List.mem_singleton.mp q]; dsimp only; omega
  obtain ⟨G, rfl, hG, hok, rfl⟩ := hJ
  rw [row_len] at hG ⊢
  refine newL_lst (by rw [List.length_map]; omega) ?_
  have eG : G.map (fun p => PV.tup [.int p.1, .int p.2]) = row m (taskP (fun k => (G.getD k (0, 0)).1) fun k => (G.getD k (0, 0)).2) := by
    apply List.ext_getElem
    · simp [row, hG]
    · intro k h1 h2
      have hk : k < G.length := by simpa using h1
      simp [row, taskP, List.getD_eq_getElem?_getD, List.getElem?_eq_getElem hk]
  rw [eG]
  have mem : ∀ k, k < m → G.getD k (0, 0) ∈ G := fun k hk => by
    rw [List.getD_eq_getElem?_getD, List.getElem?_eq_getElem (by omega)]; exact List.getElem_mem _
  exact h _ _ (fun k hk => (hok _ (mem k hk)).1) fun k hk => (hok _ (mem k hk)).2
theorem store_move {A B : List PV} {x : MO} (hs : StoreAt μ S A B [] []) {k : Nat} (hf : μ f = some (feedMO cs k)) : StoreAt (μ.set f x) S A B [] [] := by
  obtain ⟨es, e1, e2⟩ := hs.hnw
  exact { hs with
    hd := by rw [Mu.set_ne (ne_of hs.hd hf (by simp [feedMO]))]; exact hs.hd
    hdm := by rw [Mu.set_ne (ne_of hs.hdm hf (by simp [feedMO]))]; exact hs.hdm
    hfr := by rw [Mu.set_ne (ne_of hs.hfr hf (by simp [feedMO]))]; exact hs.hfr
    htr := by rw [Mu.set_ne (ne_of hs.htr hf (by simp [feedMO]))]; exact hs.htr
    hmk := by rw [Mu.set_ne (ne_of hs.hmk hf (by simp [feedMO]))]; exact hs.hmk
    hnw := ⟨es, by rw [Mu.set_ne (ne_of e1 hf (by simp [feedMO]))]; exact e1, e2⟩ }
theorem law_c4 (W : PW Γ) (T : ST cs m L N F) (hs : StoreAt μ S [] [] [] []) (hf : μ f = some (feedMO cs kf)) (hst : μ st = some (.list [])) (hsep : st ≠ S.dm ∧ st ≠ S.fr ∧ st ≠ S.tr ∧ st ≠ S.ms) (hkf : kf ≤ 100)
    (h : ∀ lim e μ', StoreAt μ' S (row m fun k => dP (fromVals (F k))) (row m fun k => dP (fromVals (F k))) [] [] → μ' f = some (feedMO cs (kf + 1)) → μ' st = some (.list []) → CumAt μ' e m L N lim → vcSs Γ (n + 5) ss [some sc, some (.ref f), some p3, some (sObj S.d), some p4, none, some (.lst (row m (firstP F))), some (.lst (row m (taskP L N))), some (cObj e), none, none, none, none, none, none, none, none, none, none, none] μ' QS) :
    vcSs Γ (n + 5) (law4 :: ss) [some sc, some (.ref f), some p3, some (sObj S.d), some p4, none, some (.lst (row m (firstP F))), some (.lst (row m (taskP L N))), none, none, none, none, none, none, none, none, none, none, none, none] μ QS := by
  have hb : big = 100000 := rfl
  have hF := T.hF
  have m4 := T.m4
  have fs : f ≠ S.dm ∧ f ≠ S.fr := ⟨ne_of hf hs.hdm (by simp [feedMO]), ne_of hf hs.hfr (by simp [feedMO])⟩
  dsimp only [law4, vk_nil, vk_cons, vl_nil, vl_cons, vf_nil, vf_cons, vo_none, vo_some, vt_one, vt_more, vi_seq, oo_int, oo_lst, vi_range1, vi_range2, vi_zip, vi_enum, vb_bnot, vb_band, vb_bor, vb_ite, vb_cmp, vb_chain, vb_const, vb_loc, vb_bin, vb_neg, vb_tup, vb_lst, vb_sub, vb_slice, vb_attr, vb_call, vb_bi, vb_meth, ve_dead, ve_const, ve_loc, ve_bin, ve_neg, ve_cmp, ve_band, ve_bor, ve_bnot, ve_ite, ve_tup, ve_lst, ve_dict0, ve_sdict2, ve_sub, ve_slice, ve_attr, ve_call, ve_bi, ve_sortset, ve_append, ve_pop, ve_meth, ve_comp, vs_dead, vs_assign1, vs_assignT, vs_assignA, vs_assignS, vs_expr, vs_ifS, vs_forS, vs_whileS, vs_ret0, vs_ret, setMany, setS, getS, initR, List.replicate, bindT, bindTs, unpackV, List.length_cons, List.length_nil]
  refine comp_rule (by rw [row_len]; omega) (fun i acc μ' => acc = row i pN ∧ StoreAt μ' S (row i fun k => dP (fromVals (F k))) (row i fun k => dP (fromVals (F k))) [] [] ∧ ∀ b, b ≠ S.dm → b ≠ S.fr → μ' b = μ b) (⟨rfl, hs, fun _ _ _ => rfl⟩) (fun i x acc μ' hx hJ => ?_) fun acc μ' hJ => ?_
  · clear h hs hf hst
    obtain ⟨rfl, hs, fr⟩ := hJ
    rw [nth_eq] at hx
    have hi : i < m := by
      have := (List.getElem?_eq_some_iff.mp hx).1
      rwa [row_len] at this
    rw [row_at hi] at hx
    cases hx
    dsimp only [vk_nil, vk_cons, vl_nil, vl_cons, vf_nil, vf_cons, vo_none, vo_some, vt_one, vt_more, vi_seq, oo_int, oo_lst, vi_range1, vi_range2, vi_zip, vi_enum, vb_bnot, vb_band, vb_bor, vb_ite, vb_cmp, vb_chain, vb_const, vb_loc, vb_bin, vb_neg, vb_tup, vb_lst, vb_sub, vb_slice, vb_attr, vb_call, vb_bi, vb_meth, ve_dead, ve_const, ve_loc, ve_bin, ve_neg, ve_cmp, ve_band, ve_bor, ve_bnot, ve_ite, ve_tup, ve_lst, ve_dict0, ve_sdict2, ve_sub, ve_slice, ve_attr, ve_call, ve_bi, ve_sortset, ve_append, ve_pop, ve_meth, ve_comp, vs_dead, vs_assign1, vs_assignT, vs_assignA, vs_assignS, vs_expr, vs_ifS, vs_forS, vs_whileS, vs_ret0, vs_ret, setMany, setS, getS, initR, List.replicate, bindT, bindTs, unpackV, List.length_cons, List.length_nil]
    have hFi := hF i hi
    have rs : ∀ g : Nat → PV, row i g ++ [g i] = row (i + 1) g := fun g => by simp [row, List.range_succ]
    rw [if_pos rfl]
    refine meth_at hs.hd rfl rfl ?_
    dsimp only [vk_nil, vk_cons, vl_nil, vl_cons, vf_nil, vf_cons, vo_none, vo_some, vt_one, vt_more, vi_seq, oo_int, oo_lst, vi_range1, vi_range2, vi_zip, vi_enum, vb_bnot, vb_band, vb_bor, vb_ite, vb_cmp, vb_chain, vb_const, vb_loc, vb_bin, vb_neg, vb_tup, vb_lst, vb_sub, vb_slice, vb_attr, vb_call, vb_bi, vb_meth, ve_dead, ve_const, ve_loc, ve_bin, ve_neg, ve_cmp, ve_band, ve_bor, ve_bnot, ve_ite, ve_tup, ve_lst, ve_dict0, ve_sdict2, ve_sub, ve_slice, ve_attr, ve_call, ve_bi, ve_sortset, ve_append, ve_pop, ve_meth, ve_comp, vs_dead, vs_assign1, vs_assignT, vs_assignA, vs_assignS, vs_expr, vs_ifS, vs_forS, vs_whileS, vs_ret0, vs_ret, setMany, setS, getS, initR, List.replicate, bindT, bindTs, unpackV, List.length_cons, List.length_nil]
    refine c_from_values W.toPR (ns := F i) (by have := hFi.few; omega) ?_
    refine c_new_var W.toPR hs ((Repr.vals hFi.rise).ne hFi.ne) (by rw [row_len]; omega) (by rw [row_len]; omega) fun μ5 hs5 fr5 => ?_
    refine ⟨?_, ?_, fun b b1 b2 => by rw [fr5 b b1 b2, fr b b1 b2]⟩
    · rw [row_len]; exact rs pN
    · rw [rs (fun k => dP (fromVals (F k)))] at hs5
      exact hs5
  clear hs
  obtain ⟨rfl, hs, fr⟩ := hJ
  rw [row_len] at hs ⊢
  have hf5 : μ' f = some (feedMO cs kf) := by rw [fr f fs.1 fs.2]; exact hf
  have hst5 : μ' st = some (.list []) := by rw [fr st hsep.1 hsep.2.1]; exact hst
  refine newL_lst (by rw [row_len]; omega) ?_
  have lp : ∀ (g : Nat → Int) (K : PV → Mu → Prop), K (.lst (row m fun k => .int (g k))) μ' → newL ((List.range m).filterMap fun k => some (PV.int (g k))) μ' K := fun g K h => by
    rw [List.filterMap_eq_map']
    exact newL_lst (by simp; omega) h
  refine comp_pure (α := Nat) (List.range m) (taskP L N) (fun k => some (.int (L k))) rfl (by simp; omega) (fun k hk kk hkk => ?_) (lp L _ ?_)
  · dsimp only [taskP, vk_nil, vk_cons, vl_nil, vl_cons, vf_nil, vf_cons, vo_none, vo_some, vt_one, vt_more, vi_seq, oo_int, oo_lst, vi_range1, vi_range2, vi_zip, vi_enum, vb_bnot, vb_band, vb_bor, vb_ite, vb_cmp, vb_chain, vb_const, vb_loc, vb_bin, vb_neg, vb_tup, vb_lst, vb_sub, vb_slice, vb_attr, vb_call, vb_bi, vb_meth, ve_dead, ve_const, ve_loc, ve_bin, ve_neg, ve_cmp, ve_band, ve_bor, ve_bnot, ve_ite, ve_tup, ve_lst, ve_dict0, ve_sdict2, ve_sub, ve_slice, ve_attr, ve_call, ve_bi, ve_sortset, ve_append, ve_pop, ve_meth, ve_comp, vs_dead, vs_assign1, vs_assignT, vs_assignA, vs_assignS, vs_expr, vs_ifS, vs_forS, vs_whileS, vs_ret0, vs_ret, setMany, setS, getS, initR, List.replicate, bindT, bindTs, unpackV, List.length_cons, List.length_nil]
    exact ⟨by trivial, hkk⟩
  refine comp_pure (α := Nat) (List.range m) (taskP L N) (fun k => some (.int (N k))) rfl (by simp; omega) (fun k hk kk hkk => ?_) (lp N _ ?_)
  · dsimp only [taskP, vk_nil, vk_cons, vl_nil, vl_cons, vf_nil, vf_cons, vo_none, vo_some, vt_one, vt_more, vi_seq, oo_int, oo_lst, vi_range1, vi_range2, vi_zip, vi_enum, vb_bnot, vb_band, vb_bor, vb_ite, vb_cmp, vb_chain, vb_const, vb_loc, vb_bin, vb_neg, vb_tup, vb_lst, vb_sub, vb_slice, vb_attr, vb_call, vb_bi, vb_meth, ve_dead, ve_const, ve_loc, ve_bin, ve_neg, ve_cmp, ve_band, ve_bor, ve_bnot, ve_ite, ve_tup, ve_lst, ve_dict0, ve_sdict2, ve_sub, ve_slice, ve_attr, ve_call, ve_bi, ve_sortset, ve_append, ve_pop, ve_meth, ve_comp, vs_dead, vs_assign1, vs_assignT, vs_assignA, vs_assignS, vs_expr, vs_ifS, vs_forS, vs_whileS, vs_ret0, vs_ret, setMany, setS, getS, initR, List.replicate, bindT, bindTs, unpackV, List.length_cons, List.length_nil]
    exact ⟨by trivial, hkk⟩
  refine c_draw W.toPR hf5 T.hc (by omega) (by decide) fun lim hl0 hl1 => ?_
  refine c_cum_new W (n := n + 1) (by omega) (fun k hk => (T.hL k hk).1) (fun k hk => (T.hN k hk).1) hl0 fun e he0 => ?_
  have hs6 := store_move (x := feedMO cs (kf + 1)) hs hf5
  have fst : st ≠ f := ne_of hst hf (by simp [feedMO])
  have ke : ∀ {b o}, (μ'.set f (feedMO cs (kf + 1))) b = some o → b ≠ e := fun h q => by rw [q, he0] at h; cases h
  refine h lim e _ (store_set hs6 he0) (by rw [Mu.set_ne (ke Mu.set_self)]; exact Mu.set_self) ?_ Mu.set_self
  have e1 : (μ'.set f (feedMO cs (kf + 1))) st = some (.list []) := by rw [Mu.set_ne fst]; exact hst5
  rw [Mu.set_ne (ke e1)]; exact e1
theorem law_c5 {lim : Int} {e : Addr} (T : ST cs m L N F) (hs7 : StoreAt μ S (row m fun k => dP (fromVals (F k))) (row m fun k => dP (fromVals (F k))) [] []) (hf7 : μ f = some (feedMO cs kf)) (hst7 : μ st = some (.list [])) (he7 : CumAt μ e m L N lim) (hsep : st ≠ S.dm ∧ st ≠ S.fr ∧ st ≠ S.tr ∧ st ≠ S.ms)
    (h : ∀ o μ', LS μ' f e st o S cs kf m L N lim F F (fun k => fromVals (F k)) [] [] → vcSs Γ (n + 5) ss [some sc, some (.ref f), some p3, some (sObj S.d), some p4, none, some (.lst (row m (firstP F))), some p7, some (cObj e), some (.ref o), none, none, none, none, none, none, none, none, none, none] μ' QS) :
    vcSs Γ (n + 5) (law5 :: ss) [some sc, some (.ref f), some p3, some (sObj S.d), some p4, none, some (.lst (row m (firstP F))), some p7, some (cObj e), none, none, none, none, none, none, none, none, none, none, none] μ QS := by
  have hF := T.hF
  have m4 := T.m4
  dsimp only [law5, vk_nil, vk_cons, vl_nil, vl_cons, vf_nil, vf_cons, vo_none, vo_some, vt_one, vt_more, vi_seq, oo_int, oo_lst, vi_range1, vi_range2, vi_zip, vi_enum, vb_bnot, vb_band, vb_bor, vb_ite, vb_cmp, vb_chain, vb_const, vb_loc, vb_bin, vb_neg, vb_tup, vb_lst, vb_sub, vb_slice, vb_attr, vb_call, vb_bi, vb_meth, ve_dead, ve_const, ve_loc, ve_bin, ve_neg, ve_cmp, ve_band, ve_bor, ve_bnot, ve_ite, ve_tup, ve_lst, ve_dict0, ve_sdict2, ve_sub, ve_slice, ve_attr, ve_call, ve_bi, ve_sortset, ve_append, ve_pop, ve_meth, ve_comp, vs_dead, vs_assign1, vs_assignT, vs_assignA, vs_assignS, vs_expr, vs_ifS, vs_forS, vs_whileS, vs_ret0, vs_ret, setMany, setS, getS, initR, List.replicate, bindT, bindTs, unpackV, List.length_cons, List.length_nil]
  have ll : ∀ K : PV → Mu → Prop, newL (row m (firstP F)) μ K → biV .list [.lst (row m (firstP F))] μ K := fun K h => h
  refine ll _ (newL_ref (by rw [row_len]; have hb : big = 100000 := rfl; omega) fun o ho0 => ?_)
  have nk2 : ∀ {b x}, μ b = some x → o ≠ b := fun h q => by rw [← q, ho0] at h; cases h
  refine h o _ ?_
  exact
  { hf := by rw [Mu.set_ne (nk2 hf7).symm]; exact hf7
    h := by unfold CumAt; rw [Mu.set_ne (nk2 he7).symm]; exact he7
    hs := store_set hs7 ho0
    ho := Mu.set_self
    hst := by rw [Mu.set_ne (nk2 hst7).symm]; exact hst7
    hstk := by simp
    own := ⟨fun k hk => (hF k hk).ne, fun k hk => (hF k hk).rise, fun k hk => (hF k hk).range, fun k hk => (hF k hk).few, fun k hk => Repr.vals (hF k hk).rise⟩
    hist := trivial
    tx := by simp
    sep := fun a ha => by
      simp only [List.map_nil, List.mem_cons, List.not_mem_nil, or_false] at ha
      rcases ha with rfl | rfl
      · exact ⟨nk2 hs7.hdm, nk2 hs7.hfr, nk2 hs7.htr, nk2 hs7.hmk⟩
      · exact hsep
    nd := by
      simp only [List.map_nil]
      exact List.nodup_cons.mpr ⟨by simp [nk2 hst7], by simp⟩ }
end
theorem c_law (W : PW Γ) {script : List Int} (hl : script.length ≤ 1000) (hq : ∀ μ', Q (.bool true) μ') : CallT Γ (n + 6) (.ref 471) [.lst (script.map .int)] μ Q := by
  refine FN.call W.gt W.f471 rfl ?_
  rw [law_all]
  refine law_c0 hl fun cs f hcl hf0 => law_c1 W Mu.set_self hcl fun m S st μ₁ m2 m4 hs hf hst sep => law_c2 W hf hcl m2 m4 fun F hF => law_c3 W (by omega) Mu.set_self hcl m4 fun L N hL hN => ?_
  rw [Mu.set_set]
  have T : ST cs m L N F := ⟨hcl, m2, m4, hL, hN, hF⟩
  refine law_c4 W T (store_move hs hf) Mu.set_self (by rw [Mu.set_ne (ne_of hst hf (by simp [feedMO]))]; exact hst) sep (by omega) fun lim e μ₂ hs2 hf2 hst2 he2 => law_c5 T hs2 hf2 hst2 he2 sep fun o μ₃ ls => ?_
  clear hs hf hst hf0 hs2 hf2 hst2 he2
  dsimp only [law_e6, List.cons_append, List.nil_append, vk_nil, vk_cons, vl_nil, vl_cons, vf_nil, vf_cons, vo_none, vo_some, vt_one, vt_more, vi_seq, oo_int, oo_lst, vi_range1, vi_range2, vi_zip, vi_enum, vb_bnot, vb_band, vb_bor, vb_ite, vb_cmp, vb_chain, vb_const, vb_loc, vb_bin, vb_neg, vb_tup, vb_lst, vb_sub, vb_slice, vb_attr, vb_call, vb_bi, vb_meth, ve_dead, ve_const, ve_loc, ve_bin, ve_neg, ve_cmp, ve_band, ve_bor, ve_bnot, ve_ite, ve_tup, ve_lst, ve_dict0, ve_sdict2, ve_sub, ve_slice, ve_attr, ve_call, ve_bi, ve_sortset, ve_append, ve_pop, ve_meth, ve_comp, vs_dead, vs_assign1, vs_assignT, vs_assignA, vs_assignS, vs_expr, vs_ifS, vs_forS, vs_whileS, vs_ret0, vs_ret, setMany, setS, getS, initR, List.replicate, bindT, bindTs, unpackV, List.length_cons, List.length_nil]
  refine now_call W.toPR ls T (by omega) fun μ9 ls9 => ?_
  simp only [tv_bool, tv_int, tv_none, Bool.not_true, Bool.false_eq_true, if_false]
  exact law_7 W.toPR ls9 T (by omega) rfl rfl hq
end
end Mine

open PySem PySem.Calls PyProof.Rows PySem.W
set_option maxRecDepth 100000
set_option linter.unusedVariables false
set_option linter.unusedSimpArgs false
set_option linter.unusedSectionVars false
set_option backward.match.sparseCases false
namespace Mine

noncomputable def okSup (S : Sc) (l : List Stmt) : Bool := match l with
  | [] => false
  | st :: rest => (vExpS st).any fun e => (vMC e).any fun x => (vNC x.1).any fun y => y.2.isEmpty && y.1 == ("super" : Str) && x.2.1 == ("__init__" : Str) && okEs S [.loc 1, .const (.str "weak")] x.2.2.2.1 && plainArgs x.2.2.2.1 && okSs S m_Cumulative__init rest && decide (x.2.2.2.1.length < 30) && x.2.2.1.endLine == x.2.2.2.2.line
theorem okSup_parts {S : Sc} {body : List Stmt} (h : okSup S body = true) : ∃ p0 p1 apos pos pos' args rest, body = .Expr (.Call (.Attribute (.Call (.Name "super" p0) [] [] p1) "__init__" apos) args [] pos) pos' :: rest ∧
    okEs S [.loc 1, .const (.str "weak")] args = true ∧ plainArgs args = true ∧ okSs S m_Cumulative__init rest = true ∧ decide (args.length < 30) = true ∧ (apos.endLine == pos.line) = true := by
  cases body with
  | nil => exact ff h
  | cons st rest =>
    replace h := anyE h
    obtain ⟨e, h3, h⟩ := h
    replace h := anyE h
    obtain ⟨x, h2, h⟩ := h
    replace h := anyE h
    obtain ⟨y, h1, h⟩ := h
    simp only [Bool.and_eq_true] at h
    obtain ⟨⟨⟨⟨⟨⟨⟨e0, e1⟩, e2⟩, a⟩, b⟩, c⟩, d⟩, f⟩ := h
    obtain ⟨pos', rfl⟩ := vExpS_eq h3
    obtain ⟨p0, p1, hn⟩ := vNC_eq h1
    exact ⟨p0, p1, x.2.2.1, x.2.2.2.2, pos', x.2.2.2.1, rest, by rw [vMC_eq h2, hn, beq_iff_eq.mp e1, beq_iff_eq.mp e2, List.isEmpty_iff.mp e0], a, b, c, d, f⟩

section
variable {Γ : Gl} {n : Nat} {Φ : Fm} {ρ : Rho} {μ : Mu} {A : Around} {s : Shared} {Q : PV → Mu → Prop}

theorem wpAt_meth {M : Model} {A : Around} {c : Code} {Q : Value → Shared → Prop} {E : Value → Shared → Prop} {s : Shared} {env : Env} {o : Expr} {x : Str} {es : List Expr} {apos pos : Pos} (hs : plainArgs es = true) (hlen : decide (es.length < 30) = true) (hline : (apos.endLine == pos.line) = true)
    (h : _root_.PySem.wpAt M A c (attributeBase o x env (eval o env)) (fun ov s₁ => ∀ pl, wpAny M A (getMethod ov x pl) (fun fx s₂ => wpAny M A (callWith pos fx.1 fx.2 (backTo pos (starEach es env)) []) Q E s₂) E s₁) E s) :
    _root_.PySem.wpAt M A c (eval (.Call (.Attribute o x apos) es [] pos) env) Q E s := by
  rw [arm_eval_Call]
  refine _root_.PySem.wpAt_bind (ks_wpAt_mono h (fun ov s₁ h₁ => _root_.PySem.wpAt_of_wpAny (wpAny_bind (wpAny_standAt ?_))) fun _ _ e => e)
  have hst := star_plain (env := env) (pos := pos) hs
  have hform : methodCallForm (es.length + ([] : List Keyword).length) (backTo pos (starEach es env)) (backToKw pos (keywordEach [] env)) = true := by
    unfold methodCallForm
    rw [hst, all_plain]
    have := of_decide_eq_true hlen
    simp only [List.length_nil, Nat.add_zero, Bool.true_and]
    show (true && decide (es.length + 0 < 30)) = true
    simpa using this
  have hpos : methodCallPos true o env apos pos = pure pos := by unfold methodCallPos; simp [hline]
  unfold methodCall
  rw [hform]
  refine wpAny_bind (wpAny_holding (wpAny_mono (h₁ _) (fun fx s₂ h₂ => wpAny_bind (wpAny_of_eq hpos h₂)) fun _ _ e => e))

structure SupF (Γ : Gl) : Prop where
  f : ∃ fd body, FnOk Γ 356 fd body [0, 1, 2, 3, 4] ∧ okSup fd.scope.names body = true ∧ fd.scope.names.length = 9 ∧ fd.scope.names[0]? = some (("self", NameKind.local) : Str × NameKind) ∧ fd.scope.names.lookup ("super" : Str) = some .globalImplicit ∧ fd.scope.names.lookup ("__class__" : Str) = some .free ∧
    (∃ ar, (fd.params.posonlyargs ++ fd.params.args).head? = some ar ∧ ar.arg = "self") ∧ fd.code = .ref 355 ∧ fd.closure = [(("__class__" : Str), 344)]
  code : ∃ o vs file tf, Γ.h₀.get? 355 = some o ∧ o.data = .fields vs ∧ vs[2]? = some (.str file tf) ∧ ((Γ.prog.main.file : Str) == file) = true
  top : (Γ.prog.main.scope.names.lookup ("super" : Str)).isSome = false
  cell : Γ.h₀.IsCell 344 (some (.ref 425))
  sup : GN Γ "super" (.type "super")
  cls : ∃ cd, clsIn Γ.K 425 = some cd ∧ alongIn Γ.K "__init__" ((cd.mro.dropWhile (· != .ref 425)).drop 1) = some (some (.ref 305))
  mro : mroIn Γ.K 425 (.ref 425) = some true
  third : nsIn Γ.K cStatics "thirdparty.any" = some none
  fn : fnIn Γ.K 305 = true
  ty : typeIn Γ.K (.ref 305) = some (.type "function")

theorem load_global (ok : FmOk Γ Φ) {x : Str} {v : Value} {K : Value → Shared → Prop} (hk : Φ.env.kindOf x = some .globalImplicit) (hg : GN Γ x v) (G : GS Γ Φ.F μ s) (h : K v s) :
    wpAny (model Γ.prog Γ.w) A (loadName Φ.env x) K (fun _ _ => False) s := by
  have hG : s.heap.Ns Φ.env.globals Γ.mg := by rw [ok.glob]; exact Γ.G.at' fun o e => G.keep _ o e
  have hB : s.heap.Ns Φ.env.builtins Γ.mb := by rw [ok.blt]; exact Γ.B.at' fun o e => G.keep _ o e
  rcases hg with hg | ⟨h1, h2⟩
  · exact ks_loadName_global ok.kind hk (loadGlobal_global hG hg h)
  · exact ks_loadName_global ok.kind hk (loadGlobal_builtin hG h1 hB h2 h)
theorem load_slot (ok : FmOk Γ Φ) {i : Nat} {x : Str} {p : PV} {K : Value → Shared → Prop} (R : FR Φ ρ μ s) (hx : Φ.names[i]? = some x) (hp : getS ρ i = some p) (hc : (x == ("__classdict__" : Str)) = false) (h : ∀ v, VR (im Φ.F μ s.heap) v p → K v s) :
    wpAny (model Γ.prog Γ.w) A (loadName Φ.env x) K (fun _ _ => False) s := by
  obtain ⟨v, hv, hr⟩ := R.val i x p hx hp
  rcases hv with ⟨k, m, hn, mv⟩ | ⟨k | k, c, hc', hv⟩
  · exact wpAny_loadName_local ok.kind k hn mv (h v hr)
  · exact wpAny_loadName_cell ok.kind k hc' hv (h v hr)
  · exact wpAny_loadName_free ok.kind k hc' hv (h v hr) hc

set_option tactic.hygienic true in
theorem sup_call (W : SupF Γ) {fd : FuncData} {body : List Stmt} {d : Addr} {p0 p1 apos pos pos' : Pos} {args : List Expr} (gt : GTab Γ) (ok : FmOk Γ Φ) (fm : FnFm fd 356 Φ) (hS : ScFm fd.scope.names Φ) (f : FnOk Γ 356 fd body [0, 1, 2, 3, 4])
    (h0 : fd.scope.names[0]? = some (("self", NameKind.local) : Str × NameKind)) (hsu : fd.scope.names.lookup ("super" : Str) = some .globalImplicit) (hcl : fd.scope.names.lookup ("__class__" : Str) = some .free)
    (har : ∃ ar, (fd.params.posonlyargs ++ fd.params.args).head? = some ar ∧ ar.arg = "self") (hcode : fd.code = .ref 355) (hclo : fd.closure = [(("__class__" : Str), 344)])
    (hargs : okEs fd.scope.names [.loc 1, .const (.str "weak")] args = true) (hpl : plainArgs args = true) (hlen : decide (args.length < 30) = true) (hline : (apos.endLine == pos.line) = true)
    {l : PV} (hself : getS ρ 0 = some (cObj d)) (hl : getS ρ 1 = some l) {QF : FP → Rho → Mu → Prop}
    (hc : CallT Γ n (.ref 305) [cObj d, l, .str "weak"] μ fun _ μ' => QF .next ρ μ') :
    TSA Γ n Φ (.func body Φ.env) ρ μ (exec (.Expr (.Call (.Attribute (.Call (.Name "super" p0) [] [] p1) "__init__" apos) args [] pos) pos') Φ.env) QF := by
  intro A s hA G R
  refine ks_wpAt_Expr_any ?_ (by unfold interactive; rw [ok.kind]; rfl) rfl
  refine wpAt_meth hpl hlen hline ?_
  obtain ⟨ar, ha1, ha2⟩ := har
  obtain ⟨o, ho, hd⟩ := f.at_
  obtain ⟨oc, vs, file, tf, c1, c2, c3, c4⟩ := W.code
  obtain ⟨cd, k1, k2⟩ := W.cls
  have ks : Φ.env.kindOf "super" = some .globalImplicit := by unfold Env.kindOf; rw [fm.scope]; exact hsu
  have kc : Φ.env.kindOf "__class__" = some .free := by unfold Env.kindOf; rw [fm.scope]; exact hcl
  have hx0 : Φ.names[0]? = some ("self" : Str) := by rw [fm.names, List.getElem?_map, h0]; rfl
  refine ks_wpAt_super_base ks kc (by decide +kernel) fm.func (G.keep _ _ ho) hd ha1 (fm.code.trans hcode) (G.keep _ _ c1) c2 c3 c4 W.top ?_
  refine load_global ok ks W.sup G ⟨rfl, ?_⟩
  obtain ⟨oo, q1, q2⟩ := W.cell
  refine wpAny_loadName_free ok.kind kc (fm.cells _ (by rw [hclo]; exact List.mem_singleton.mpr rfl)) ⟨oo, G.keep _ _ q1, q2⟩ ?_
  rw [ha2]
  refine load_slot ok R hx0 hself (by decide) fun v hv => ?_
  obtain ⟨x, rfl, hx1, hx2, hx3⟩ := hv.obj_inv
  have X := G.K
  obtain ⟨oD, hD1, hD2⟩ : ∃ oD, s.heap.get? 425 = some oD ∧ oD.data = .cls cd := by
    unfold clsIn at k1
    split at k1
    · rename_i c d' cd' sl ho
      cases k1
      exact ⟨_, X _ _ ho, rfl⟩
    · cases k1
  obtain ⟨hh, g, d0, t, os⟩ := s
  refine ks_wpAny_isType_cls hD1 hD2 ⟨rfl, ?_⟩
  refine ks_wpAny_call_super hD1 hD2 hx1 rfl (fun c e => by cases e) (looks_mroIn X W.mro) fun h' e1 e2 pl => ?_
  have hne : x ≠ 425 := by
    rintro rfl
    rw [hD1] at hx1
    cases hx1
    cases hD2
  have X' : Γ.K.In h' := fun b o e => e2 _ _ (X _ _ e)
  obtain ⟨of, hof, hofc⟩ : ∃ of, hh.get? 305 = some of ∧ of.cls = .type "function" := by
    have ht' : (Γ.K.lookup 305).map (·.cls) = some (.type "function") := W.ty
    cases z : Γ.K.lookup 305 with
    | none => rw [z] at ht'; cases ht'
    | some of => rw [z] at ht'; exact ⟨of, X _ _ z, Option.some.inj ht'⟩
  refine ks_wpAny_getMethod_super e1 (looks_opaque X' W.third) (l₀ := cd.mro) ?_ rfl X' k2 (e2 _ _ hof) hofc hne (by decide +kernel) ?_
  · exact fun A Q E s k q => wpAny_bind ((looks_clsIn X' k1) A _ E s k (wpAny_pure q))
  have he : ∀ b o', hh.get? b = some o' → (h'.push (methodObj (.ref 305) (.ref x))).get? b = some o' := fun b o' e => Heap.get?_push_of_some _ (e2 _ _ e)
  have hq : (h'.push (methodObj (.ref 305) (.ref x))).get? h'.objs.size = some (methodObj (.ref 305) (.ref x)) := Heap.get?_push_size _ rfl
  have x₁ : Step [] ⟨hh, g, d0, t, os⟩ μ ⟨h'.push (methodObj (.ref 305) (.ref x)), g, d0, t + 1, os⟩ μ := Step.of_ext he
  have G₁ : GS Γ Φ.F μ ⟨h'.push (methodObj (.ref 305) (.ref x)), g, d0, t + 1, os⟩ := G.of_ext (s := ⟨hh, g, d0, t, os⟩) he
  have R₁ := R.step ok G x₁
  have hfr : hh.get? h'.objs.size = none := by
    cases z : hh.get? h'.objs.size with
    | none => rfl
    | some o => exact absurd (Heap.lt_size (e2 _ _ z)) (Nat.lt_irrefl _)
  have iq : im Φ.F μ (h'.push (methodObj (.ref 305) (.ref x))) h'.objs.size (methodObj (.ref 305) (.ref x)) := ⟨hq, G.fresh hfr, G.notF hfr⟩
  have ix : im Φ.F μ (h'.push (methodObj (.ref 305) (.ref x))) x ⟨.ref 425, some d, .plain, #[]⟩ := ⟨he _ _ hx1, hx2, hx3⟩
  generalize (h'.push (methodObj (.ref 305) (.ref x))) = h2 at *
  have hst := star_plain (env := Φ.env) (pos := pos) hpl
  rw [hst]
  have L : TL Γ n Φ ρ μ 2 (spliced (args.map fun e => (false, eval e Φ.env))) fun ps μ₁ => ps = [l, .str "weak"] ∧ μ₁ = μ :=
    (soundEs gt [.loc 1, .const (.str "weak")]).l hargs hS ok (Q := fun ps μ₁ => ps = [l, .str "weak"] ∧ μ₁ = μ) (by rw [vl_cons, ve_loc, hl]; exact ⟨rfl, rfl⟩) fun _ _ q => q
  refine callWith_of (P := MethP Γ.K h'.objs.size 305 (.ref x)) (by rw [any_plain]; rfl) (keeps_M W.fn) ?_
  have fin : wpAny (model Γ.prog Γ.w) A (spliced (args.map fun e => (false, eval e Φ.env))) (fun vs s' => MethP Γ.K h'.objs.size 305 (.ref x) s'.heap ∧ wpAny (model Γ.prog Γ.w) A (call (.ref h'.objs.size) ([] ++ vs)) (fun _ => PostS Γ Φ ⟨hh, g, d0, t, os⟩ μ QF .next) (fun _ _ => False) s') (fun _ _ => False) ⟨h2, g, d0, t + 1, os⟩ := by
    refine L.wp hA G₁ R₁ ok fun vs s₁ ps μ₁ h₁ hll G₂ x₂ R₂ hw => ?_
    obtain ⟨rfl, e₁⟩ := h₁
    rw [e₁] at G₂ x₂ R₂ hw
    obtain ⟨y1, _⟩ := x₂.toIm0 _ _ iq
    refine ⟨⟨y1, G₂.K⟩, ?_⟩
    rw [List.nil_append]
    refine wpAny_call (ks_codeAny_call_bound y1 ?_)
    refine codeAny_mono (hc A Φ.F s₁ (.ref x :: vs) hA G₂ (.cons (.obj (x₂.toIm0 _ _ ix)) hw)) fun r s' z => ?_
    rcases r with e | (v | _ | _ | _) <;> first | exact z | skip
    all_goals first | exact z.elim | skip
    obtain ⟨p, μ', q1, q2, q3, q4⟩ := z
    exact ⟨.next, ρ, μ', q1, q2, ((x₁.trans x₂).trans q3).wider, R₂.step ok G₂ q3, trivial⟩
  cases args with
  | nil => exact evalArgs_nilH fin
  | cons e es => exact evalArgs_plain fin
end
end Mine

open PySem PySem.Calls PyProof.Rows PySem.W
set_option maxRecDepth 100000
set_option linter.unusedVariables false
set_option linter.unusedSimpArgs false
set_option backward.match.sparseCases false
namespace Mine
section
variable {Γ : Gl} {n : Nat} {μ : Mu} {Q : PV → Mu → Prop}
theorem len_row {m : Nat} {g : Nat → PV} : (row m g).length = m := by simp [row]
theorem row_ints {m : Nat} {L : Nat → Int} : row m (fun k => .int (L k)) = ((List.range m).map L).map PV.int := by simp [row]
theorem nums_row (P : PR Γ) {m : Nat} {L : Nat → Int} {w : Str} (hm : m ≤ 20) (hL : ∀ k, k < m → 0 ≤ L k) (hq : Q (.tup (row m fun k => .int (L k))) μ) :
    CallT Γ (n + 1) (.ref 340) [.lst (row m fun k => .int (L k)), .int (m : Int), .str w] μ Q := by
  have h := c_numbers_tup (n := n) (μ := μ) (Q := Q) P (xs := (List.range m).map L) (p := .lst (row m fun k => .int (L k))) (w := w) (.inr (by rw [row_ints])) (by simp; omega) (fun x hx => by
    obtain ⟨k, hk, rfl⟩ := List.mem_map.mp hx
    exact hL k (List.mem_range.mp hk)) (by rw [← row_ints]; exact hq)
  simpa using h
noncomputable def at4 (m : Nat) (L N : Nat → Int) (lim : Int) : Nat → List (Str × PV)
  | 0 => [("number", .int (-1)), ("scope", .tup (row m pN)), ("strength", .str "weak")]
  | 1 => [("number", .int (-1)), ("scope", .tup (row m pN)), ("strength", .str "weak"), ("lasts", .tup (row m fun k => .int (L k)))]
  | 2 => [("number", .int (-1)), ("scope", .tup (row m pN)), ("strength", .str "weak"), ("lasts", .tup (row m fun k => .int (L k))), ("needs", .tup (row m fun k => .int (N k)))]
  | _ => cAttrs m L N lim
theorem c_cum_init (P : PR Γ) (W : SupF Γ) {d : Addr} {m : Nat} {L N : Nat → Int} {lim : Int} (hd : μ d = some (.attrs [])) (hm : m ≤ 20) (hL : ∀ k, k < m → 0 ≤ L k) (hN : ∀ k, k < m → 0 ≤ N k) (hlim : 0 ≤ lim)
    (hq : Q .none (μ.set d (.attrs (cAttrs m L N lim)))) : CallT Γ (n + 3) (.ref 356) [cObj d, .lst (row m pN), .lst (row m fun k => .int (L k)), .lst (row m fun k => .int (N k)), .int lim] μ Q := by
  have hb : big = 100000 := rfl
  obtain ⟨fd, body, f, hok, hnn, h0, hsu, hcl, har, hcode, hclo⟩ := W.f
  obtain ⟨p0, p1, apos, pos, pos', args, rest, rfl, k1, k2, k3, k4, k5⟩ := okSup_parts hok
  refine callT_fnAt f rfl fun Φ ok fm => ?_
  have hS : ScFm fd.scope.names Φ := ⟨fm.names, fm.st, f.nd, fun x k hm => .inl (by unfold Env.kindOf; rw [fm.scope]; exact lookup_nodup f.nd hm), fun x k' hk => ⟨k', by unfold Env.kindOf at hk; rw [fm.scope] at hk; exact mem_of_lookup hk, .inl rfl⟩⟩
  rw [replicate_none, hnn]
  generalize hρ : setMany (List.replicate 9 none) [0, 1, 2, 3, 4] [cObj d, .lst (row m pN), .lst (row m fun k => .int (L k)), .lst (row m fun k => .int (N k)), .int lim] = ρ; revert ρ; refine id ?_; set_option tactic.hygienic false in intros
  have eρ : ρ = [some (cObj d), some (.lst (row m pN)), some (.lst (row m fun k => .int (L k))), some (.lst (row m fun k => .int (N k))), some (.int lim), none, none, none, none] := by rw [← hρ]; rfl
  intro A s hA G R
  refine ks_wpAt_execs_cons ?_
  refine ks_wpAt_mono (sup_call (d := d) (l := .lst (row m pN)) (QF := fun fp ρ' μ' => fp = .next ∧ ρ' = ρ ∧ μ' = μ.set d (.attrs (at4 m L N lim 0))) W P.gt ok fm hS f h0 hsu hcl har hcode hclo k1 k2 k4 k5 (by rw [eρ]; rfl) (by rw [eρ]; rfl)
    (c_prop_init P hd (by rw [len_row]; omega) ⟨rfl, rfl, rfl⟩) A s hA G R) (fun fl s₁ h => ?_) fun _ _ e => e
  obtain ⟨fp, ρ', μ', ⟨rfl, rfl, rfl⟩, G₁, x₁, R₁, hf⟩ := h
  cases fl <;> first | exact hf.elim | skip
  dsimp only
  refine _root_.PySem.wpAt_of_wpAny ?_
  have z : vcSs Γ (n + 2) m_Cumulative__init ρ' (μ.set d (.attrs (at4 m L N lim 0))) (RetQ Q) := by
    rw [eρ]
    dsimp only [m_Cumulative__init, vk_nil, vk_cons, vl_nil, vl_cons, vf_nil, vf_cons, vo_none, vo_some, vt_one, vt_more, vi_seq, oo_int, oo_lst, vi_range1, vi_range2, vi_zip, vi_enum, vb_bnot, vb_band, vb_bor, vb_ite, vb_cmp, vb_chain, vb_const, vb_loc, vb_bin, vb_neg, vb_tup, vb_lst, vb_sub, vb_slice, vb_attr, vb_call, vb_bi, vb_meth, ve_dead, ve_const, ve_loc, ve_bin, ve_neg, ve_cmp, ve_band, ve_bor, ve_bnot, ve_ite, ve_tup, ve_lst, ve_dict0, ve_sdict2, ve_sub, ve_slice, ve_attr, ve_call, ve_bi, ve_sortset, ve_append, ve_pop, ve_meth, ve_comp, vs_dead, vs_assign1, vs_assignT, vs_assignA, vs_assignS, vs_expr, vs_ifS, vs_forS, vs_whileS, vs_ret0, vs_ret, setMany, setS, getS, initR, List.replicate, bindT, bindTs, unpackV, List.length_cons, List.length_nil]
    have sc : ∀ {i : Nat} {K : PV → Prop}, K (.tup (row m pN)) → attrV (cObj d) 9 (μ.set d (.attrs (at4 m L N lim i))) K := fun {i K} hk => by
      refine attr_at (es := at4 m L N lim i) Mu.set_self rfl rfl ?_ hk
      rcases i with _ | _ | _ | i <;> rfl
    refine sc (len_tup (by rw [len_row]; omega) ?_)
    rw [len_row]
    refine nums_row P hm hL ?_
    refine setat_at Mu.set_self rfl rfl (by simp [at4]) ?_
    rw [Mu.set_set, show putS _ _ (at4 m L N lim 0) = at4 m L N lim 1 by rfl]
    refine sc (len_tup (by rw [len_row]; omega) ?_)
    rw [len_row]
    refine nums_row P hm hN ?_
    refine setat_at Mu.set_self rfl rfl (by simp [at4]) ?_
    rw [Mu.set_set, show putS _ _ (at4 m L N lim 1) = at4 m L N lim 2 by rfl]
    refine c_numbers_tup P (xs := [lim]) (.inl rfl) (by simp) (fun x hx => by rw [List.mem_singleton.mp hx]; exact hlim) ?_
    refine sub_tup (v := .int lim) (by decide) rfl ?_
    refine setat_at Mu.set_self rfl rfl (by simp [at4]) ?_
    rw [Mu.set_set, show putS _ _ (at4 m L N lim 2) = at4 m L N lim 3 by rfl]
    exact next_done hq
  exact wpAny_mono (soundSs P.gt m_Cumulative__init _ rest Φ ρ' _ k3 hS ok _ z A s₁ hA G₁ R₁) (fun fl' s₂ h => PostS.trans x₁ h) fun _ _ e => e
structure ClF (Γ : Gl) : Prop where
  mS : makesIn Γ.K 287 = true
  iS : findIn Γ.K (.ref 287) "__init__" = some (some (.ref 151))
  tS : typeIn Γ.K (.ref 151) = some (.type "function")
  mC : makesIn Γ.K 425 = true
  iC : findIn Γ.K (.ref 425) "__init__" = some (some (.ref 356))
  tC : typeIn Γ.K (.ref 356) = some (.type "function")
theorem PW.mk' (P : PR Γ) (W : SupF Γ) (C : ClF Γ) : PW Γ :=
  { P with mS := C.mS, iS := C.iS, tS := C.tS, mC := C.mC, iC := C.iC, tC := C.tC, c356 := fun n μ Q d m L N lim hd hm hL hN hl hq => c_cum_init P W hd hm hL hN hl hq }
end
end Mine

open PySem PySem.Calls PyProof.Rows PySem.W
set_option maxRecDepth 100000
set_option linter.unusedVariables false
set_option backward.match.sparseCases false
namespace Mine
noncomputable def fragT (T : BT) (n : Nat) : Frag := (List.range n).filterMap fun a => match T.get a with
  | some o => (match alive o with
    | some o' => some (a, o')
    | none => none)
  | none => none
theorem fragT_in (T : BT) (n : Nat) (life : Life) : (fragT T n).In (absHeap T n life) := fun a o h => by
  have hm : (a, o) ∈ fragT T n := by
    generalize fragT T n = l at h
    induction l with
    | nil => cases h
    | cons p r ih =>
      obtain ⟨b, q⟩ := p
      rw [List.lookup_cons] at h
      cases e : a == b with
      | true => rw [e] at h; cases h; rw [beq_iff_eq.mp e]; exact List.mem_cons_self
      | false => rw [e] at h; exact List.mem_cons_of_mem _ (ih h)
  obtain ⟨b, hb, he⟩ := List.mem_filterMap.mp hm
  cases g : T.get b with
  | none => rw [g] at he; cases he
  | some u =>
    cases k : alive u with
    | none => rw [g] at he; dsimp only at he; rw [k] at he; cases he
    | some o' =>
      rw [g] at he; dsimp only at he; rw [k] at he; cases he
      rw [abs_get (List.mem_range.mp hb) g, k]

noncomputable def hasS (x : Str) : List Str → Bool
  | [] => false
  | y :: r => Fast.sEq x y || hasS x r
noncomputable def ndB : List Str → Bool
  | [] => true
  | x :: r => !hasS x r && ndB r
theorem hasS_iff {x : Str} : ∀ {l : List Str}, hasS x l = true ↔ x ∈ l
  | [] => by simp [hasS]
  | y :: r => by rw [hasS, Bool.or_eq_true, Fast.sEq_iff, hasS_iff, List.mem_cons]
theorem ndB_nodup : ∀ {l : List Str}, ndB l = true → l.Nodup
  | [], _ => List.nodup_nil
  | x :: r, h => by
    rw [ndB, Bool.and_eq_true, Bool.not_eq_true'] at h
    exact List.nodup_cons.mpr ⟨fun m => by rw [hasS_iff.mpr m] at h; exact ff h.1.symm, ndB_nodup h.2⟩
noncomputable def dCell : Data → Option (Option Value)
  | .cell v => some v
  | _ => none
noncomputable def dFunc : Data → Option FuncData
  | .func v => some v
  | _ => none
noncomputable def dFlds : Data → Option (Array Value)
  | .fields v => some v
  | _ => none
noncomputable def vAdr : Value → Option Addr
  | .ref v => some v
  | _ => none
noncomputable def vText : Value → Option Str
  | .str v _ => some v
  | _ => none
theorem dCell_eq {d : Data} {v : Option Value} (h : dCell d = some v) : d = .cell v := by cases d <;> first | exact nn h | (cases h; rfl)
theorem dFunc_eq {d : Data} {v : FuncData} (h : dFunc d = some v) : d = .func v := by cases d <;> first | exact nn h | (cases h; rfl)
theorem dFlds_eq {d : Data} {v : Array Value} (h : dFlds d = some v) : d = .fields v := by cases d <;> first | exact nn h | (cases h; rfl)
theorem vAdr_eq {d : Value} {v : Addr} (h : vAdr d = some v) : d = .ref v := by cases d <;> first | exact nn h | (cases h; rfl)
theorem vText_eq {d : Value} {v : Str} (h : vText d = some v) : ∃ t, d = .str v t := by cases d <;> first | exact nn h | (cases h; exact ⟨_, rfl⟩)
noncomputable def cellIn (K : Frag) (c : Addr) : Bool := (K.lookup c).any fun o => (dCell o.data).isSome
theorem cellIn_is {K : Frag} {h : Heap} (X : K.In h) {c : Addr} (e : cellIn K c = true) : ∃ v, h.IsCell c v := by
  obtain ⟨o, ho, h⟩ := anyE e
  obtain ⟨v, h⟩ := Option.isSome_iff_exists.mp h
  exact ⟨v, o, X _ _ ho, dCell_eq h⟩
noncomputable def isFree (k : NameKind) : Bool := match k with
  | .free => true
  | _ => false
theorem isFree_eq {k : NameKind} (h : isFree k = true) : k = .free := by cases k <;> first | rfl | cases h
noncomputable def cloB (K : Frag) (names : Sc) : List (Str × Addr) → Bool
  | [] => names.all fun p => !isFree p.2
  | [(x, c)] => cellIn K c && names.any (fun p => Fast.sEq p.1 x && isFree p.2) && names.all fun p => !isFree p.2 || Fast.sEq p.1 x
  | _ => false
theorem cloB_clo {K : Frag} {h : Heap} (X : K.In h) {names : Sc} : ∀ {cl : List (Str × Addr)}, cloB K names cl = true → Clo h (fun _ => none) names cl ∧ (cl.map (·.1)).Nodup
  | [], e => ⟨⟨fun p hp => (List.not_mem_nil hp).elim, fun x y c hx => (List.not_mem_nil hx).elim, fun x hx => by
      have z := List.all_eq_true.mp e _ hx
      exact ff z⟩, List.nodup_nil⟩
  | [(x, c)], e => by
    have e : (cellIn K c && names.any (fun p => Fast.sEq p.1 x && isFree p.2) && names.all fun p => !isFree p.2 || Fast.sEq p.1 x) = true := e
    rw [Bool.and_eq_true, Bool.and_eq_true] at e
    obtain ⟨⟨e1, e2⟩, e3⟩ := e
    obtain ⟨⟨y, k⟩, hm, e2⟩ := List.any_eq_true.mp e2
    rw [Bool.and_eq_true] at e2
    have hx : y = x := Fast.sEq_iff.mp e2.1
    have hk : k = .free := isFree_eq e2.2
    subst hx hk
    refine ⟨⟨fun p hp => ?_, fun u v d hu hv => ?_, fun u hu => ?_⟩, by simp⟩
    · rw [List.mem_singleton.mp hp]; exact ⟨cellIn_is X e1, rfl, hm⟩
    · cases List.mem_singleton.mp hu; cases List.mem_singleton.mp hv; rfl
    · have z : Fast.sEq u y = true := List.all_eq_true.mp e3 _ hu
      rw [Fast.sEq_iff.mp z]; exact ⟨c, List.mem_singleton.mpr rfl⟩
  | _ :: _ :: _, e => ff e

noncomputable def argsB (names : Sc) : List Nat → List Arg → Bool
  | [], [] => true
  | i :: is, a :: as => (match names[i]? with
    | some p => Fast.sEq p.1 a.arg
    | none => false) && argsB names is as
  | _, _ => false
theorem argsB_eq {names : Sc} : ∀ {is : List Nat} {as : List Arg}, argsB names is as = true → is.map (fun i => (names.map (·.1))[i]?) = (as.map (·.arg)).map some
  | [], [], _ => rfl
  | [], _ :: _, h => ff h
  | _ :: _, [], h => ff h
  | i :: is, a :: as, h => by
    rw [argsB, Bool.and_eq_true] at h
    rw [List.map_cons, argsB_eq h.2, List.map_cons, List.map_cons, List.getElem?_map]
    have z := h.1
    cases q : names[i]? with
    | none => rw [q] at z; exact ff z
    | some p => rw [q] at z; rw [Option.map_some, Fast.sEq_iff.mp z]
noncomputable def plainArg (p : Arguments) : Bool := p.posonlyargs.isEmpty && p.vararg.isNone && p.kwonlyargs.isEmpty && p.kwarg.isNone
noncomputable def isNoneV : Value → Bool
  | .none => true
  | _ => false
theorem isNoneV_eq {v : Value} (h : isNoneV v = true) : v = .none := by cases v <;> first | rfl | cases h
theorem zip_lookup {x : Str} {v : Value} : ∀ {xs : List Str} {vs : List Value}, xs.Nodup → (x, v) ∈ xs.zip vs → (xs.zip vs).lookup x = some v
  | [], _, _, h => by simp at h
  | _ :: _, [], _, h => by simp at h
  | y :: xs, u :: vs, nd, h => by
    rw [List.zip_cons_cons] at h ⊢
    rw [List.lookup_cons]
    rcases List.mem_cons.mp h with e | e
    · cases e; rw [beq_self_eq_true]
    · have : x ≠ y := fun q => (List.nodup_cons.mp nd).1 (q ▸ (List.of_mem_zip e).1)
      rw [beq_eq_false_iff_ne.mpr this]
      exact zip_lookup (List.nodup_cons.mp nd).2 e
theorem zip_pick {xs : List Str} {vs : List Value} (nd : xs.Nodup) (hl : vs.length = xs.length) : xs.filterMap (fun n => ((xs.zip vs).lookup n).map (n, ·)) = xs.zip vs := by
  suffices H : ∀ (ys : List Str) (us : List Value), us.length = ys.length → (∀ p ∈ ys.zip us, p ∈ xs.zip vs) → ys.filterMap (fun n => ((xs.zip vs).lookup n).map (n, ·)) = ys.zip us from H xs vs hl fun _ h => h
  intro ys
  induction ys with
  | nil => intro us _ _; rfl
  | cons y ys ih =>
    intro us hu hm
    cases us with
    | nil => cases hu
    | cons u us =>
      rw [List.zip_cons_cons, List.filterMap_cons, zip_lookup nd (hm (y, u) (by rw [List.zip_cons_cons]; exact List.mem_cons_self))]
      exact congrArg _ (ih us (Nat.succ.inj hu) fun p hp => hm p (by rw [List.zip_cons_cons]; exact List.mem_cons_of_mem _ hp))
theorem zip_for {α β γ δ : Type} {xs : List α} {l : List β} {init : γ} {f : α × β → γ → Sem (ForInStep γ)} {rest : γ → Sem δ} (h : l = []) : (forIn (xs.zip l) init f >>= rest) = rest init := by
  subst h
  rw [List.zip_nil_right]
  rfl
theorem bind_plain {fd : FuncData} (h1 : plainArg fd.params = true) (h2 : isNoneV fd.defaults = true) (nd : (fd.params.args.map (·.arg)).Nodup) {vs : List Value} (hl : vs.length = fd.params.args.length) :
    bindArgs fd ⟨vs, []⟩ = pure ((fd.params.args.map (·.arg)).zip vs) := by
  obtain ⟨name, qual, ⟨po, as, va, ko, kd, kw, df⟩, body, scope, gl, cl, dflt, kwd⟩ := fd
  simp only [plainArg, Bool.and_eq_true, List.isEmpty_iff, Option.isNone_iff_eq_none] at h1
  obtain ⟨⟨⟨rfl, rfl⟩, rfl⟩, rfl⟩ := h1
  have h2 := isNoneV_eq h2
  dsimp only at h2 nd hl
  subst h2
  have hl' : vs.length = (as.map (·.arg)).length := by rw [List.length_map]; exact hl
  have miss : ((as.map (·.arg)).filter fun n => (((as.map (·.arg)).zip vs).lookup n).isNone) = [] := by
    rw [List.filter_eq_nil_iff]
    intro n hn
    obtain ⟨i, hi, rfl⟩ := List.getElem_of_mem hn
    have : ((as.map (·.arg))[i], vs[i]'(by omega)) ∈ (as.map (·.arg)).zip vs := by
      rw [← List.getElem_zip (h := by rw [List.length_zip]; omega)]
      exact List.getElem_mem _
    rw [zip_lookup nd this]
    simp
  have c2 : ¬ ((!(((as.map (·.arg)).take ((as.map (·.arg)).length - (List.drop (0 - (as.map (·.arg)).length) ([] : List Value)).length)).filter fun n => (((as.map (·.arg)).zip vs).lookup n).isNone).isEmpty) = true) := by
    rw [List.drop_nil]
    show ¬ ((!(((as.map (·.arg)).take (as.map (·.arg)).length).filter fun n => (((as.map (·.arg)).zip vs).lookup n).isNone).isEmpty) = true)
    rw [List.take_length, miss]
    simp
  refine Eq.trans (if_neg (by rw [hl']; simp)) (Eq.trans (if_neg c2) ?_)
  have e := congrArg (fun x => (pure (x.filterMap (fun n => (((as.map (·.arg)).zip vs).lookup n).map (n, ·))) : Sem (List (Str × Value)))) (List.append_nil (as.map (·.arg)))
  rw [zip_pick nd hl'] at e
  refine Eq.trans (zip_for List.drop_nil) ?_
  exact e
noncomputable def isFun (k : ScopeKind) : Bool := match k with
  | .function => true
  | _ => false
theorem isFun_eq {k : ScopeKind} (h : isFun k = true) : k = .function := by cases k <;> first | rfl | cases h
noncomputable def fdB (K : Frag) (fd : FuncData) (ps : List Nat) : Bool :=
  codeIn K fd.code fd.qualname && (Nat.beq fd.globals mainGlobals && (Nat.beq fd.builtins builtinsNs && (isFun fd.scope.kind && (!fd.scope.isCoroutine && (!fd.scope.isGenerator && (ndB (fd.scope.names.map (·.1)) &&
    (cloB K fd.scope.names fd.closure && (ps.all (fun i => (ownAt 0 fd.scope.names).contains i) && (plainArg fd.params && (isNoneV fd.defaults && (argsB fd.scope.names ps fd.params.args && ndB (fd.params.args.map (·.arg)))))))))))))
noncomputable def bodyS : FuncBody → Option (List Stmt)
  | .stmts b => some b
  | _ => none
theorem bodyS_eq {d : FuncBody} {v : List Stmt} (h : bodyS d = some v) : d = .stmts v := by cases d <;> first | exact nn h | (cases h; rfl)
noncomputable def fnB (K : Frag) (a : Addr) (ps : List Nat) (f : FuncData → List Stmt → Bool) : Bool := (K.lookup a).any fun o => (dFunc o.data).any fun fd => (bodyS fd.body).any fun body => fdB K fd ps && f fd body
set_option tactic.hygienic true in
theorem fnB_ok {Γ : Gl} {K : Frag} (X : K.In Γ.h₀) {a : Addr} {ps : List Nat} {f : FuncData → List Stmt → Bool} (e : fnB K a ps f = true) : ∃ fd body, FnOk Γ a fd body ps ∧ f fd body = true := by
  obtain ⟨o, ho, e⟩ := anyE e
  obtain ⟨fd, hd, e⟩ := anyE e
  obtain ⟨body, hb, e⟩ := anyE e
  rw [Bool.and_eq_true] at e
  obtain ⟨e, hf⟩ := e
  unfold fdB at e
  simp only [Bool.and_eq_true, Bool.not_eq_true'] at e
  obtain ⟨a1, a2, a3, a4, a5, a6, a7, a8, a9, a10, a11, a12, a13⟩ := e
  obtain ⟨c1, c2⟩ := cloB_clo X a8
  have nd := ndB_nodup a13
  have hx := argsB_eq a12
  have hlen : ps.length = fd.params.args.length := by simpa using congrArg List.length hx
  refine ⟨fd, body, ⟨⟨_, X _ _ ho, dFunc_eq hd⟩, codeRec_of X a1, bodyS_eq hb, Nat.eq_of_beq_eq_true a2, Nat.eq_of_beq_eq_true a3, isFun_eq a4, a5, a6, ndB_nodup a7, c1, c2, fun i hi => ?_, fun vs hv => ?_⟩, hf⟩
  · have z := List.all_eq_true.mp a9 i hi
    simpa using z
  · exact ⟨_, bind_plain a10 a11 nd (hv.trans hlen), hx⟩
abbrev Fn4 := Addr × List MS × List Nat × Nat
noncomputable def fnL : List Fn4 := [(57, m_put_behind, [0, 1, 2], 4), (64, m_from_values, [0], 6), (71, m_least, [0], 1), (78, m_greatest, [0], 1), (97, m_up_to, [0, 1], 3), (102, m_from_on, [0, 1], 3), (109, m_without, [0, 1], 4), (130, m_struck, [0, 1], 8),
  (151, m_Store__init, [0], 1), (158, m_Store_new_var, [0, 1], 3), (186, m_Store_low, [0, 1], 3), (193, m_Store_high, [0, 1], 3), (235, m_Store_enter, [0, 1, 2, 3], 9), (249, m_Store_decide, [0, 1], 2), (263, m_Store_push, [0], 2), (270, m_Store_pop, [0, 1], 5),
  (305, m_Propagator__init, [0, 1, 2], 4), (340, m_as_numbers, [0, 1, 2], 8), (361, m_Cumulative_tasks, [0], 3), (368, m_Cumulative_sure_times, [0, 1], 6), (373, m_Cumulative_blocks, [0, 1], 12), (380, m_Cumulative_enough_of, [0, 1, 2], 6), (387, m_Cumulative_reasons_for, [0, 1, 2, 3], 6),
  (434, m_law_draw, [0, 1], 5), (441, m_law_bars, [0, 1], 5), (446, m_law_starts, [0], 5), (451, m_law_sure, [0, 1], 10), (456, m_law_is_block_right, [0, 1, 2, 3, 4], 12), (461, m_law_is_enough_right, [0, 1, 2, 3], 10), (466, m_law_is_now_right, [0, 1, 2, 3, 4, 5], 26), (471, m_law, [0], 20)]
noncomputable def fnsB (K : Frag) : List Fn4 → Bool
  | [] => true
  | (a, ms, ps, nn) :: r => fnB K a ps (fun fd body => okSs fd.scope.names ms body && Nat.beq fd.scope.names.length nn) && fnsB K r
noncomputable def FNs (Γ : Gl) : List Fn4 → Prop
  | [] => True
  | (a, ms, ps, nn) :: r => FN Γ a ms ps nn ∧ FNs Γ r
theorem fnsB_ok {Γ : Gl} {K : Frag} (X : K.In Γ.h₀) : ∀ {l : List Fn4}, fnsB K l = true → FNs Γ l
  | [], _ => trivial
  | (a, ms, ps, nn) :: r, e => by
    rw [fnsB, Bool.and_eq_true] at e
    obtain ⟨fd, body, f, q⟩ := fnB_ok X e.1
    rw [Bool.and_eq_true] at q
    exact ⟨⟨fd, body, f, q.1, Nat.eq_of_beq_eq_true q.2⟩, fnsB_ok X e.2⟩

noncomputable def isRef (v : Option (Option Value)) (a : Addr) : Bool := v.any fun o => o.any fun u => (vAdr u).any fun b => Nat.beq b a
theorem isRef_eq {v : Option (Option Value)} {a : Addr} (h : isRef v a = true) : v = some (some (.ref a)) := by
  obtain ⟨o, e1, h1⟩ := anyE h
  obtain ⟨u, e2, h2⟩ := anyE h1
  obtain ⟨b, e, h3⟩ := anyE h2
  rw [e1, e2, vAdr_eq e, Nat.eq_of_beq_eq_true h3]
noncomputable def isNo (v : Option (Option Value)) : Bool := match v with
  | some none => true
  | _ => false
theorem isNo_eq {v : Option (Option Value)} (h : isNo v = true) : v = some none := by
  unfold isNo at h
  split at h
  · rfl
  · cases h
noncomputable def gvB (K : Frag) (l : List (Str × Addr)) : Bool := l.all fun p => isRef (nsIn K mainGlobals p.1) p.2 && keepIn K (.ref p.2)
noncomputable def noB (K : Frag) : List Str → Bool
  | [] => true
  | x :: r => isNo (nsIn K mainGlobals x) && noB K r
noncomputable def NoL (K : Frag) : List Str → Prop
  | [] => True
  | x :: r => nsIn K mainGlobals x = some none ∧ NoL K r
theorem noB_ok {K : Frag} : ∀ {l : List Str}, noB K l = true → NoL K l
  | [], _ => trivial
  | _ :: _, h => ⟨isNo_eq (Bool.and_eq_true_iff.mp h).1, noB_ok (Bool.and_eq_true_iff.mp h).2⟩
noncomputable def biL : List Str := ["len", "min", "max", "sum", "sorted", "list", "tuple", "all", "range", "zip", "enumerate", "set", "super"]
theorem gtab_of {Γ : Gl} (e1 : gvB Γ.K gvL = true) (e2 : noB Γ.K biL = true) : GTab Γ ∧ GN Γ "super" (.type "super") := by
  have nb : ∀ {x : Str} {v : Value}, nsIn Γ.K mainGlobals x = some none → bootBuiltins x = some v → x ≠ "__name__" → GN Γ x v := fun hx hv hn => .inr ⟨mg_none_of Γ.X Γ.G hx, (Γ.hB _ hn).trans hv⟩
  obtain ⟨n1, n2, n3, n4, n5, n6, n7, n8, n9, n10, n11, n12, n13, _⟩ := noB_ok e2
  refine ⟨⟨fun x a h => ?_, fun b => ?_, nb n9 (by kernel_rfl) (by decide), nb n10 (by kernel_rfl) (by decide), nb n11 (by kernel_rfl) (by decide), nb n12 (by kernel_rfl) (by decide)⟩, nb n13 (by kernel_rfl) (by decide)⟩
  · have z := List.all_eq_true.mp e1 _ (mem_of_lookup h)
    rw [Bool.and_eq_true] at z
    exact ⟨.inl (mg_of Γ.X Γ.G (isRef_eq z.1)), calleeOk_fn z.2⟩
  · cases b <;> first | exact nb n1 (by kernel_rfl) (by decide) | exact nb n2 (by kernel_rfl) (by decide) | exact nb n3 (by kernel_rfl) (by decide) | exact nb n4 (by kernel_rfl) (by decide) | exact nb n5 (by kernel_rfl) (by decide) | exact nb n6 (by kernel_rfl) (by decide) | exact nb n7 (by kernel_rfl) (by decide) | exact nb n8 (by kernel_rfl) (by decide)

end Mine

open PySem PySem.Calls PyProof.Rows PySem.W
set_option maxRecDepth 100000
set_option linter.unusedVariables false
set_option backward.match.sparseCases false
namespace Mine
noncomputable def attrB (K : Frag) (C : Addr) (x : Str) : Bool := plainGet K C x && (hasDictIn K C && ((match findIn K (.ref C) x with
  | some attr => noGet K attr
  | none => false) && (findIn K (.ref C) "__setattr__" == some (some (.builtin "object.__setattr__")) && (plainOver K C && isNo (takerIn K C x)))))
theorem attrB_ok {K : Frag} {C : Addr} {x : Str} (h : attrB K C x = true) : AttrFact K C x := by
  unfold attrB at h
  simp only [Bool.and_eq_true] at h
  obtain ⟨h1, h2, h3, h4, h5, h6⟩ := h
  refine ⟨h1, h2, ?_, beq_iff_eq.mp h4, h5, isNo_eq h6⟩
  cases e : findIn K (.ref C) x with
  | none => rw [e] at h3; exact ff h3
  | some a => rw [e] at h3; exact ⟨a, rfl, h3⟩
noncomputable def methB (K : Frag) (C : Addr) (x : Str) (f : Addr) : Bool := plainGet K C x && (isRef (findIn K (.ref C) x) f && (isFn K (.ref f) && keepIn K (.ref f)))
theorem methB_ok {K : Frag} {C : Addr} {x : Str} {f : Addr} (h : methB K C x f = true) : MethFact K C x f := by
  unfold methB at h
  simp only [Bool.and_eq_true] at h
  obtain ⟨h1, h2, h3, h4⟩ := h
  exact ⟨h1, isRef_eq h2, h3, h4⟩
noncomputable def attrsB (K : Frag) (C : Addr) : Nat → List Str → Bool
  | _, [] => true
  | k, x :: r => (!attrOkT C k || attrB K C x) && attrsB K C (k + 1) r
theorem attrsB_ok {K : Frag} {C : Addr} : ∀ {l : List Str} {j : Nat}, attrsB K C j l = true → ∀ k x, attrOkT C (j + k) = true → l[k]? = some x → AttrFact K C x
  | [], _, _, k, x, _, h => by simp at h
  | y :: r, j, e, k, x, hk, h => by
    rw [attrsB, Bool.and_eq_true] at e
    cases k with
    | zero =>
      cases h
      have z := e.1
      rw [Nat.add_zero] at hk
      rw [hk] at z
      exact attrB_ok z
    | succ k => exact attrsB_ok e.2 k x (by rw [Nat.add_right_comm]; exact hk) h
noncomputable def methsB (K : Frag) (C : Addr) : Nat → List Str → Bool
  | _, [] => true
  | k, x :: r => (match methT C k with
    | some f => methB K C x f
    | none => true) && methsB K C (k + 1) r
theorem methsB_ok {K : Frag} {C : Addr} : ∀ {l : List Str} {j : Nat}, methsB K C j l = true → ∀ k x f, methT C (j + k) = some f → l[k]? = some x → MethFact K C x f
  | [], _, _, k, x, _, _, h => by simp at h
  | y :: r, j, e, k, x, f, hk, h => by
    rw [methsB, Bool.and_eq_true] at e
    cases k with
    | zero =>
      cases h
      have z := e.1
      rw [Nat.add_zero] at hk
      rw [hk] at z
      exact methB_ok z
    | succ k => exact methsB_ok e.2 k x f (by rw [Nat.add_right_comm]; exact hk) h
theorem attr_cls {C k : Nat} (h : attrOkT C k = true) : C = 287 ∨ C = 425 := by
  unfold attrOkT at h
  simp only [Bool.or_eq_true, Bool.and_eq_true, beq_iff_eq] at h
  rcases h with h | h
  · exact .inl h.1
  · exact .inr h.1.1
theorem meth_cls {C k f : Nat} (h : methT C k = some f) : C = 287 ∨ C = 425 := by
  by_cases c : C = 287
  · exact .inl c
  · by_cases d : C = 425
    · exact .inr d
    · have e : methT C k = none := by rw [methT, if_neg c, if_neg fun q => d q.1]
      rw [e] at h
      exact nn h
noncomputable def supF (fd : FuncData) (body : List Stmt) : Bool := okSup fd.scope.names body && (Nat.beq fd.scope.names.length 9 && (decide (fd.scope.names[0]? = some (("self", NameKind.local) : Str × NameKind)) && (decide (fd.scope.names.lookup ("super" : Str) = some .globalImplicit) &&
  (decide (fd.scope.names.lookup ("__class__" : Str) = some .free) && (decide ((fd.params.posonlyargs ++ fd.params.args).head?.map (·.arg) = some ("self" : Str)) && ((match fd.code with
  | .ref c => Nat.beq c 355
  | _ => false) && decide (fd.closure = [(("__class__" : Str), 344)])))))))
noncomputable def codeB (p : Program) (K : Frag) : Bool := (K.lookup 355).any fun o => (dFlds o.data).any fun vs => (vs[2]? : Option Value).any fun v => (vText v).any fun file => (p.main.file : Str) == file
noncomputable def cellB (K : Frag) : Bool := (K.lookup 344).any fun o => isRef (dCell o.data) 425
noncomputable def superB (K : Frag) : Bool := (clsIn K 425).any fun cd => isRef (alongIn K "__init__" ((cd.mro.dropWhile (· != .ref 425)).drop 1)) 305
noncomputable def supB (p : Program) (K : Frag) : Bool := fnB K 356 [0, 1, 2, 3, 4] supF && (codeB p K && (!(p.main.scope.names.lookup ("super" : Str)).isSome && (cellB K && (superB K && (mroIn K 425 (.ref 425) == some true && (isNo (nsIn K cStatics "thirdparty.any") && (fnIn K 305 && typeIn K (.ref 305) == some (.type "function"))))))))
set_option tactic.hygienic true in
theorem supB_ok {Γ : Gl} (h : supB Γ.prog Γ.K = true) (hs : GN Γ "super" (.type "super")) : SupF Γ := by
  unfold supB at h
  simp only [Bool.and_eq_true, Bool.not_eq_true'] at h
  obtain ⟨h1, h2, h3, h4, h5, h6, h7, h8, h9⟩ := h
  obtain ⟨fd, body, f, hf⟩ := fnB_ok Γ.X h1
  unfold supF at hf
  simp only [Bool.and_eq_true, decide_eq_true_eq] at hf
  obtain ⟨a1, a2, a3, a4, a5, a6, a7, a8⟩ := hf
  refine ⟨⟨fd, body, f, a1, Nat.eq_of_beq_eq_true a2, a3, a4, a5, Option.map_eq_some_iff.mp a6, ?_, a8⟩, ?_, h3, ?_, hs, ?_, beq_iff_eq.mp h6, isNo_eq h7, h8, beq_iff_eq.mp h9⟩
  · split at a7
    · rename_i c e; rw [e, Nat.eq_of_beq_eq_true a7]
    · cases a7
  · obtain ⟨o, ho, h2⟩ := anyE h2
    obtain ⟨vs, e1, h2⟩ := anyE h2
    obtain ⟨v, e2, h2⟩ := anyE h2
    obtain ⟨file, e3, h2⟩ := anyE h2
    obtain ⟨t, e3⟩ := vText_eq e3
    exact ⟨_, vs, file, t, Γ.X _ _ ho, dFlds_eq e1, e3 ▸ e2, h2⟩
  · obtain ⟨o, ho, h4⟩ := anyE h4
    exact ⟨_, Γ.X _ _ ho, dCell_eq (isRef_eq h4)⟩
  · obtain ⟨cd, e, h5⟩ := anyE h5
    exact ⟨cd, e, isRef_eq h5⟩
noncomputable def clB (K : Frag) : Bool := makesIn K 287 && (isRef (findIn K (.ref 287) "__init__") 151 && (typeIn K (.ref 151) == some (.type "function") && (makesIn K 425 && (isRef (findIn K (.ref 425) "__init__") 356 && typeIn K (.ref 356) == some (.type "function")))))
theorem clB_ok {Γ : Gl} (h : clB Γ.K = true) : ClF Γ := by
  unfold clB at h
  simp only [Bool.and_eq_true] at h
  obtain ⟨h1, h2, h3, h4, h5, h6⟩ := h
  exact ⟨h1, isRef_eq h2, beq_iff_eq.mp h3, h4, isRef_eq h5, beq_iff_eq.mp h6⟩
noncomputable def allB (p : Program) (K : Frag) : Bool := fnsB K fnL && (gvB K gvL && (noB K biL && (supB p K && (clB K && (attrsB K 287 0 attrNames && (attrsB K 425 0 attrNames && (methsB K 287 0 methNames && (methsB K 425 0 methNames && (K.lookup sysModules).isSome))))))))
theorem pr_of {Γ : Gl} (gt : GTab Γ) (h : FNs Γ fnL) : PR Γ := by
  obtain ⟨f57, f64, f71, f78, f97, f102, f109, f130, f151, f158, f186, f193, f235, f249, f263, f270, f305, f340, f361, f368, f373, f380, f387, f434, f441, f446, f451, f456, f461, f466, f471, _⟩ := h
  exact ⟨gt, f57, f64, f71, f78, f97, f102, f109, f130, f151, f158, f186, f193, f235, f249, f263, f270, f305, f340, f361, f368, f373, f380, f387, f434, f441, f446, f451, f456, f461, f466, f471⟩
theorem world_of {p : Program} {w : World} {K : Frag} {s : Shared} {mg mb : Str → Option Value} (X : K.In s.heap) (G : s.heap.Ns mainGlobals mg) (B : s.heap.Ns builtinsNs mb) (hB : ∀ x : Str, x ≠ "__name__" → mb x = bootBuiltins x) (lim : s.heap.NoLimit)
    (h : allB p K = true) : ∃ Γ : Gl, PW Γ ∧ Γ.prog = p ∧ Γ.w = w ∧ Γ.h₀ = s.heap ∧ Γ.s₀ = s ∧ Γ.mg = mg := by
  unfold allB at h
  simp only [Bool.and_eq_true] at h
  obtain ⟨h1, h2, h3, h4, h5, h6, h7, h8, h9, h10⟩ := h
  obtain ⟨o, ho⟩ := Option.isSome_iff_exists.mp h10
  let Γ : Gl := ⟨p, w, K, s.heap, s, mg, mb, X, G, B, hB, lim, ⟨o, X _ _ ho⟩,
    fun C k hk x hx => by
      rcases attr_cls hk with rfl | rfl
      · exact attrsB_ok h6 k x (by rw [Nat.zero_add]; exact hk) hx
      · exact attrsB_ok h7 k x (by rw [Nat.zero_add]; exact hk) hx,
    fun C k f hk x hx => by
      rcases meth_cls hk with rfl | rfl
      · exact methsB_ok h8 k x f (by rw [Nat.zero_add]; exact hk) hx
      · exact methsB_ok h9 k x f (by rw [Nat.zero_add]; exact hk) hx⟩
  obtain ⟨gt, gs⟩ := gtab_of (Γ := Γ) h2 h3
  exact ⟨Γ, PW.mk' (pr_of gt (fnsB_ok X h1)) (supB_ok h4 gs) (clB_ok h5), rfl, rfl, rfl, rfl, rfl⟩
end Mine

open PySem PySem.Calls PyProof.Rows PySem.W
set_option maxRecDepth 100000
set_option linter.unusedVariables false
set_option backward.match.sparseCases false
namespace Mine
noncomputable def runT (st : SharedT → Thread → Option (SharedT × Thread)) (ok : Thread → Bool) (n : Nat) : SharedT → Thread → Option SharedT :=
  Nat.rec (fun _ _ => none) (fun _ ih s t => match through t with
    | true => some s
    | false => match ok t with
      | false => none
      | true => match st s t with
        | some (s', t') => ih s' t'
        | none => none) n
theorem runT_spec {tb : String → Option Builtin} {p : Program} {w : World} {n₀ : Nat} {ann : Option Value} : ∀ {n : Nat} {s s' : SharedT} {t : Thread}, runT (stepT (denote tb) p w) (stepOk n₀ ann) n s t = some s' → topRun tb p w n₀ ann n s.abs t = some s'.abs
  | 0, _, _, _, h => by cases h
  | n + 1, s, s', t, h => by
    have h : (match through t with
      | true => some s
      | false => match stepOk n₀ ann t with
        | false => none
        | true => match stepT (denote tb) p w s t with
          | some (s', t') => runT (stepT (denote tb) p w) (stepOk n₀ ann) n s' t'
          | none => none) = some s' := h
    show (match through t with
      | true => some s.abs
      | false => match stepOk n₀ ann t with
        | false => none
        | true => match step (denote tb) p w s.abs t with
          | .go s' t' => topRun tb p w n₀ ann n s' t'
          | .halt _ _ => none) = some s'.abs
    cases ht : through t with
    | true => rw [ht] at h; cases h; rfl
    | false =>
      rw [ht] at h
      cases hk : stepOk n₀ ann t with
      | false => rw [hk] at h; cases h
      | true =>
        rw [hk] at h
        cases hs : stepT (denote tb) p w s t with
        | none => rw [hs] at h; cases h
        | some r =>
          obtain ⟨s₂, t₂⟩ := r
          rw [hs] at h
          rw [stepT_spec hs]
          exact runT_spec h
theorem left_of {p q : Program} {loose : List Str} {Xt : Shared → Bool} {Yf : Shared → Prop} {N : Nat} {g0 : Bool} {H₀ : Params → Heap} {gs₀ : Array GenState} {d₀ : Drawn} {k₀ m₀ : Nat} {ann : Option Value} {M : Nat}
    (open_ : ∀ w : World, (fencedOpening treeTable p w N).map (fun s => (s.heap, s.gens, s.drawn, s.toks)) = some (H₀ w.params, gs₀, d₀, k₀))
    (size : ∀ w : World, ((H₀ w.params).isNs mainGlobals && gs₀.size == 0, (H₀ w.params).objs.size, (H₀ w.params).nsMap mainGlobals "__annotations__") = (true, m₀, ann)) (le : Nat.ble M N = true)
    (run : ∀ (w : World) (os : OsState), ∃ s₁, topRun treeTable p w m₀ ann M ⟨H₀ w.params, gs₀, d₀, k₀, os⟩ (topStub p) = some s₁ ∧
      (staticsOk (importedModules p.main.body) (H₀ w.params) s₁.heap && namesBound p s₁.heap && gensDone s₁ && laidKept (H₀ w.params) s₁.heap) = true ∧ openSeen q loose (importedModules p.main.body) Xt g0 s₁ = openGood q loose ∧ Yf s₁) :
    LeftO p q loose Xt Yf (fun _ => True) N g0 := fun w => by
  obtain ⟨⟨h, gs, d, k, os⟩, e, e'⟩ := Option.map_eq_some_iff.mp (open_ w)
  simp only [Prod.mk.injEq] at e'
  obtain ⟨rfl, rfl, rfl, rfl⟩ := e'
  have z := size w
  simp only [Prod.mk.injEq] at z
  obtain ⟨z1, z2, z3⟩ := z
  obtain ⟨s₁, r, l1, l2, l3⟩ := run w os
  have r := topRun_mono (N - M) _ _ _ _ r
  rw [show M + (N - M) = N by have := Nat.le_of_ble_eq_true le; omega] at r
  have t : topFrom treeTable p w N ⟨H₀ w.params, gs, d, k, os⟩ = some s₁ := by
    unfold topFrom
    dsimp only
    rw [z1, z2, z3, r]
    show (match staticsOk (importedModules p.main.body) (H₀ w.params) s₁.heap && namesBound p s₁.heap && gensDone s₁ && laidKept (H₀ w.params) s₁.heap with | true => _ | false => _) = _
    rw [l1]
  unfold openEnds
  rw [e]
  show (topFrom treeTable p w N _).map _ = _
  rw [t]
  exact congrArg some (Prod.ext l2 (eq_true l3))

open PySem.Challenge
noncomputable def bt (P : Params) : BT := .node (boot_o_0 P) (.node (boot_o_1 P) (.node (boot_o_3 P) (.node (boot_o_7 P) .nil .nil) .nil) (.node (boot_o_5 P) (.node (boot_o_9 P) .nil .nil) .nil))
  (.node (boot_o_2 P) (.node (boot_o_4 P) (.node (boot_o_8 P) .nil .nil) .nil) (.node (boot_o_6 P) (.node (boot_o_10 P) .nil .nil) .nil))
theorem bt_abs (P : Params) : absHeap (bt P) 11 {} = boot_heap P := by kernel_rfl
noncomputable def qv : Program := { pw_nz0025_01 with main := { pw_nz0025_01.main with body := pw_nz0025_01.main.body.drop 32 } }
noncomputable def looseL : List Str := ["_wall", "FdError", "put_behind", "from_values", "least", "greatest", "next_from", "has", "has_domains", "up_to", "from_on", "without", "meet", "negation", "struck", "said_of", "Store", "Propagator", "as_numbers", "Cumulative",
  "_law_draw", "_law_bars", "_law_starts", "_law_sure", "_law_is_block_right", "_law_is_enough_right", "_law_is_now_right"]
noncomputable def st0 (w : World) (os : OsState) : SharedT := ⟨bt w.params, 11, {}, #[], boot_drawn, boot_toks, os⟩
noncomputable def lookB (w : World) (s : SharedT) : Bool := staticsOk [] (boot_heap w.params) s.abs.heap && namesBound pw_nz0025_01 s.abs.heap && gensDone s.abs && laidKept (boot_heap w.params) s.abs.heap && allB pw_nz0025_01 (fragT s.tree s.n)
open PySem.W.Fast in
theorem big_run (w : World) (os : OsState) : (runT (tw10156331382660048174 (tw11892475500146522536 tw14364793385576792824) pw_nz0025_01 w) (tw6613529449190102663 11 (some (.ref 6))) 3000 (st0 w os) (topStub pw_nz0025_01)).map (fun s => (lookB w s, tw4187177175401517315 qv looseL [] (recOk []) true s.abs)) = some (true, openGood qv looseL) := by kernel_rfl
end Mine

open PySem PySem.Calls PyProof.Rows PySem.W
set_option maxRecDepth 100000
set_option linter.unusedVariables false
set_option backward.match.sparseCases false
namespace Mine
open PySem.Challenge
open PySem.W.Fast in
theorem run_law (w : World) (os : OsState) : ∃ s₁, topRun treeTable pw_nz0025_01 w 11 (some (.ref 6)) 3000 ⟨boot_heap w.params, #[], boot_drawn, boot_toks, os⟩ (topStub pw_nz0025_01) = some s₁ ∧
    (staticsOk (importedModules pw_nz0025_01.main.body) (boot_heap w.params) s₁.heap && namesBound pw_nz0025_01 s₁.heap && gensDone s₁ && laidKept (boot_heap w.params) s₁.heap) = true ∧
    openSeen qv looseL (importedModules pw_nz0025_01.main.body) (recOk []) true s₁ = openGood qv looseL ∧ ∃ K : Frag, K.In s₁.heap ∧ allB pw_nz0025_01 K = true := by
  have h := big_run w os
  rw [← te10156331382660048174, ← te11892475500146522536, ← te14364793385576792824, ← te6613529449190102663, ← te4187177175401517315] at h
  obtain ⟨s, hr, hv⟩ := Option.map_eq_some_iff.mp h
  have e := runT_spec hr
  have e0 : (st0 w os).abs = ⟨boot_heap w.params, #[], boot_drawn, boot_toks, os⟩ := by
    show Shared.mk (absHeap (bt w.params) 11 {}) _ _ _ _ = _
    rw [bt_abs]
    rfl
  rw [e0] at e
  have im : importedModules pw_nz0025_01.main.body = [] := by kernel_rfl
  rw [Prod.mk.injEq] at hv
  obtain ⟨h1, h2⟩ := hv
  unfold lookB at h1
  rw [Bool.and_eq_true] at h1
  rw [im]
  exact ⟨s.abs, e, h1.1, h2, _, fragT_in s.tree s.n s.life, h1.2⟩
theorem left_law : LeftO pw_nz0025_01 qv looseL (recOk []) (fun s => ∃ K : Frag, K.In s.heap ∧ allB pw_nz0025_01 K = true) (fun _ => True) 6000 :=
  left_of (boot_open (by kernel_rfl) (by kernel_rfl) (fun s => by kernel_rfl)) (fun w => by kernel_rfl) (by kernel_rfl) run_law
noncomputable def Known (h : Heap) : Prop := ∃ K : Frag, K.In h ∧ allB pw_nz0025_01 K = true
theorem vrs_ints {P : Params} {h : Heap} {i : Im} {xs : List WData} : ∀ {vs : List Value}, WellAll P h vs xs → (∀ d ∈ xs, ∃ k, d = .int k) → ∃ ns : List Int, VRs i vs (ns.map .int) ∧ ns.length = xs.length := by
  induction xs with
  | nil => intro vs w _; cases w; exact ⟨[], .nil, rfl⟩
  | cons d xs ih =>
    intro vs w hk
    cases w with
    | cons hv hr =>
    obtain ⟨ns, a, b⟩ := ih hr fun d hd => hk d (List.mem_cons_of_mem _ hd)
    obtain ⟨k, rfl⟩ := hk d List.mem_cons_self
    cases hv with
    | int _ t => exact ⟨k :: ns, .cons (.int k t) a, congrArg (· + 1) b⟩
theorem law_call {Γ : Gl} (W : PW Γ) (hh : Γ.h₀ = Γ.s₀.heap) {v : Value} {ns : List Int} (hv : VR (im [] (fun _ => none) Γ.s₀.heap) v (.lst (ns.map .int))) (hl : ns.length ≤ 1000) :
    wpAny (model Γ.prog Γ.w) callerA (PySem.call (.ref 471) [v]) (fun r s' => r = .bool true ∧ (∀ b o, Γ.s₀.heap.get? b = some o → s'.heap.get? b = some o) ∧ s'.gens = Γ.s₀.gens ∧ s'.os = Γ.s₀.os) (fun _ _ => False) Γ.s₀ := by
  have G : GS Γ [] (fun _ => none) Γ.s₀ := ⟨fun b o e => hh ▸ e, fun b o e => ⟨rfl, List.not_mem_nil⟩, fun a ha => (List.not_mem_nil ha).elim, (fun a m e => by cases e), rfl, rfl⟩
  have hA : Room 6 callerA := ⟨rfl, by decide, by decide⟩
  have c := c_law (n := 0) (μ := fun _ => none) (Q := fun p _ => p = .bool true) W (script := ns) hl (fun _ => rfl) callerA [] Γ.s₀ [v] hA G (.cons hv .nil)
  refine wpAny_call (codeAny_mono c fun r s' z => ?_)
  rcases r with e | (u | _ | _ | _) <;> first | exact z.elim | skip
  obtain ⟨p, μ', rfl, G', x, hr⟩ := z
  refine ⟨?_, fun b o e => G'.keep b o (hh ▸ e), G'.gens, G'.os⟩
  cases hr
  rfl
theorem law_walk {d : DefRec} {kwd : List (Str × Expr)} (hdef : defOf qv rw_nz0025_01.row.name = some (d, kwd)) :
    WalkO qv looseL (fun _ _ => True) (fun _ h => Known h) rw_nz0025_01.row.toRowW d kwd fun f vs => PySem.call f vs := by
  intro w s₀ s₁ mg mb G Y a o pm cd doc dV kV ho hd hcd hD hmg hg args vals as hpre hlay hrd hwl hlo
  obtain ⟨K, hK, hall⟩ := Y
  obtain ⟨Γ, W, e1, e2, e3, e4, e5⟩ := world_of (w := w) (s := s₁) hK G.T.g G.T.b G.T.builtins G.T.nolimit hall
  have hn : d.name = "law" := defOf_name hdef
  have ha : a = 471 := by
    have z := (W.gt.fn "law" 471 (by decide +kernel)).1
    rcases z with z | ⟨z, _⟩ <;> rw [e5, ← hn, hmg] at z <;> cases z
    rfl
  subst ha
  have hsh := (pre_splitW hpre).1
  have hcond := (pre_splitW hpre).2
  obtain ⟨d1, r1, rfl, h1, h2⟩ := hasAllW_cons hsh
  obtain rfl := hasAllW_nil h2
  obtain ⟨xs, rfl, h3⟩ := hasW_list h1
  cases hwl with
  | cons hv hr =>
  cases hr
  cases hv with
  | list hl hx =>
  obtain ⟨ns, hns, hlen⟩ := vrs_ints (i := im [] (fun _ => none) Γ.s₀.heap) hx fun d hd => hasW_int (hasItemsW_at h3 d hd)
  have hle : xs.length ≤ 1000 := by
    clear hpre hrd hlo hlay hsh
    w_cond hcond
    omega
  have z := law_call W (e3.trans (congrArg Shared.heap e4.symm)) (.lst (n := 0) ⟨by rw [e4]; exact hl, rfl, List.not_mem_nil⟩ hns) (by omega)
  rw [e1, e2, e4] at z
  refine wpAny_mono z (fun r s' q => ?_) fun _ _ q => q.elim
  obtain ⟨rfl, q1, q2, q3⟩ := q
  exact ⟨.inl ⟨.bool true, .bool true, [], rfl, fun _ => rfl, .bool true, (by wrow_post), fun _ => ⟨List.nodup_nil, fun a ha => (List.not_mem_nil ha).elim⟩⟩, .of_keep q1, q3, .of_eq (q2.trans hg)⟩
theorem def_law : ∃ d kwd, defOf qv rw_nz0025_01.row.name = some (d, kwd) ∧ pw_nz0025_01.theDef rw_nz0025_01.row.name = some (d.params, d.body, d.scope) ∧ kwWritten? d.params.kwonlyargs d.params.kw_defaults = some kwd := by
  have e5 : (defOf qv rw_nz0025_01.row.name).isSome = true := by kernel_rfl
  have e6 : (defOf qv rw_nz0025_01.row.name).map (fun x => (x.1.params, x.1.body, x.1.scope)) = pw_nz0025_01.theDef rw_nz0025_01.row.name := by kernel_rfl
  have e7 : (defOf qv rw_nz0025_01.row.name).map (fun x => kwWritten? x.1.params.kwonlyargs x.1.params.kw_defaults) = (defOf qv rw_nz0025_01.row.name).map (fun x => some x.2) := by kernel_rfl
  obtain ⟨⟨d, kwd⟩, e⟩ := Option.isSome_iff_exists.mp e5
  rw [e] at e6 e7
  exact ⟨d, kwd, e, e6.symm, Option.some.inj e7⟩
theorem law_looks : (chainsOk qv && opensWell rw_nz0025_01.row.prog && (frees rw_nz0025_01.row.toRowW && rw_nz0025_01.row.within.isEmpty)) = true := by kernel_rfl
theorem law_said : rw_nz0025_01.wellSaid = true := by
  unfold OpenLaw.wellSaid OpenRow.wellSaid OpenRow.partSaid looksOpen
  repeat' (with_reducible refine look_both ?_ ?_)
  all_goals decide +kernel
theorem law_bare : rw_nz0025_01.row.prog.bare := ⟨rfl, rfl, rfl, rfl, rfl, by kernel_rfl⟩
theorem law_promised : rw_nz0025_01.row.toRowW.promised := ⟨[.list []], by kernel_rfl, by kernel_rfl⟩
theorem law_holds : rw_nz0025_01.Holds := by
  obtain ⟨d, kwd, h1, h2, h3⟩ := def_law
  exact holds_law law_said fun said => holds_open (r := rw_nz0025_01.row) (q := qv) (loose := looseL) (Xt := recOk []) (XP := fun _ _ => True) (Yf := fun s => ∃ K : Frag, K.In s.heap ∧ allB pw_nz0025_01 K = true) (Ya := fun _ => True) (YP := fun _ h => Known h) (N := 6000)
    left_law (fun w s e => of_eq_true e) (fun w h h' ⟨K, a, b⟩ k => ⟨K, fun c o e => k _ _ (a _ _ e), b⟩) (fun _ _ => trivial) (fun _ _ _ _ _ => trivial) h1 h2 h3 (fun s e => recFacts_of e) (by rfl) said law_looks law_bare law_promised (law_walk h1)
end Mine
theorem PySem.Challenge.cw_nz0025_01_holds : PySem.Challenge.rw_nz0025_01.Holds :=
  Mine.law_holds
