import PyProof.Rows.All
import Wide.All
import OpenK.AllK
import Wide.FinOn
import KE.KWords
import KE.KItem
import KE.IntBitsLaws
import PyProof.StrLawsNeg
import PyProof.Rows.StrSplitJoin
import PyProof.NeKinds
import PyProof.Cells
import PyProof.CompFree
import PySem.Challenge.RW_on0065_01
open PySem PySem.W PyProof.Rows
set_option Elab.async false
set_option maxRecDepth 100000
set_option linter.unusedVariables false
set_option maxHeartbeats 8000000
namespace Fil
theorem said : OpenLaw.wellSaid PySem.Challenge.rw_on0065_01 = true := by
  kernel_rfl
section
local macro_rules | `(tactic| o_law) => `(tactic| refine holds_law Fil.said fun said => ?_)
local macro_rules | `(tactic| refine $f:ident $args*) => if f.getId == `PySem.W.holds_open then `(tactic| (refine ($f $args*); focus (intro w; kernel_rfl))) else Lean.Macro.throwUnsupported
open_top hd for PySem.Challenge.rw_on0065_01
end
end Fil
set_option maxHeartbeats 4000000
namespace Fil

noncomputable abbrev KK (w : World) : Frag := hd.heap_1 w.params
noncomputable abbrev MM (w : World) : Model := model PySem.Challenge.rw_on0065_01.row.prog w
noncomputable abbrev NoE : Value → Shared → Prop := fun _ _ => False

/-- what is kept of one heap in another -/
noncomputable def Le (z z' : Heap) : Prop := ∀ b o, z.get? b = some o → z'.get? b = some o
theorem Le.refl (z : Heap) : Le z z := fun _ _ e => e
theorem Le.trans {a b c : Heap} (x : Le a b) (y : Le b c) : Le a c := fun _ _ e => y _ _ (x _ _ e)

/-- a heap cut down to some addresses -/
noncomputable def cut (h : Heap) (p : Addr → Prop) : Heap :=
  ⟨h.objs.mapIdx fun i o => open Classical in if p i then o else { cls := .none, data := .freed }, h.life⟩
theorem get_cut_pos {h : Heap} {p : Addr → Prop} {b : Addr} (hb : p b) : (cut h p).get? b = h.get? b := by
  unfold cut Heap.get?
  simp only [Array.getElem?_mapIdx]
  cases h.objs[b]? with
  | none => rfl
  | some o => simp [hb]
theorem get_cut_neg {h : Heap} {p : Addr → Prop} {b : Addr} (hb : ¬ p b) : (cut h p).get? b = none := by
  unfold cut Heap.get?
  simp only [Array.getElem?_mapIdx]
  cases h.objs[b]? with
  | none => rfl
  | some o => simp [hb]
theorem cut_le (h : Heap) (p : Addr → Prop) : Le (cut h p) h := fun b o e => by
  by_cases hb : p b
  · rwa [get_cut_pos hb] at e
  · rw [get_cut_neg hb] at e; cases e

/-- values, by what they are -/
inductive AV where
  | none
  | bool (b : Bool)
  | int (i : Int)
  | str (x : Str)
  | list (l : List AV)
  | tup (l : List AV)
  | fill (c way leads tab : AV)

noncomputable abbrev tupOf (vs : Array Value) (n : Nat) : Obj := { cls := .type "tuple", dict := none, data := .seq vs n, slots := #[] }

mutual
noncomputable def Rep (z : Heap) (v : Value) : AV → Prop
  | .none => v = .none
  | .bool b => v = .bool b
  | .int i => ∃ t, v = .int i t
  | .str x => ∃ t, v = .str x t
  | .list l => ∃ a vs n, v = .ref a ∧ IsL z a vs n ∧ Reps z vs.toList l
  | .tup l => ∃ a vs n, v = .ref a ∧ z.get? a = some (tupOf vs n) ∧ Reps z vs.toList l
  | .fill c y d t => ∃ x dx es n sl v1 v2 v3 v4, v = .ref x ∧ z.get? x = some ⟨.ref 134, some dx, .plain, sl⟩ ∧ z.get? dx = some (dictOf es n) ∧
      (getL "column" es = some (some v1) ∧ getL "way" es = some (some v2) ∧ getL "leads" es = some (some v3) ∧ getL "tab" es = some (some v4)) ∧
      Rep z v1 c ∧ Rep z v2 y ∧ Rep z v3 d ∧ Rep z v4 t
noncomputable def Reps (z : Heap) (vs : List Value) : List AV → Prop
  | [] => vs = []
  | a :: as => ∃ v vs', vs = v :: vs' ∧ Rep z v a ∧ Reps z vs' as
end

mutual
theorem Rep.mono {z z' : Heap} (h : Le z z') : ∀ {v : Value} (a : AV), Rep z v a → Rep z' v a
  | _, .none, x => x
  | _, .bool _, x => x
  | _, .int _, x => x
  | _, .str _, x => x
  | _, .list l, ⟨a, vs, n, e, g, r⟩ => ⟨a, vs, n, e, h _ _ g, Reps.mono h l r⟩
  | _, .tup l, ⟨a, vs, n, e, g, r⟩ => ⟨a, vs, n, e, h _ _ g, Reps.mono h l r⟩
  | _, .fill c y d t, ⟨x, dx, es, n, sl, v1, v2, v3, v4, e, g, gd, q, r1, r2, r3, r4⟩ =>
    ⟨x, dx, es, n, sl, v1, v2, v3, v4, e, h _ _ g, h _ _ gd, q, Rep.mono h c r1, Rep.mono h y r2, Rep.mono h d r3, Rep.mono h t r4⟩
theorem Reps.mono {z z' : Heap} (h : Le z z') : ∀ {vs : List Value} (l : List AV), Reps z vs l → Reps z' vs l
  | _, [], x => x
  | _, a :: as, ⟨v, vs', e, r, rs⟩ => ⟨v, vs', e, Rep.mono h a r, Reps.mono h as rs⟩
end

theorem Reps.length {z : Heap} : ∀ {l : List AV} {vs : List Value}, Reps z vs l → vs.length = l.length
  | [], _, e => by rw [show _ = [] from e]; rfl
  | _ :: as, _, ⟨_, _, e, _, rs⟩ => by rw [e, List.length_cons, List.length_cons, Reps.length rs]
theorem Reps.append {z : Heap} : ∀ {l : List AV} {vs : List Value} {l' : List AV} {vs' : List Value}, Reps z vs l → Reps z vs' l' → Reps z (vs ++ vs') (l ++ l')
  | [], _, _, _, e, r => by rw [show _ = [] from e]; exact r
  | _ :: _, _, _, _, ⟨v, ws, e, r, rs⟩, r' => by rw [e]; exact ⟨v, ws ++ _, rfl, r, Reps.append rs r'⟩
theorem Reps.one {z : Heap} {v : Value} {a : AV} (r : Rep z v a) : Reps z [v] [a] := ⟨v, [], rfl, r, rfl⟩
theorem Reps.get {z : Heap} : ∀ {l : List AV} {vs : List Value}, Reps z vs l → ∀ (i : Nat) (a : AV), l[i]? = some a → ∃ v, vs[i]? = some v ∧ Rep z v a
  | a :: _, _, ⟨v, vs', e, r, rs⟩, 0, b, h => by cases h; rw [e]; exact ⟨v, rfl, r⟩
  | _ :: as, _, ⟨v, vs', e, r, rs⟩, i + 1, b, h => by rw [e]; exact Reps.get rs i b h
theorem Reps.get' {z : Heap} : ∀ {l : List AV} {vs : List Value}, Reps z vs l → ∀ (i : Nat) (v : Value), vs[i]? = some v → ∃ a, l[i]? = some a ∧ Rep z v a
  | [], _, e, i, v, h => by rw [show _ = [] from e] at h; simp at h
  | a :: _, _, ⟨v, vs', e, r, rs⟩, 0, b, h => by rw [e] at h; cases h; exact ⟨a, rfl, r⟩
  | _ :: as, _, ⟨v, vs', e, r, rs⟩, i + 1, b, h => by rw [e] at h; exact Reps.get' rs i b h
theorem Reps.take {z : Heap} : ∀ {l : List AV} {vs : List Value} (n : Nat), Reps z vs l → Reps z (vs.take n) (l.take n)
  | _, _, 0, _ => by rw [List.take_zero, List.take_zero]; exact rfl
  | [], _, n + 1, e => by rw [show _ = [] from e]; exact rfl
  | _ :: _, _, n + 1, ⟨v, ws, e, r, rs⟩ => by rw [e]; exact ⟨v, ws.take n, rfl, r, Reps.take n rs⟩
theorem Reps.drop {z : Heap} : ∀ {l : List AV} {vs : List Value} (n : Nat), Reps z vs l → Reps z (vs.drop n) (l.drop n)
  | _, _, 0, r => r
  | [], _, n + 1, e => by rw [show _ = [] from e]; exact rfl
  | _ :: _, _, n + 1, ⟨v, ws, e, r, rs⟩ => by rw [e]; exact Reps.drop n rs

/-- what a frame's name holds: a value that stays as it is, or a list that the frame alone has -/
inductive Slot where
  | v (a : AV)
  | o (l : List AV)
  | r (d : Addr)

noncomputable abbrev St := List (Option Slot)

/-- what must be so of the text's own objects -/
structure Cx (w : World) (h : Heap) : Prop where
  k : (KK w).In h
  g : ∃ mg, h.Ns mainGlobals mg
  b : ∃ mb, h.Ns builtinsNs mb ∧ ∀ x : Str, x ≠ "__name__" → mb x = bootBuiltins x
  nl : h.NoLimit
theorem Cx.mono {w : World} {h h' : Heap} (x : Cx w h) (l : Le h h') : Cx w h' :=
  ⟨fun a o e => l _ _ (x.k a o e), let ⟨mg, g⟩ := x.g; ⟨mg, g.keeps l⟩, let ⟨mb, b, e⟩ := x.b; ⟨mb, b.keeps l, e⟩, x.nl.keeps l⟩

structure Fm (V G : List Str) where
  env : Env
  h0 : Heap
  z0 : Heap
  mt : List Addr
  os : OsState
  gens : Array GenState
noncomputable abbrev Fm.vars {V G : List Str} (_ : Fm V G) : List Str := V
noncomputable abbrev Fm.globs {V G : List Str} (_ : Fm V G) : List Str := G

structure FmOk (w : World) {V G : List Str} (F : Fm V G) : Prop where
  cx : Cx w F.z0
  le : Le F.z0 F.h0
  kind : F.env.scope.kind = .function
  gl : F.env.globals = mainGlobals
  bl : F.env.builtins = builtinsNs
  nod : F.vars.Nodup
  loc : ∀ x ∈ F.vars, F.env.kindOf x = some .local ∧ (x == ("__debug__" : Str)) = false
  glo : ∀ x ∈ F.globs, F.env.kindOf x = some .globalImplicit ∧ (x == ("__debug__" : Str)) = false ∧ x ≠ "__name__"
  new : F.h0.get? F.env.locals = none
  muz : ∀ d ∈ F.mt, F.z0.get? d = none ∧ ∃ o, F.h0.get? d = some o

noncomputable def SlotOk {V G : List Str} (F : Fm V G) (res : List (Addr × Obj)) (z h : Heap) (v : Value) : Slot → Prop
  | .v a => Rep z v a
  | .o l => ∃ d vs n, v = .ref d ∧ IsL h d vs n ∧ Reps z vs.toList l ∧ z.get? d = none ∧ d ≠ F.env.locals ∧ (∀ p ∈ res, p.1 ≠ d) ∧ (F.h0.get? d = none ∨ d ∈ F.mt)
  | .r d => v = .ref d

structure Locs {V G : List Str} (F : Fm V G) (res : List (Addr × Obj)) (z h : Heap) (m : Str → Option Value) (val : Nat → Value) (σ : St) : Prop where
  at_ : ∀ i x sl, F.vars[i]? = some x → σ[i]? = some (some sl) → m x = some (val i) ∧ SlotOk F res z h (val i) sl
  apart : ∀ i j l l', i ≠ j → σ[i]? = some (some (.o l)) → σ[j]? = some (some (.o l')) → val i ≠ val j
  len : σ.length = F.vars.length

structure J (w : World) {V G : List Str} (F : Fm V G) (res : List (Addr × Obj)) (z : Heap) (σ : St) (s : Shared) : Prop where
  ok : FmOk w F
  kp : ∀ b o, b ∉ F.mt → F.h0.get? b = some o → s.heap.get? b = some o
  mte : ∀ b ∈ F.mt, ∃ o, s.heap.get? b = some o
  z0 : Le F.z0 z
  sub : Le z s.heap
  frz : ∀ b o, z.get? b = some o → F.z0.get? b = some o ∨ F.h0.get? b = none
  zL : z.get? F.env.locals = none
  rs : ∀ p ∈ res, s.heap.get? p.1 = some p.2 ∧ z.get? p.1 = none ∧ p.1 ≠ F.env.locals ∧ (F.h0.get? p.1 = none ∨ p.1 ∈ F.mt)
  rnd : (res.map (·.1)).Nodup
  loc : ∃ m val, s.heap.Ns F.env.locals m ∧ Locs F res z s.heap m val σ
  os : s.os = F.os
  gens : s.gens = F.gens

section
variable {w : World} {V G : List Str} {F : Fm V G} {res : List (Addr × Obj)} {z z' : Heap} {σ : St} {s s' : Shared}

theorem J.cx (x : J w F res z σ s) : Cx w z := x.ok.cx.mono x.z0
theorem J.cxh (x : J w F res z σ s) : Cx w s.heap := x.cx.mono x.sub

/-- nothing that was there has changed; the view may have grown by what is new -/
theorem J.grow (x : J w F res z σ s) (hk : Le s.heap s'.heap) (hz : Le z z') (hs : Le z' s'.heap) (hn : ∀ b o, z'.get? b = some o → z.get? b = some o ∨ s.heap.get? b = none)
    (os : s'.os = s.os) (gs : s'.gens = s.gens) : J w F res z' σ s' := by
  obtain ⟨m, val, hns, hl⟩ := x.loc
  have out : ∀ {b o}, s.heap.get? b = some o → z.get? b = none → z'.get? b = none := fun {b o} e n => by
    cases q : z'.get? b with
    | none => rfl
    | some o' =>
      rcases hn _ _ q with h | h
      · rw [n] at h; cases h
      · rw [e] at h; cases h
  have hL : ∃ o, s.heap.get? F.env.locals = some o := let ⟨o, _, _, e, _⟩ := hns; ⟨o, e⟩
  refine ⟨x.ok, fun b o hb e => hk _ _ (x.kp b o hb e), fun b hb => (let ⟨o, e⟩ := x.mte b hb; ⟨o, hk _ _ e⟩), x.z0.trans hz, hs, fun b o e => ?_, ?_, fun p hp => ?_, x.rnd, ⟨m, val, hns.keeps hk, ⟨fun i y sl hi hs => ?_, hl.apart, hl.len⟩⟩, os.trans x.os, gs.trans x.gens⟩
  · rcases hn _ _ e with h | h
    · exact x.frz _ _ h
    · refine .inr ?_
      by_cases hb : b ∈ F.mt
      · obtain ⟨o', q⟩ := x.mte b hb
        rw [q] at h; cases h
      · cases q : F.h0.get? b with
        | none => rfl
        | some o' => rw [x.kp b o' hb q] at h; cases h
  · obtain ⟨o, e⟩ := hL
    exact out e x.zL
  · obtain ⟨a, b, c, d⟩ := x.rs p hp
    exact ⟨hk _ _ a, out a b, c, d⟩
  · obtain ⟨e, q⟩ := hl.at_ i y sl hi hs
    refine ⟨e, ?_⟩
    cases sl with
    | v a => exact Rep.mono hz a q
    | o l =>
      obtain ⟨d, vs, n, e1, e2, e3, e4, e5⟩ := q
      exact ⟨d, vs, n, e1, hk _ _ e2, Reps.mono hz l e3, out e2 e4, e5⟩
    | r d => exact q

/-- a name's new value -/
theorem J.store {i : Nat} {x : Str} {v : Value} {sl : Slot} {h' : Heap} {tk : Nat} {m : Str → Option Value} {val : Nat → Value} (j : J w F res z σ s) (hl : Locs F res z s.heap m val σ)
    (hx : F.vars[i]? = some x) (hn : h'.Ns F.env.locals (fun y => if y = x then some v else m y)) (hs : Heap.SameBut F.env.locals s.heap h')
    (hv : SlotOk F res z s.heap v sl) (ha : ∀ k l l', k ≠ i → sl = .o l → σ[k]? = some (some (.o l')) → val k ≠ v) :
    J w F res z (σ.set i (some sl)) { s with heap := h', toks := tk } := by
  have keep : ∀ b o, b ≠ F.env.locals → s.heap.get? b = some o → h'.get? b = some o := fun b o hb e => (hs.2 b hb).trans e
  have nL : ∀ b o, F.h0.get? b = some o → b ≠ F.env.locals := fun b o e q => by rw [q, j.ok.new] at e; cases e
  have slotK : ∀ v sl, SlotOk F res z s.heap v sl → SlotOk F res z h' v sl := fun v sl q => by
    cases sl with
    | v a => exact q
    | o l =>
      obtain ⟨d, vs, n, e1, e2, e3, e4, e5, e6⟩ := q
      exact ⟨d, vs, n, e1, keep _ _ e5 e2, e3, e4, e5, e6⟩
    | r d => exact q
  have mL : ∀ b ∈ F.mt, b ≠ F.env.locals := fun b hb => let ⟨_, o, e⟩ := j.ok.muz b hb; nL b o e
  refine ⟨j.ok, fun b o hb e => keep _ _ (nL _ _ e) (j.kp b o hb e), fun b hb => (let ⟨o, e⟩ := j.mte b hb; ⟨o, keep _ _ (mL b hb) e⟩), j.z0,
    fun b o e => keep _ _ (fun q => by rw [q, j.zL] at e; cases e) (j.sub b o e), j.frz, j.zL, fun p hp => ?_, j.rnd, ⟨_, fun k => if k = i then v else val k, hn, ⟨fun k y sl' hk hsl => ?_, fun k k' l l' hne hk hk' => ?_, ?_⟩⟩, j.os, j.gens⟩
  · obtain ⟨a, b, c, d⟩ := j.rs p hp
    exact ⟨keep _ _ c a, b, c, d⟩
  · by_cases hki : k = i
    · subst hki
      rw [hx] at hk; cases hk
      have hkl : k < σ.length := by rw [hl.len]; exact (List.getElem?_eq_some_iff.mp hx).1
      rw [List.getElem?_set_self hkl] at hsl
      cases hsl
      simp only [if_true]
      exact ⟨trivial, slotK _ _ hv⟩
    · rw [List.getElem?_set_ne (Ne.symm hki)] at hsl
      obtain ⟨e, q⟩ := hl.at_ k y sl' hk hsl
      have hne : y ≠ x := fun q => hki (by
        subst q
        exact (List.getElem?_inj (by exact (List.getElem?_eq_some_iff.mp hk).1) j.ok.nod).mp (hk.trans hx.symm))
      simp only [hne, hki, if_false]
      exact ⟨e, slotK _ _ q⟩
  · by_cases h1 : k = i
    · subst h1
      have hkl : k < σ.length := by
        have := (List.getElem?_eq_some_iff.mp hk).1
        rwa [List.length_set] at this
      rw [List.getElem?_set_self hkl] at hk
      rw [List.getElem?_set_ne hne] at hk'
      have h2 : ¬ k' = k := fun q => hne q.symm
      simp only [h2, if_true, if_false]
      exact fun q => ha k' l l' h2 (by cases hk; rfl) hk' q.symm
    · rw [List.getElem?_set_ne (Ne.symm h1)] at hk
      by_cases h2 : k' = i
      · subst h2
        have hkl : k' < σ.length := by
          have := (List.getElem?_eq_some_iff.mp hk').1
          rwa [List.length_set] at this
        rw [List.getElem?_set_self hkl] at hk'
        simp only [h1, if_true, if_false]
        exact ha k l' l h1 (by cases hk'; rfl) hk
      · rw [List.getElem?_set_ne (Ne.symm h2)] at hk'
        simp only [h1, h2, if_false]
        exact hl.apart k k' l l' hne hk hk'
  · rw [List.length_set]; exact hl.len
end
end Fil
namespace Fil

structure Room (n : Nat) (A : Around) : Prop where
  hd : A.handled = none
  dp : A.depth + n ≤ 900
  un : A.units + 10 * n ≤ 9000
theorem Room.mono {n m : Nat} {A : Around} (r : Room n A) (h : m ≤ n) : Room m A := ⟨r.hd, by have := r.dp; omega, by have := r.un; omega⟩
theorem Room.depth {n : Nat} {A : Around} (r : Room n A) : A.depth < recursionLimit := by have := r.dp; show A.depth < 1000; omega
theorem cLine_val : cLine = 9900 := by decide +kernel
theorem Room.units {n : Nat} {A : Around} (r : Room n A) : A.units < cLine := by have := r.un; rw [cLine_val]; omega
theorem Room.deeper {n : Nat} {A : Around} (r : Room (n + 1) A) (env : Env) : Room n (A.deeper env) :=
  ⟨r.hd, by have := r.dp; show A.depth + 1 + n ≤ 900; omega, by have := r.un; show A.units + 3 + 10 * n ≤ 9000; omega⟩

noncomputable def Pst (w : World) {V G : List Str} (F : Fm V G) (res : List (Addr × Obj)) {α : Type} (z : Heap) (Q : Heap → α → St → Prop) (v : α) (s' : Shared) : Prop :=
  ∃ z' σ', Le z z' ∧ J w F res z' σ' s' ∧ Q z' v σ'

noncomputable def Wp (w : World) {V G : List Str} (F : Fm V G) (res : List (Addr × Obj)) (n : Nat) {α : Type} (z : Heap) (σ : St) (m : Sem α) (Q : Heap → α → St → Prop) : Prop :=
  ∀ A s, Room n A → J w F res z σ s → wpAny (MM w) A m (Pst w F res z Q) NoE s

section
variable {w : World} {V G : List Str} {F : Fm V G} {res : List (Addr × Obj)} {n : Nat} {z z' : Heap} {σ : St} {s s' : Shared} {α β : Type}

theorem J.toks (j : J w F res z σ s) (tk : Nat) : J w F res z σ { s with toks := tk } :=
  ⟨j.ok, j.kp, j.mte, j.z0, j.sub, j.frz, j.zL, j.rs, j.rnd, j.loc, j.os, j.gens⟩

theorem Pst.here {Q : Heap → α → St → Prop} {v : α} (j : J w F res z σ s) (h : Q z v σ) : Pst w F res z Q v s := ⟨z, σ, .refl z, j, h⟩
theorem Pst.toks {Q : Heap → α → St → Prop} {v : α} (j : J w F res z σ s) (h : Q z v σ) (tk : Nat) : Pst w F res z Q v { s with toks := tk } := .here (j.toks tk) h

theorem Wp.pure {Q : Heap → α → St → Prop} {v : α} (h : Q z v σ) : Wp w F res n z σ (pure v) Q := fun _ _ _ j => wpAny_pure (.here j h)
theorem Wp.mono {m : Sem α} {Q Q' : Heap → α → St → Prop} (h : Wp w F res n z σ m Q) (hq : ∀ z' v σ', Le z z' → Q z' v σ' → Q' z' v σ') : Wp w F res n z σ m Q' :=
  fun A s r j => wpAny_mono (h A s r j) (fun _ _ ⟨z', σ', l, j', q⟩ => ⟨z', σ', l, j', hq _ _ _ l q⟩) fun _ _ e => e
theorem Wp.bind {m : Sem α} {f : α → Sem β} {Q : Heap → β → St → Prop} (h : Wp w F res n z σ m fun z' v σ' => Wp w F res n z' σ' (f v) Q) : Wp w F res n z σ (m >>= f) Q :=
  fun A s r j => wpAny_bind (wpAny_mono (h A s r j) (fun _ s₁ ⟨_, _, l, j', q⟩ => wpAny_mono (q A s₁ r j') (fun _ _ ⟨z₂, σ₂, l₂, j₂, q₂⟩ => ⟨z₂, σ₂, l.trans l₂, j₂, q₂⟩) fun _ _ e => e) fun _ _ e => e)
theorem Wp.andThen {m : Sem α} {f : α → Sem β} {Q : Heap → β → St → Prop} (h : Wp w F res n z σ m fun z' v σ' => Le z z' → Wp w F res n z' σ' (f v) Q) : Wp w F res n z σ (m >>= f) Q :=
  .bind (h.mono fun _ _ _ l q => q l)
theorem Wp.room {m : Sem α} {Q : Heap → α → St → Prop} {k : Nat} (h : Wp w F res k z σ m Q) (hk : k ≤ n) : Wp w F res n z σ m Q := fun A s r j => h A s (r.mono hk) j

theorem Wp.stand {pos : Pos} {f : Unit → Sem β} {Q : Heap → β → St → Prop} (h : Wp w F res n z σ (f ()) Q) : Wp w F res n z σ (standAt pos >>= f) Q :=
  fun A s r j => wpAny_bind (wpAny_standAt (h A s r j))
theorem Wp.holding {vs : List Value} {m : Sem α} {Q : Heap → α → St → Prop} (h : Wp w F res n z σ m Q) : Wp w F res n z σ (holding vs m) Q := fun A s r j => wpAny_holding (h A s r j)
theorem Wp.operate {vs : List Value} {m : Sem Value} {Q : Heap → Value → St → Prop} (h : Wp w F res n z σ m Q) : Wp w F res n z σ (operate vs m) Q := fun A s r j => wpAny_operating (h A s r j)
theorem Wp.of_eq {m m' : Sem α} {Q : Heap → α → St → Prop} (e : m = m') (h : Wp w F res n z σ m' Q) : Wp w F res n z σ m Q := e ▸ h

/-- a new object -/
theorem J.push (j : J w F res z σ s) (o : Obj) (hf : o.isFreed = false) : ∃ z', Le z z' ∧ J w F res z' σ { s with heap := s.heap.push o } ∧ z'.get? s.heap.objs.size = some o := by
  refine ⟨cut (s.heap.push o) fun b => (∃ x, z.get? b = some x) ∨ b = s.heap.objs.size, fun b x e => ?_, j.grow (fun b x e => Heap.get?_push_of_some o e) (fun b x e => ?_) (cut_le _ _) (fun b x e => ?_) rfl rfl, ?_⟩
  · rw [get_cut_pos (.inl ⟨x, e⟩)]; exact Heap.get?_push_of_some o (j.sub _ _ e)
  · rw [get_cut_pos (.inl ⟨x, e⟩)]; exact Heap.get?_push_of_some o (j.sub _ _ e)
  · by_cases hb : (∃ x, z.get? b = some x) ∨ b = s.heap.objs.size
    · rw [get_cut_pos hb] at e
      rcases hb with ⟨y, hy⟩ | rfl
      · rw [Heap.get?_push_of_some o (j.sub _ _ hy)] at e; cases e; exact .inl hy
      · refine .inr ?_
        cases q : s.heap.get? s.heap.objs.size with
        | none => rfl
        | some _ => exact absurd (Heap.lt_size q) (Nat.lt_irrefl _)
    · rw [get_cut_neg hb] at e; cases e
  · rw [get_cut_pos (.inr rfl)]; exact Heap.get?_push_size _ hf

theorem Pst.push {Q : Heap → Value → St → Prop} (j : J w F res z σ s) (o : Obj) (hf : o.isFreed = false) (h : ∀ z' a, Le z z' → z'.get? a = some o → Q z' (.ref a) σ) :
    Pst w F res z Q (.ref s.heap.objs.size) { s with heap := s.heap.push o } :=
  let ⟨z', l, j', e⟩ := j.push o hf
  ⟨z', σ, l, j', h z' _ l e⟩
end

/-- an expression gives a value -/
noncomputable def Ev (w : World) {V G : List Str} (F : Fm V G) (res : List (Addr × Obj)) (n : Nat) (e : Expr) (σ : St) (P : AV → St → Prop) : Prop :=
  ∀ z, Wp w F res n z σ (eval e F.env) fun z' v σ' => ∃ a, Rep z' v a ∧ P a σ'
/-- a test -/
noncomputable def Bv (w : World) {V G : List Str} (F : Fm V G) (res : List (Addr × Obj)) (n : Nat) (e : Expr) (σ : St) (P : Bool → St → Prop) : Prop :=
  ∀ z, Wp w F res n z σ (isTrue e F.env (eval e F.env)) fun _ b σ' => P b σ'
/-- arguments -/
noncomputable def El (w : World) {V G : List Str} (F : Fm V G) (res : List (Addr × Obj)) (n : Nat) (pos : Pos) (es : List Expr) (σ : St) (P : List AV → St → Prop) : Prop :=
  ∀ z, Wp w F res n z σ (spliced (backTo pos (starEach es F.env))) fun z' vs σ' => ∃ as, Reps z' vs as ∧ P as σ'
/-- a target takes a value -/
noncomputable def As (w : World) {V G : List Str} (F : Fm V G) (res : List (Addr × Obj)) (n : Nat) (t : Expr) (a : AV) (σ : St) (P : St → Prop) : Prop :=
  ∀ z v, Rep z v a → Wp w F res n z σ (assign t F.env v) fun _ _ σ' => P σ'

inductive Fl where
  | next | brk | cont
  | ret (a : AV)
noncomputable def FlRep (z : Heap) : Flow → Fl → Prop
  | .next, .next => True
  | .brk, .brk => True
  | .cont, .cont => True
  | .ret v, .ret a => Rep z v a
  | _, _ => False

noncomputable def Ex (w : World) {V G : List Str} (F : Fm V G) (res : List (Addr × Obj)) (n : Nat) (st : Stmt) (σ : St) (P : Fl → St → Prop) : Prop :=
  ∀ z, Wp w F res n z σ (exec st F.env) fun z' f σ' => ∃ a, FlRep z' f a ∧ P a σ'
noncomputable def Exs (w : World) {V G : List Str} (F : Fm V G) (res : List (Addr × Obj)) (n : Nat) (sts : List Stmt) (σ : St) (P : Fl → St → Prop) : Prop :=
  ∀ z, Wp w F res n z σ (execs sts F.env) fun z' f σ' => ∃ a, FlRep z' f a ∧ P a σ'

/-- a def's contract -/
noncomputable def Cl (w : World) (n : Nat) (f : Addr) (args : List AV) (P : AV → Prop) : Prop :=
  ∀ A s z vs, Room n A → Cx w z → Le z s.heap → Reps z vs args →
    wpAny (MM w) A (call (.ref f) vs) (fun v s' => ∃ z' a, (Le s.heap s'.heap ∧ Le z z' ∧ Le z' s'.heap ∧ (∀ b o, z'.get? b = some o → z.get? b = some o ∨ s.heap.get? b = none) ∧ s'.os = s.os ∧ s'.gens = s.gens) ∧
      Rep z' v a ∧ P a) NoE s

/-- a name's place -/
inductive Look : List Str → St → Str → Slot → Prop
  | head {x vs sl σ} : Look (x :: vs) (some sl :: σ) x sl
  | tail {y vs o σ x sl} : Look vs σ x sl → Look (y :: vs) (o :: σ) x sl
inductive Put : List Str → St → Str → Slot → St → Prop
  | head {x vs o sl σ} : Put (x :: vs) (o :: σ) x sl (some sl :: σ)
  | tail {y vs o σ x sl σ'} : Put vs σ x sl σ' → Put (y :: vs) (o :: σ) x sl (o :: σ')
theorem Look.at {vs : List Str} {σ : St} {x : Str} {sl : Slot} (h : Look vs σ x sl) : ∃ i : Nat, vs[i]? = some x ∧ σ[i]? = some (some sl) := by
  induction h with
  | head => exact ⟨0, rfl, rfl⟩
  | tail _ ih => obtain ⟨i, a, b⟩ := ih; exact ⟨i + 1, a, b⟩
theorem Put.at {vs : List Str} {σ σ' : St} {x : Str} {sl : Slot} (h : Put vs σ x sl σ') : ∃ i : Nat, vs[i]? = some x ∧ σ' = σ.set i (some sl) := by
  induction h with
  | head => exact ⟨0, rfl, rfl⟩
  | tail _ ih => obtain ⟨i, a, b⟩ := ih; exact ⟨i + 1, a, by rw [b]; rfl⟩
theorem Look.mem {vs : List Str} {σ : St} {x : Str} {sl : Slot} (h : Look vs σ x sl) : x ∈ vs := let ⟨_, a, _⟩ := h.at; List.mem_of_getElem? a
theorem Put.mem {vs : List Str} {σ σ' : St} {x : Str} {sl : Slot} (h : Put vs σ x sl σ') : x ∈ vs := let ⟨_, a, _⟩ := h.at; List.mem_of_getElem? a

section
variable {w : World} {V G : List Str} {F : Fm V G} {res : List (Addr × Obj)} {n : Nat} {z z' : Heap} {σ σ' : St} {s s' : Shared}

theorem J.look {x : Str} {a : AV} (j : J w F res z σ s) (h : Look F.vars σ x (.v a)) : ∃ m v, s.heap.Ns F.env.locals m ∧ m x = some v ∧ Rep z v a := by
  obtain ⟨m, val, hn, hl⟩ := j.loc
  obtain ⟨i, e1, e2⟩ := h.at
  obtain ⟨e, q⟩ := hl.at_ i x _ e1 e2
  exact ⟨m, _, hn, e, q⟩

theorem Wp.name {x : Str} {pos : Pos} {a : AV} {Q : Heap → Value → St → Prop} (h : Look F.vars σ x (.v a)) (hq : ∀ v, Rep z v a → Q z v σ) : Wp w F res n z σ (eval (.Name x pos) F.env) Q := fun A s _ j => by
  obtain ⟨m, v, hn, e, q⟩ := j.look h
  obtain ⟨k, d⟩ := j.ok.loc x h.mem
  exact wpAny_Name (wpAny_loadName_local j.ok.kind k hn e (.here j (hq v q))) d
theorem Ev.name {x : Str} {pos : Pos} {a : AV} {P : AV → St → Prop} (h : Look F.vars σ x (.v a)) (hp : P a σ) : Ev w F res n (.Name x pos) σ P :=
  fun _ => .name h fun _ r => ⟨a, r, hp⟩

/-- a list that the frame alone has is read: from here on it stays as it is -/
theorem J.freeze {x : Str} {l : List AV} (j : J w F res z σ s) (h : Look F.vars σ x (.o l)) (hp : Put F.vars σ x (.v (.list l)) σ') (hm : F.mt = []) :
    ∃ z' m v, Le z z' ∧ J w F res z' σ' s ∧ s.heap.Ns F.env.locals m ∧ m x = some v ∧ Rep z' v (.list l) := by
  obtain ⟨m, val, hn, hl⟩ := j.loc
  obtain ⟨i, e1, e2⟩ := h.at
  obtain ⟨i', e3, e4⟩ := hp.at
  obtain ⟨e, d, vs, k, ev, q1, q2, q3, q4, q5, q6⟩ := hl.at_ i x _ e1 e2
  have hii : i' = i := (List.getElem?_inj (List.getElem?_eq_some_iff.mp e3).1 j.ok.nod).mp (e3.trans e1.symm)
  subst hii
  have hnot : ∀ b o, z.get? b = some o → b ≠ d := fun b o q r => by rw [r, q3] at q; cases q
  let z' := cut s.heap fun b => (∃ x, z.get? b = some x) ∨ b = d
  have hz : Le z z' := fun b o q => by show (cut _ _).get? b = _; rw [get_cut_pos (.inl ⟨o, q⟩)]; exact j.sub _ _ q
  have hd : z'.get? d = some { cls := .type "list", dict := none, data := .seq vs k, slots := #[] } := by show (cut _ _).get? d = _; rw [get_cut_pos (.inr rfl)]; exact q1
  have back : ∀ b o, z'.get? b = some o → z.get? b = some o ∨ b = d := fun b o q => by
    by_cases hb : (∃ x, z.get? b = some x) ∨ b = d
    · rcases hb with ⟨y, hy⟩ | hb
      · have := hz _ _ hy; rw [q] at this; cases this; exact .inl hy
      · exact .inr hb
    · have : (cut s.heap fun b => (∃ x, z.get? b = some x) ∨ b = d).get? b = some o := q
      rw [get_cut_neg hb] at this; cases this
  have none' : ∀ b, z.get? b = none → b ≠ d → z'.get? b = none := fun b q r => by
    cases q2 : z'.get? b with
    | none => rfl
    | some o => rcases back b o q2 with e | e; · rw [q] at e; cases e
                · exact absurd e r
  have q6' : F.h0.get? d = none := q6.elim id fun q => by rw [hm] at q; cases q
  refine ⟨z', m, val i', hz, ⟨j.ok, j.kp, j.mte, j.z0.trans hz, cut_le _ _, fun b o q => ?_, none' _ j.zL (Ne.symm q4), fun p hp => ?_, j.rnd, ⟨m, val, hn, ⟨fun k y sl hk hs => ?_, fun k k' l1 l2 hne hk hk' => ?_, ?_⟩⟩, j.os, j.gens⟩, hn, e, ⟨d, vs, k, ev, hd, Reps.mono hz l q2⟩⟩
  · rcases back b o q with q | q
    · exact j.frz _ _ q
    · exact .inr (q ▸ q6')
  · obtain ⟨a, b, c, d'⟩ := j.rs p hp
    exact ⟨a, none' _ b (q5 p hp), c, d'⟩
  · rw [e4] at hs
    by_cases hki : k = i'
    · subst hki
      have hkl : k < σ.length := (List.getElem?_eq_some_iff.mp e2).1
      rw [List.getElem?_set_self hkl] at hs
      cases hs
      rw [e1] at hk; cases hk
      exact ⟨e, d, vs, _, ev, hd, Reps.mono hz l q2⟩
    · rw [List.getElem?_set_ne (Ne.symm hki)] at hs
      obtain ⟨a, b⟩ := hl.at_ k y sl hk hs
      refine ⟨a, ?_⟩
      cases sl with
      | v a => exact Rep.mono hz a b
      | o l' =>
        obtain ⟨d', vs', k', ev', p1, p2, p3, p4⟩ := b
        refine ⟨d', vs', k', ev', p1, Reps.mono hz l' p2, none' _ p3 fun r => ?_, p4⟩
        have := hl.apart k i' l' l hki hs e2
        rw [ev, ev', r] at this
        exact this rfl
      | r d' => exact b
  · rw [e4] at hk hk'
    by_cases h1 : k = i'
    · subst h1
      rw [List.getElem?_set_self (List.getElem?_eq_some_iff.mp e2).1] at hk; cases hk
    · by_cases h2 : k' = i'
      · subst h2
        rw [List.getElem?_set_self (List.getElem?_eq_some_iff.mp e2).1] at hk'; cases hk'
      · rw [List.getElem?_set_ne (Ne.symm h1)] at hk
        rw [List.getElem?_set_ne (Ne.symm h2)] at hk'
        exact hl.apart k k' l1 l2 hne hk hk'
  · rw [e4, List.length_set]; exact hl.len
end
end Fil
namespace Fil

/-- an operator upon two values -/
noncomputable def BinV (op : Operator) (a b c : AV) : Prop :=
  ∀ (w : World) (V G : List Str) (F : Fm V G) (res : List (Addr × Obj)) (n : Nat) (z : Heap) (σ : St) (x y : Value) (Q : Heap → Value → St → Prop), Rep z x a → Rep z y b →
    (∀ z' v, Le z z' → Rep z' v c → Q z' v σ) → Wp w F res n z σ (binaryOp op x y) Q
/-- a comparison of two values -/
noncomputable def CmpV (op : CmpOp) (a b : AV) (c : Bool) : Prop :=
  ∀ (w : World) (V G : List Str) (F : Fm V G) (res : List (Addr × Obj)) (n : Nat) (z : Heap) (σ : St) (x y : Value) (Q : Heap → Value → St → Prop), Rep z x a → Rep z y b →
    Q z (.bool c) σ → Wp w F res (n + 1) z σ (compareOp op x y) Q

theorem BinV.add {i j : Int} : BinV .Add (.int i) (.int j) (.int (i + j)) := fun _ _ _ _ _ _ z _ _ _ _ ⟨_, e⟩ ⟨_, e'⟩ hq _ _ _ j => by
  subst e e'; exact add_int (.toks j (hq z _ (.refl z) ⟨_, rfl⟩) _)
theorem BinV.sub {i j : Int} : BinV .Sub (.int i) (.int j) (.int (i - j)) := fun _ _ _ _ _ _ z _ _ _ _ ⟨_, e⟩ ⟨_, e'⟩ hq _ _ _ j => by
  subst e e'; exact sub_int (.toks j (hq z _ (.refl z) ⟨_, rfl⟩) _)
theorem BinV.mul {i j : Int} (hm : IntMulOk i j) : BinV .Mult (.int i) (.int j) (.int (i * j)) := fun _ _ _ _ _ _ z _ _ _ _ ⟨_, e⟩ ⟨_, e'⟩ hq _ _ _ j => by
  subst e e'; exact mul_int (.toks j (hq z _ (.refl z) ⟨_, rfl⟩) _) hm
theorem BinV.mod {i j : Int} (hj : 0 < j) : BinV .Mod (.int i) (.int j) (.int (i % j)) := fun _ _ _ _ _ _ z _ _ _ _ ⟨_, e⟩ ⟨_, e'⟩ hq _ _ _ jj => by
  subst e e'
  refine mod_int' (by omega) ?_
  rw [Int.fmod_eq_emod_of_nonneg _ (by omega)]
  exact .toks jj (hq z _ (.refl z) ⟨_, rfl⟩) _
theorem BinV.floordiv {i j : Int} (hj : 0 < j) (hp : Builtin.divisionGoesByPylong i j = false) : BinV .FloorDiv (.int i) (.int j) (.int (i / j)) := fun _ _ _ _ _ _ z _ _ _ _ ⟨_, e⟩ ⟨_, e'⟩ hq _ _ _ jj => by
  subst e e'
  refine floordiv_int (by omega) ?_ (.inl hp)
  rw [Int.fdiv_eq_ediv_of_nonneg _ (by omega)]
  exact .toks jj (hq z _ (.refl z) ⟨_, rfl⟩) _
theorem BinV.cat {l l' : List AV} (hl : l.length + l'.length ≤ 2 ^ 23) : BinV .Add (.list l) (.list l') (.list (l ++ l')) := fun _ _ _ _ _ _ z _ _ _ _ ⟨a, vs, k, e, g, r⟩ ⟨a', vs', k', e', g', r'⟩ hq _ _ _ j => by
  subst e e'
  refine P.add_list (j.sub _ _ g) (j.sub _ _ g') (.push j _ rfl fun z' b l0 e => hq z' _ l0 ⟨b, _, _, rfl, e, ?_⟩) ?_
  · rw [Array.toList_append]; exact (Reps.mono l0 _ r).append (Reps.mono l0 _ r')
  · have h1 := r.length; have h2 := r'.length
    rw [Array.length_toList] at h1 h2
    rw [sizeLine_eq]; omega
theorem BinV.strcat {x y : Str} (hl : x.length + y.length ≤ 2 ^ 23) : BinV .Add (.str x) (.str y) (.str (x ++ y)) := fun _ _ _ _ _ _ z _ _ _ _ ⟨_, e⟩ ⟨_, e'⟩ hq _ _ _ j => by
  subst e e'
  exact PyProof.Rows.add_str (fun _ _ => .toks j (hq z _ (.refl z) ⟨_, rfl⟩) _) (by rw [sizeLine_eq]; omega)

theorem CmpV.eq {i j : Int} : CmpV .Eq (.int i) (.int j) (i == j) := fun _ _ _ _ _ _ _ _ _ _ _ ⟨_, e⟩ ⟨_, e'⟩ hq _ _ _ j => by
  subst e e'; exact eq_int (.here j hq)
theorem CmpV.ne {i j : Int} : CmpV .NotEq (.int i) (.int j) (i != j) := fun _ _ _ _ _ _ _ _ _ _ _ ⟨_, e⟩ ⟨_, e'⟩ hq _ _ _ j => by
  subst e e'; exact ne_int (.here j hq)
theorem CmpV.lt {i j : Int} : CmpV .Lt (.int i) (.int j) (decide (i < j)) := fun _ _ _ _ _ _ _ _ _ _ _ ⟨_, e⟩ ⟨_, e'⟩ hq _ _ _ j => by
  subst e e'; exact lt_int (.here j hq)
theorem CmpV.gt {i j : Int} : CmpV .Gt (.int i) (.int j) (decide (j < i)) := fun _ _ _ _ _ _ _ _ _ _ _ ⟨_, e⟩ ⟨_, e'⟩ hq _ _ _ j => by
  subst e e'; exact gt_int (.here j hq)
theorem CmpV.le {i j : Int} : CmpV .LtE (.int i) (.int j) (decide (i ≤ j)) := fun _ _ _ _ _ _ _ _ _ _ _ ⟨_, e⟩ ⟨_, e'⟩ hq _ _ _ j => by
  subst e e'; exact le_int (.here j hq)
theorem CmpV.ge {i j : Int} : CmpV .GtE (.int i) (.int j) (decide (j ≤ i)) := fun _ _ _ _ _ _ _ _ _ _ _ ⟨_, e⟩ ⟨_, e'⟩ hq _ _ _ j => by
  subst e e'; exact ge_int (.here j hq)
theorem CmpV.seq {x y : Str} : CmpV .Eq (.str x) (.str y) (x == y) := fun _ _ _ _ _ _ _ _ _ _ _ ⟨_, e⟩ ⟨_, e'⟩ hq _ _ _ j => by
  subst e e'; exact PyProof.Rows.eq_str (.here j hq)
theorem CmpV.sne {x y : Str} : CmpV .NotEq (.str x) (.str y) (x != y) := fun _ _ _ _ _ _ _ _ _ _ _ ⟨_, e⟩ ⟨_, e'⟩ hq _ _ _ j => by
  subst e e'; exact PyProof.Rows.ne_str (.here j hq)

/-- a list of ints, as a value -/
noncomputable abbrev iL (l : List Int) : AV := .list (l.map .int)
theorem Reps.toInts {z : Heap} : ∀ {l : List Int} {vs : List Value}, Reps z vs (l.map .int) → IntsAre vs l
  | [], _, e => by rw [show _ = [] from e]; exact .nil
  | i :: r, _, ⟨v, vs', e, ⟨t, ev⟩, rs⟩ => by rw [e, ev]; exact .cons i t (Reps.toInts rs)
theorem reps_of_ints {z : Heap} : ∀ {l : List Int} {vs : List Value}, IntsAre vs l → Reps z vs (l.map .int)
  | _, _, .nil => rfl
  | _, _, .cons i t r => ⟨.int i t, _, rfl, ⟨t, rfl⟩, reps_of_ints r⟩

theorem CmpV.inList {i : Int} {l : List Int} : CmpV .In (.int i) (iL l) (l.any (· == i)) := fun _ _ _ _ _ _ _ _ _ _ _ ⟨_, e⟩ ⟨a, vs, k, e', g, r⟩ hq _ _ _ j => by
  subst e e'
  exact in_list_ints (vs := vs.toList) (by simpa using IsL.isList (j.sub _ _ g)) r.toInts (.here j hq)
theorem CmpV.inTup {i : Int} {l : List Int} : CmpV .In (.int i) (.tup (l.map .int)) (l.any (· == i)) := fun _ _ _ _ _ _ _ _ _ _ _ ⟨_, e⟩ ⟨a, vs, k, e', g, r⟩ hq _ _ _ j => by
  subst e e'
  exact in_tuple_ints ⟨_, j.sub _ _ g, rfl, k, rfl⟩ r.toInts (.here j hq)
theorem CmpV.inStr {x y : Str} : CmpV .In (.str y) (.str x) (!(Builtin.Str.occurrences x y 0 x.length 1).isEmpty) := fun _ _ _ _ _ _ _ _ _ _ _ ⟨_, e⟩ ⟨_, e'⟩ hq _ _ _ j => by
  subst e e'; exact PyProof.Rows.in_str (.here j hq)
theorem CmpV.intsEq {l l' : List Int} : CmpV .Eq (iL l) (iL l') (decide (l = l')) := fun _ _ _ _ _ _ _ _ _ _ _ ⟨a, vs, k, e, g, r⟩ ⟨a', vs', k', e', g', r'⟩ hq _ _ rm j => by
  subst e e'
  refine eq_intsK (vs := vs.toList) (us := vs'.toList) (by simpa using IsL.isList (j.sub _ _ g)) r.toInts (by simpa using IsL.isList (j.sub _ _ g')) r'.toInts ?_ (.here j hq)
  have := rm.un; rw [cLine_val]; omega
theorem CmpV.intsNe {l l' : List Int} : CmpV .NotEq (iL l) (iL l') (!decide (l = l')) := fun _ _ _ _ _ _ _ _ _ _ _ ⟨a, vs, k, e, g, r⟩ ⟨a', vs', k', e', g', r'⟩ hq _ _ rm j => by
  subst e e'
  refine ne_intsK (vs := vs.toList) (us := vs'.toList) (by simpa using IsL.isList (j.sub _ _ g)) r.toInts (by simpa using IsL.isList (j.sub _ _ g')) r'.toInts ?_ (.here j hq)
  have := rm.un; rw [cLine_val]; omega
end Fil
namespace Fil

/-- a name of the text's top -/
noncomputable def Glob (w : World) (x : Str) (a : AV) : Prop := ∃ v, nsIn (KK w) mainGlobals x = some (some v) ∧ ∀ z, (KK w).In z → Rep z v a
/-- a def of the text's top -/
noncomputable def GlobF (w : World) (x : Str) (f : Addr) : Prop := nsIn (KK w) mainGlobals x = some (some (.ref f))
/-- a name of the built-ins -/
noncomputable def GlobB (w : World) (x : Str) (v : Value) : Prop := nsIn (KK w) mainGlobals x = some none ∧ bootBuiltins x = some v

section
variable {w : World} {V G : List Str} {F : Fm V G} {res : List (Addr × Obj)} {n : Nat} {z z' : Heap} {σ σ' : St} {s s' : Shared}

theorem Ev.mono {e : Expr} {P P' : AV → St → Prop} (h : Ev w F res n e σ P) (hp : ∀ a σ', P a σ' → P' a σ') : Ev w F res n e σ P' :=
  fun z => (h z).mono fun _ _ _ _ ⟨a, r, q⟩ => ⟨a, r, hp _ _ q⟩
theorem Bv.mono {e : Expr} {P P' : Bool → St → Prop} (h : Bv w F res n e σ P) (hp : ∀ a σ', P a σ' → P' a σ') : Bv w F res n e σ P' :=
  fun z => (h z).mono fun _ _ _ _ q => hp _ _ q

theorem Ev.int {i : Int} {k : Nat} {pos : Pos} {P : AV → St → Prop} (h : P (.int i) σ) : Ev w F res n (.Constant (.int i) k pos) σ P :=
  fun _ _ _ _ j => wpAny_Constant_int (.toks j ⟨.int i, ⟨_, rfl⟩, h⟩ _)
theorem Ev.str {x : Str} {k : Nat} {pos : Pos} {P : AV → St → Prop} (h : P (.str x) σ) : Ev w F res n (.Constant (.str x) k pos) σ P :=
  fun _ _ _ _ j => Calls.Constant_str (.toks j ⟨.str x, ⟨_, rfl⟩, h⟩ _)
theorem Ev.bool {b : Bool} {k : Nat} {pos : Pos} {P : AV → St → Prop} (h : P (.bool b) σ) : Ev w F res n (.Constant (.bool b) k pos) σ P :=
  fun _ _ _ _ j => Constant_bool (.here j ⟨.bool b, rfl, h⟩)
theorem Ev.none {k : Nat} {pos : Pos} {P : AV → St → Prop} (h : P .none σ) : Ev w F res n (.Constant .none k pos) σ P :=
  fun _ _ _ _ j => Constant_none (.here j ⟨.none, rfl, h⟩)

theorem Ev.nameO {x : Str} {pos : Pos} {l : List AV} {P : AV → St → Prop} (h : Look F.vars σ x (.o l)) (hp : Put F.vars σ x (.v (.list l)) σ') (hm : F.mt = []) (hq : P (.list l) σ') :
    Ev w F res n (.Name x pos) σ P := fun z A s _ j => by
  obtain ⟨z', m, v, l1, j', hn, e, r⟩ := j.freeze h hp hm
  obtain ⟨k, d⟩ := j.ok.loc x h.mem
  exact wpAny_Name (wpAny_loadName_local j.ok.kind k hn e ⟨z', σ', l1, j', _, r, hq⟩) d

theorem loadG {x : Str} {v : Value} {A : Around} {E : Value → Shared → Prop} {Q : Value → Shared → Prop} {pos : Pos} (j : J w F res z σ s) (hg : x ∈ F.globs) (e : nsIn (KK w) mainGlobals x = some (some v)) (h : Q v s) :
    wpAny (MM w) A (eval (.Name x pos) F.env) Q E s := by
  obtain ⟨k, d, _⟩ := j.ok.glo x hg
  obtain ⟨mg, g⟩ := j.cxh.g
  exact Calls.Name_function_global j.ok.kind k (Calls.loadGlobal_global (mg := mg) (by rw [j.ok.gl]; exact g) (mg_of j.cxh.k g e) h) d
theorem loadB {x : Str} {v : Value} {A : Around} {E : Value → Shared → Prop} {Q : Value → Shared → Prop} {pos : Pos} (j : J w F res z σ s) (hg : x ∈ F.globs) (e : GlobB w x v) (h : Q v s) :
    wpAny (MM w) A (eval (.Name x pos) F.env) Q E s := by
  obtain ⟨k, d, ne⟩ := j.ok.glo x hg
  obtain ⟨mg, g⟩ := j.cxh.g
  obtain ⟨mb, b, eb⟩ := j.cxh.b
  exact Calls.Name_function_global j.ok.kind k (Calls.loadGlobal_builtin (mg := mg) (mb := mb) (by rw [j.ok.gl]; exact g) (mg_none_of j.cxh.k g e.1) (by rw [j.ok.bl]; exact b) ((eb x ne).trans e.2) h) d

theorem Ev.glob {x : Str} {pos : Pos} {a : AV} {P : AV → St → Prop} (hg : x ∈ F.globs) (e : Glob w x a) (h : P a σ) : Ev w F res n (.Name x pos) σ P := fun z A s _ j => by
  obtain ⟨v, e1, e2⟩ := e
  exact loadG j hg e1 (.here j ⟨a, e2 z j.cx.k, h⟩)

theorem Ev.bin {l r : Expr} {op : Operator} {pos : Pos} {P : AV → St → Prop} (h : Ev w F res n l σ fun a σ1 => Ev w F res n r σ1 fun b σ2 => ∃ c, BinV op a b c ∧ P c σ2) :
    Ev w F res n (.BinOp l op r pos) σ P := fun z => .of_eq (eval_BinOp ..) (.bind ((h z).mono fun z1 _ _ _ ⟨a, ra, h2⟩ => .bind (.holding ((h2 z1).mono fun _ _ _ l2 ⟨b, rb, c, hc, hp⟩ =>
      .stand (.operate (hc _ _ _ _ _ _ _ _ _ _ _ (Rep.mono l2 _ ra) rb fun _ _ _ rc => ⟨c, rc, hp⟩))))))

theorem Ev.cmp {l r : Expr} {op : CmpOp} {pos : Pos} {P : AV → St → Prop} (h : Ev w F res (n + 1) l σ fun a σ1 => Ev w F res (n + 1) r σ1 fun b σ2 => ∃ c, CmpV op a b c ∧ P (.bool c) σ2)
    (hm : behindInMarks op r = false := by with_unfolding_all rfl) :
    Ev w F res (n + 1) (.Compare l [op] [r] pos) σ P := fun z => .of_eq (eval_Compare1 ..) (.bind ((h z).mono fun z1 _ _ _ ⟨a, ra, h2⟩ => .bind (.holding (.of_eq (markedBehindIn_of_false hm) ((h2 z1).mono fun _ _ _ l2 ⟨b, rb, c, hc, hp⟩ =>
      .stand (.operate (hc _ _ _ _ _ _ _ _ _ _ _ (Rep.mono l2 _ ra) rb ⟨.bool c, rfl, hp⟩)))))))

theorem Wp.truthy {b : Bool} {Q : Heap → Bool → St → Prop} (h : Q z b σ) : Wp w F res n z σ (truthy (.bool b)) Q := fun _ _ _ j => wpAny_truthy_bool (.here j h)

theorem Bv.cmp {l r : Expr} {op : CmpOp} {pos : Pos} {P : Bool → St → Prop} (h : Ev w F res (n + 1) l σ fun a σ1 => Ev w F res (n + 1) r σ1 fun b σ2 => ∃ c, CmpV op a b c ∧ P c σ2)
    (hm : behindInMarks op r = false := by with_unfolding_all rfl) :
    Bv w F res (n + 1) (.Compare l [op] [r] pos) σ P := fun z => .of_eq (isTrue_Compare1 ..) (.bind ((h z).mono fun z1 _ _ _ ⟨a, ra, h2⟩ => .bind (.holding (.of_eq (markedBehindIn_of_false hm) ((h2 z1).mono fun _ _ _ l2 ⟨b, rb, c, hc, hp⟩ =>
      .stand (.bind (.operate (hc _ _ _ _ _ _ _ _ _ _ _ (Rep.mono l2 _ ra) rb (.holding (.truthy hp))))))))))

theorem Bv.plain {e : Expr} {P : Bool → St → Prop} (h : Ev w F res n e σ fun a σ1 => ∃ b, a = .bool b ∧ P b σ1)
    (he : isTrue e F.env (eval e F.env) = (do let v ← eval e F.env; standAt e.pos; PySem.holding [v] (PySem.truthy v)) := by rfl) : Bv w F res n e σ P :=
  fun z => .of_eq he (.bind ((h z).mono fun _ _ _ _ ⟨_, ra, b, e, hp⟩ => by subst e; rw [show _ = Value.bool b from ra]; exact .stand (.holding (.truthy hp))))
theorem Bv.not {e : Expr} {pos : Pos} {P : Bool → St → Prop} (h : Bv w F res n e σ fun b σ1 => P (!b) σ1) : Bv w F res n (.UnaryOp .Not e pos) σ P :=
  fun z => .of_eq (m' := (do return !(← isTrue e F.env (eval e F.env)))) rfl (.bind ((h z).mono fun _ _ _ _ q => .pure q))

theorem allTrue_cons (op : BoolOp) (x : Expr) (rest : List Expr) (env : Env) : allTrue op (x :: rest) env = (do
    match op, ← isTrue x env (eval x env) with
    | .And, false => pure false
    | .Or, true => pure true
    | _, _ => allTrue op rest env) := rfl
theorem Bv.andNil {pos : Pos} {P : Bool → St → Prop} (h : P true σ) : Bv w F res n (.BoolOp .And [] pos) σ P := fun _ => .of_eq (m' := pure true) rfl (.pure h)
theorem Bv.orNil {pos : Pos} {P : Bool → St → Prop} (h : P false σ) : Bv w F res n (.BoolOp .Or [] pos) σ P := fun _ => .of_eq (m' := pure false) rfl (.pure h)
theorem Bv.and {e : Expr} {rest : List Expr} {pos : Pos} {P : Bool → St → Prop} (h : Bv w F res n e σ fun b σ1 => (b = true → Bv w F res n (.BoolOp .And rest pos) σ1 P) ∧ (b = false → P false σ1)) :
    Bv w F res n (.BoolOp .And (e :: rest) pos) σ P := fun z => .of_eq (m' := allTrue .And (e :: rest) F.env) rfl (.of_eq (allTrue_cons ..) (.bind ((h z).mono fun z1 b _ _ q => by
      cases b with
      | false => exact .pure (q.2 rfl)
      | true => exact q.1 rfl z1)))
theorem Bv.or {e : Expr} {rest : List Expr} {pos : Pos} {P : Bool → St → Prop} (h : Bv w F res n e σ fun b σ1 => (b = false → Bv w F res n (.BoolOp .Or rest pos) σ1 P) ∧ (b = true → P true σ1)) :
    Bv w F res n (.BoolOp .Or (e :: rest) pos) σ P := fun z => .of_eq (m' := allTrue .Or (e :: rest) F.env) rfl (.of_eq (allTrue_cons ..) (.bind ((h z).mono fun z1 b _ _ q => by
      cases b with
      | true => exact .pure (q.2 rfl)
      | false => exact q.1 rfl z1)))

theorem boolOp_two (pos : Pos) (op : BoolOp) (x y : Sem Value) (r : List (Sem Value)) : boolOp pos op (x :: y :: r) = (do
    let v ← x
    standAt pos
    let t ← PySem.holding [v] (PySem.truthy v)
    match op, t with
    | .And, false | .Or, true => pure v
    | _, _ => boolOp pos op (y :: r)) := rfl
theorem Ev.boolOne {e : Expr} {op : BoolOp} {pos : Pos} {P : AV → St → Prop} (h : Ev w F res n e σ P) : Ev w F res n (.BoolOp op [e] pos) σ P := fun z => .of_eq (m' := eval e F.env) rfl (h z)
theorem Ev.and {e e2 : Expr} {rest : List Expr} {pos : Pos} {P : AV → St → Prop} (h : Ev w F res n e σ fun a σ1 => ∃ b, a = .bool b ∧ (b = true → Ev w F res n (.BoolOp .And (e2 :: rest) pos) σ1 P) ∧ (b = false → P (.bool false) σ1)) :
    Ev w F res n (.BoolOp .And (e :: e2 :: rest) pos) σ P := fun z => .of_eq (m' := boolOp pos .And (eval e F.env :: eval e2 F.env :: evalEach rest F.env)) rfl (.of_eq (boolOp_two ..) (.bind ((h z).mono fun z1 _ σ1 _ ⟨_, ra, b, e, q1, q2⟩ => by
      subst e; rw [show _ = Value.bool b from ra]
      refine .stand (.bind (.holding (.truthy ?_)))
      cases b with
      | false => exact .pure ⟨.bool false, rfl, q2 rfl⟩
      | true => exact q1 rfl z1)))
theorem Ev.or {e e2 : Expr} {rest : List Expr} {pos : Pos} {P : AV → St → Prop} (h : Ev w F res n e σ fun a σ1 => ∃ b, a = .bool b ∧ (b = false → Ev w F res n (.BoolOp .Or (e2 :: rest) pos) σ1 P) ∧ (b = true → P (.bool true) σ1)) :
    Ev w F res n (.BoolOp .Or (e :: e2 :: rest) pos) σ P := fun z => .of_eq (m' := boolOp pos .Or (eval e F.env :: eval e2 F.env :: evalEach rest F.env)) rfl (.of_eq (boolOp_two ..) (.bind ((h z).mono fun z1 _ σ1 _ ⟨_, ra, b, e, q1, q2⟩ => by
      subst e; rw [show _ = Value.bool b from ra]
      refine .stand (.bind (.holding (.truthy ?_)))
      cases b with
      | true => exact .pure ⟨.bool true, rfl, q2 rfl⟩
      | false => exact q1 rfl z1)))

theorem Ev.ifExp {t a b : Expr} {pos : Pos} {P : AV → St → Prop} (h : Bv w F res n t σ fun c σ1 => (c = true → Ev w F res n a σ1 P) ∧ (c = false → Ev w F res n b σ1 P)) :
    Ev w F res n (.IfExp t a b pos) σ P := fun z => .of_eq (m' := (do if ← isTrue t F.env (eval t F.env) then eval a F.env else eval b F.env)) rfl (.bind ((h z).mono fun z1 c _ _ q => by
      cases c with
      | true => exact q.1 rfl z1
      | false => exact q.2 rfl z1))

theorem Wp.splicedNil {Q : Heap → List Value → St → Prop} (h : Q z [] σ) : Wp w F res n z σ (spliced []) Q := .of_eq (m' := Pure.pure []) (by rw [spliced]) (.pure h)
theorem Wp.splicedCons {x : Sem Value} {rest : List (Bool × Sem Value)} {Q : Heap → List Value → St → Prop}
    (h : Wp w F res n z σ x fun z1 v σ1 => Wp w F res n z1 σ1 (spliced rest) fun z2 vs σ2 => Q z2 (v :: vs) σ2) : Wp w F res n z σ (spliced ((false, x) :: rest)) Q := fun A s r j =>
  Calls.spliced_cons (wpAny_mono (h A s r j) (fun _ s1 ⟨_, _, l1, j1, q1⟩ => wpAny_mono (q1 A s1 r j1) (fun _ _ ⟨z2, σ2, l2, j2, q2⟩ => ⟨z2, σ2, l1.trans l2, j2, q2⟩) fun _ _ e => e) fun _ _ e => e)
theorem El.nil {pos : Pos} {P : List AV → St → Prop} (h : P [] σ) : El w F res n pos [] σ P := fun _ => .of_eq (m' := spliced []) rfl (.splicedNil ⟨[], rfl, h⟩)
theorem El.cons {e : Expr} {rest : List Expr} {pos : Pos} {P : List AV → St → Prop} (h : Ev w F res n e σ fun a σ1 => El w F res n pos rest σ1 fun as σ2 => P (a :: as) σ2)
    (he : starEach (e :: rest) F.env = (false, eval e F.env) :: starEach rest F.env := by rfl) : El w F res n pos (e :: rest) σ P := fun z =>
  .of_eq (m' := spliced ((false, eval e F.env) :: backTo pos (starEach rest F.env))) (by rw [he]; rfl) (.splicedCons ((h z).mono fun z1 v _ _ ⟨a, ra, q⟩ => (q z1).mono fun _ _ _ l2 ⟨as, rs, p⟩ => ⟨a :: as, ⟨v, _, rfl, Rep.mono l2 a ra, rs⟩, p⟩))

theorem Wp.newList {vs : List Value} {as : List AV} {Q : Heap → Value → St → Prop} (hr : Reps z vs as) (hl : as.length ≤ 2 ^ 23) (h : ∀ z' v, Le z z' → Rep z' v (.list as) → Q z' v σ) : Wp w F res n z σ (newList vs) Q := fun _ _ _ j =>
  wpAny_newList (.push j _ rfl fun z' a l e => h z' _ l ⟨a, _, 0, rfl, e, by simpa using Reps.mono l _ hr⟩) (by rw [hr.length, sizeLine_eq]; omega)
theorem Wp.newTuple {vs : List Value} {as : List AV} {Q : Heap → Value → St → Prop} (hr : Reps z vs as) (hl : as.length ≤ 2 ^ 23) (h : ∀ z' v, Le z z' → Rep z' v (.tup as) → Q z' v σ) : Wp w F res n z σ (newTuple vs) Q := fun _ _ _ j =>
  wpAny_newTuple (.push j _ rfl fun z' a l e => h z' _ l ⟨a, _, 0, rfl, e, by simpa using Reps.mono l _ hr⟩) (by rw [hr.length, sizeLine_eq]; omega)
theorem Ev.list {es : List Expr} {pos : Pos} {P : AV → St → Prop} (h : El w F res n pos es σ fun as σ1 => as.length ≤ 2 ^ 23 ∧ P (.list as) σ1) : Ev w F res n (.List es pos) σ P := fun z =>
  .of_eq (m' := (do standAt pos; PySem.newList (← spliced (backTo pos (starEach es F.env))))) rfl (.stand (.bind ((h z).mono fun _ _ _ _ ⟨_, rs, hl, p⟩ => .newList rs hl fun _ _ _ r => ⟨_, r, p⟩)))
theorem Ev.tuple {es : List Expr} {k : Nat} {pos : Pos} {P : AV → St → Prop} (h : El w F res n pos es σ fun as σ1 => as.length ≤ 2 ^ 23 ∧ P (.tup as) σ1) : Ev w F res n (.Tuple es k pos) σ P := fun z =>
  .of_eq (m' := (do standAt pos; PySem.newTuple (← spliced (backTo pos (starEach es F.env))))) rfl (.stand (.bind ((h z).mono fun _ _ _ _ ⟨_, rs, hl, p⟩ => .newTuple rs hl fun _ _ _ r => ⟨_, r, p⟩)))
end
end Fil
namespace Fil

theorem Rep.isList {z h : Heap} {v : Value} {l : List AV} (hz : Le z h) (r : Rep z v (.list l)) : ∃ a vs, v = .ref a ∧ h.IsList a vs ∧ Reps z vs.toList l :=
  let ⟨a, vs, k, e, g, r⟩ := r; ⟨a, vs, e, IsL.isList (hz _ _ g), r⟩

/-- an item -/
noncomputable def IdxV (a b c : AV) : Prop :=
  ∀ (w : World) (V G : List Str) (F : Fm V G) (res : List (Addr × Obj)) (n : Nat) (z : Heap) (σ : St) (value slice : Expr) (x y : Value) (Q : Heap → Value → St → Prop), Rep z x a → Rep z y b →
    (∀ o i, subscripted slice false o i = operate [o, i] (getItem o i)) → (∀ z' v, Le z z' → Rep z' v c → Q z' v σ) → Wp w F res n z σ (subscriptTail value slice x y) Q
theorem IdxV.list {l : List AV} {i : Int} {k : Nat} {c : AV} (hi : i = (k : Int)) (hk : l[k]? = some c) (hs : l.length ≤ 2 ^ 23) : IdxV (.list l) (.int i) c := fun _ _ _ _ _ _ z _ _ _ _ _ _ r ⟨_, e⟩ hsub hq _ _ _ j => by
  obtain ⟨a, vs, ev, hl, rs⟩ := r.isList j.sub
  subst ev e hi
  obtain ⟨v, hv, rv⟩ := rs.get k c hk
  have hlt : k < l.length := (List.getElem?_eq_some_iff.mp hk).1
  exact tail_any hl.typeIs slot_list_getitem.lookup (wpAny_getItem_list hl (by omega) (by omega) (by simpa using hv) (.here j (hq z v (.refl z) rv))) (hsub _ _)
theorem IdxV.tup {l : List AV} {i : Int} {k : Nat} {c : AV} (hi : i = (k : Int)) (hk : l[k]? = some c) (hs : l.length ≤ 2 ^ 23) : IdxV (.tup l) (.int i) c := fun _ _ _ _ _ _ z _ _ _ _ _ _ ⟨a, vs, n, ev, hl, rs⟩ ⟨_, e⟩ hsub hq _ _ _ j => by
  subst ev e hi
  obtain ⟨v, hv, rv⟩ := rs.get k c hk
  have hlt : k < l.length := (List.getElem?_eq_some_iff.mp hk).1
  have hT : IsTup _ a vs := ⟨_, j.sub _ _ hl, rfl, n, rfl⟩
  have hz : vs.size = l.length := by have := rs.length; rwa [Array.length_toList] at this
  exact tail_any hT.typeIs slot_tuple_getitem.lookup (getItem_tuple hT (by omega) (by omega) (j := k) (by rw [hz]; simpa using seqIndex_of (k := (k : Int)) (n := l.length) (by omega) (by omega)) (by simpa using hv) (.here j (hq z v (.refl z) rv))) (hsub _ _)
theorem IdxV.str {x : Str} {i : Int} {k c : Nat} (hi : i = (k : Int)) (hk : x.cps.toList[k]? = some c) (hs : x.length ≤ 2 ^ 23) : IdxV (.str x) (.int i) (.str ⟨#[c]⟩) := fun _ _ _ _ _ _ z _ _ _ _ _ _ ⟨_, ev⟩ ⟨_, e⟩ hsub hq _ _ _ j => by
  subst ev e hi
  have hlt : k < x.length := by have := (List.getElem?_eq_some_iff.mp hk).1; rwa [Array.length_toList] at this
  refine tail_any (typeIs_str _ _ _) F.slot_str_getitem.lookup (PyProof.Rows.getItem_str (c := c) ?_ ?_ (.toks j (hq z _ (.refl z) ⟨_, rfl⟩) _)) (hsub _ _)
  · rw [decide_eq_false (by omega), decide_eq_false (by omega)]; rfl
  · rw [seqIndex_of (by omega) (by omega)]; simpa using hk

section
variable {w : World} {V G : List Str} {F : Fm V G} {res : List (Addr × Obj)} {n : Nat} {z z' : Heap} {σ σ' : St} {s s' : Shared}

theorem Ev.index {value slice : Expr} {pos : Pos} {P : AV → St → Prop} (h : Ev w F res n value σ fun a σ1 => Ev w F res n slice σ1 fun b σ2 => ∃ c, IdxV a b c ∧ P c σ2)
    (hs : ∀ o i, subscripted slice false o i = operate [o, i] (getItem o i) := by intro _ _; rfl) : Ev w F res n (.Subscript value slice pos) σ P := fun z =>
  .of_eq (m' := (do let o ← eval value F.env; let i ← PySem.holding [o] (eval slice F.env); standAt pos; subscriptTail value slice o i)) rfl
    (.bind ((h z).mono fun z1 _ _ _ ⟨a, ra, h2⟩ => .bind (.holding ((h2 z1).mono fun _ _ _ l2 ⟨b, rb, c, hc, hp⟩ => .stand (hc _ _ _ _ _ _ _ _ _ _ _ _ _ (Rep.mono l2 _ ra) rb hs fun _ _ _ rc => ⟨c, rc, hp⟩)))))

/-- a slice's bound -/
noncomputable def Bd (w : World) {V G : List Str} (F : Fm V G) (res : List (Addr × Obj)) (n : Nat) (e : Option Expr) (σ : St) (P : Option Int → St → Prop) : Prop :=
  ∀ z, Wp w F res n z σ (evalPart e F.env) fun _ v σ' => ∃ k, IsPart v k ∧ P k σ'
theorem Bd.none {P : Option Int → St → Prop} (h : P none σ) : Bd w F res n none σ P := fun _ => .of_eq (evalPart_none _) (.pure ⟨_, IsPart.none, h⟩)
theorem Bd.some {e : Expr} {P : Option Int → St → Prop} (h : Ev w F res n e σ fun a σ1 => ∃ i, a = .int i ∧ P (some i) σ1) : Bd w F res n (some e) σ P := fun z =>
  .of_eq (evalPart_some _ _) ((h z).mono fun _ _ _ _ ⟨a, ra, i, e, hp⟩ => by subst e; obtain ⟨t, e⟩ := ra; subst e; exact ⟨_, IsPart.int i t, hp⟩)

/-- a slice -/
noncomputable def SlV (a : AV) (lo hi : Option Int) (c : AV) : Prop :=
  ∀ (w : World) (V G : List Str) (F : Fm V G) (res : List (Addr × Obj)) (n : Nat) (z : Heap) (σ : St) (x vl vu : Value) (sl : Addr) (Q : Heap → Value → St → Prop), Rep z x a → IsPart vl lo → IsPart vu hi →
    z.get? sl = some { cls := .type "slice", data := .fields #[vl, vu, .none] } → (∀ z' v, Le z z' → Rep z' v c → Q z' v σ) →
    Wp w F res n z σ (getItem x (.ref sl)) Q ∧ ∀ s, J w F res z σ s → ∃ T id, s.TypeIs x T ∧ typeLookup (.type T) "__getitem__" = pure (some (.builtin id))

theorem Ev.slice {value : Expr} {lo hi : Option Expr} {p pos : Pos} {P : AV → St → Prop}
    (h : Ev w F res n value σ fun a σ1 => Bd w F res n lo σ1 fun i σ2 => Bd w F res n hi σ2 fun k σ3 => ∃ c, SlV a i k c ∧ P c σ3) :
    Ev w F res n (.Subscript value (.Slice lo hi Option.none p) pos) σ P := fun z =>
  .of_eq (m' := (do let o ← eval value F.env; let i ← PySem.holding [o] (eval (.Slice lo hi Option.none p) F.env); standAt pos; subscriptTail value (.Slice lo hi Option.none p) o i)) rfl
    (.bind ((h z).mono fun z1 x σ1 l1 ⟨a, ra, h2⟩ => .bind (.holding (fun A s r j => by
      refine wpAny_Slice (wpAny_mono (h2 z1 A s r j) (fun vl s2 hh => ?_) fun _ _ e => e)
      obtain ⟨z2, σ2, l2, j2, i, pl, h3⟩ := hh
      refine wpAny_mono (h3 z2 A s2 r j2) (fun vu s3 hh => ?_) fun _ _ e => e
      obtain ⟨z3, σ3, l3, j3, k, pu, c, hc, hp⟩ := hh
      rw [evalPart_none]
      refine wpAny_pure ?_
      obtain ⟨z4, l4, j4, e4⟩ := j3.push { cls := .type "slice", data := .fields #[vl, vu, .none] } rfl
      refine ⟨z4, σ3, (l2.trans l3).trans l4, j4, ?_⟩
      refine Wp.stand (fun A' s' r' j' => ?_)
      obtain ⟨hw, ht⟩ := hc w V G F res n z4 σ3 x vl vu _ (fun z' v σ' => ∃ a, Rep z' v a ∧ P a σ') (Rep.mono ((l2.trans l3).trans l4) _ ra) pl pu e4 fun z' v _ rc => ⟨c, rc, hp⟩
      obtain ⟨T, id, hT, hl⟩ := ht s' j'
      exact tail_any (ops := [.ref s3.heap.objs.size, x]) hT hl (hw A' s' r' j') rfl))))

theorem SlV.list {l : List AV} {lo hi : Option Int} {c : List AV} (hc : ∀ vs : Array Value, vs.size = l.length → ∀ z, Reps z vs.toList l → Reps z (slicePick vs lo hi none).toList c) (hs : l.length ≤ 2 ^ 23) :
    SlV (.list l) lo hi (.list c) := fun _ _ _ _ _ _ z _ _ _ _ _ _ r pl pu e hq => by
  obtain ⟨a, vs, k, ev, g, rs⟩ := r
  subst ev
  have hz : vs.size = l.length := by have := rs.length; rwa [Array.length_toList] at this
  refine ⟨fun _ _ _ j => ?_, fun _ j => ⟨_, _, (IsL.isList (j.sub _ _ g)).typeIs, slot_list_getitem.lookup⟩⟩
  refine wpAny_getItem_list_slice (IsL.isList (j.sub _ _ g)) ⟨_, j.sub _ _ e, rfl, rfl⟩ pl pu .none (by simp) (.push j _ rfl fun z' b l0 e => hq z' _ l0 ⟨b, _, _, rfl, e, hc vs hz z' (Reps.mono l0 _ rs)⟩) (by rw [sizeLine_eq]; omega)
theorem SlV.upto {l : List AV} {k : Nat} {i : Int} (hi : i = (k : Int)) (hs : l.length ≤ 2 ^ 23) : SlV (.list l) none (some i) (.list (l.take k)) :=
  .list (fun vs _ z r => by subst hi; rw [slicePick_upto']; simpa using r.take k) hs
theorem SlV.from {l : List AV} {k : Nat} {i : Int} (hi : i = (k : Int)) (hs : l.length ≤ 2 ^ 23) : SlV (.list l) (some i) none (.list (l.drop k)) :=
  .list (fun vs _ z r => by subst hi; rw [slicePick_from']; simpa using r.drop k) hs
theorem SlV.run {l : List AV} {a b : Nat} {i k : Int} (hi : i = (a : Int)) (hk : k = (b : Int)) (hab : a ≤ b) (hb : b ≤ l.length) (hs : l.length ≤ 2 ^ 23) : SlV (.list l) (some i) (some k) (.list ((l.drop a).take (b - a))) :=
  .list (fun vs hz z r => by subst hi hk; rw [slicePick_run vs a b (by omega) hab]; simpa using (r.drop a).take (b - a)) hs

/-- a call of a built-in that changes nothing -/
noncomputable def FunV (id : String) (as : List AV) (c : AV) : Prop :=
  ∀ (w : World) (V G : List Str) (F : Fm V G) (res : List (Addr × Obj)) (n : Nat) (z : Heap) (σ : St) (vs : List Value) (Q : Heap → Value → St → Prop), Reps z vs as → (∀ z' v, Le z z' → Rep z' v c → Q z' v σ) →
    Wp w F res (n + 1) z σ (call (.builtin id) vs) Q

theorem Wp.evalArgs {f : Value} {x : Sem Value} {rest : List (Bool × Sem Value)} {Q : Heap → Args → St → Prop} (h : Wp w F res n z σ (spliced ((false, x) :: rest)) fun z' vs σ' => Q z' ⟨vs, []⟩ σ') :
    Wp w F res n z σ (evalArgs f true ((false, x) :: rest) []) Q := fun A s r j => Calls.evalArgs_plain (wpAny_mono (h A s r j) (fun _ _ q => q) fun _ _ e => e)
theorem Wp.callWithB {pos : Pos} {id : String} {first : List Value} {e : Expr} {rest : List Expr} {P : List AV → St → Prop} {Q : Heap → Value → St → Prop}
    (h : El w F res n pos (e :: rest) σ P) (hq : ∀ z' vs σ' as, Le z z' → Reps z' vs as → P as σ' → Wp w F res n z' σ' (call (.builtin id) (first ++ vs)) Q)
    (he : starEach (e :: rest) F.env = (false, eval e F.env) :: starEach rest F.env) (hplain : (backTo pos (starEach rest F.env)).any (·.1) = false) :
    Wp w F res n z σ (callWith pos (.builtin id) first (backTo pos (starEach (e :: rest) F.env)) []) Q := fun A s r j => by
  have h0 := h z A s r j
  rw [he] at h0 ⊢
  refine Calls.callWith_builtin (by show ((false || (backTo pos (starEach rest F.env)).any (·.1))) = false; rw [hplain]; rfl) ?_
  refine Calls.evalArgs_plain (wpAny_mono h0 (fun vs s1 hh => ?_) fun _ _ e => e)
  obtain ⟨z1, σ1, l1, j1, as, rs, p⟩ := hh
  exact wpAny_mono (hq z1 vs σ1 as l1 rs p A s1 r j1) (fun _ _ ⟨z2, σ2, l2, j2, q2⟩ => ⟨z2, σ2, l1.trans l2, j2, q2⟩) fun _ _ e => e

theorem Ev.callB {x : Str} {id : String} {p pos : Pos} {e : Expr} {rest : List Expr} {P : AV → St → Prop} (hg : x ∈ F.globs) (hb : GlobB w x (.builtin id))
    (h : El w F res (n + 1) pos (e :: rest) σ fun as σ1 => ∃ c, FunV id as c ∧ P c σ1)
    (he : starEach (e :: rest) F.env = (false, eval e F.env) :: starEach rest F.env := by rfl) (hplain : (backTo pos (starEach rest F.env)).any (·.1) = false := by rfl) :
    Ev w F res (n + 1) (.Call (.Name x p) (e :: rest) [] pos) σ P := fun z =>
  .of_eq (arm_eval_Call_Name' ..) (.bind fun A s r j => loadB j hg hb (.here j (Wp.callWithB h (fun _ _ _ _ _ rs ⟨c, hc, hp⟩ => hc _ _ _ _ _ _ _ _ _ _ rs fun _ _ _ rc => ⟨c, rc, hp⟩) he hplain)))

theorem FunV.lenList {l : List AV} (hs : l.length ≤ 2 ^ 23) : FunV "len" [.list l] (.int l.length) := fun _ _ _ _ _ _ z _ _ _ ⟨v, vs', e, r, rs⟩ hq _ _ _ j => by
  rw [show vs' = [] from rs] at e
  obtain ⟨a, vs, ev, hl, rs⟩ := r.isList j.sub
  subst e ev
  have hz : vs.size = l.length := by have := rs.length; rwa [Array.length_toList] at this
  refine PyProof.Rows.len_list hl (by omega) ?_
  rw [hz]
  exact .toks j (hq z _ (.refl z) ⟨_, rfl⟩) _
theorem FunV.lenStr {x : Str} (hs : x.length ≤ 2 ^ 23) : FunV "len" [.str x] (.int x.length) := fun _ _ _ _ _ _ z _ _ _ ⟨v, vs', e, ⟨t, ev⟩, rs⟩ hq _ _ _ j => by
  rw [show vs' = [] from rs] at e
  subst e ev
  exact PyProof.Rows.len_str (by omega) (.toks j (hq z _ (.refl z) ⟨_, rfl⟩) _)
theorem FunV.abs {i : Int} : FunV "abs" [.int i] (.int (if i < 0 then -i else i)) := fun _ _ _ _ _ _ z _ _ _ ⟨v, vs', e, ⟨t, ev⟩, rs⟩ hq _ _ _ j => by
  rw [show vs' = [] from rs] at e
  subst e ev
  exact call_abs_int fun _ _ => .toks j (hq z _ (.refl z) ⟨_, rfl⟩) _
theorem FunV.ord {c : Nat} : FunV "ord" [.str ⟨#[c]⟩] (.int c) := fun _ _ _ _ _ _ z _ _ _ ⟨v, vs', e, ⟨t, ev⟩, rs⟩ hq _ _ _ j => by
  rw [show vs' = [] from rs] at e
  subst e ev
  exact P.ord_of_char (.toks j (hq z _ (.refl z) ⟨_, rfl⟩) _)

/-- a call of a def -/
theorem Ev.call {x : Str} {f : Addr} {p pos : Pos} {e : Expr} {rest : List Expr} {P : AV → St → Prop} (hg : x ∈ F.globs) (hb : GlobF w x f)
    (hf : ∃ oc od fd osl, (KK w).lookup f = some ⟨oc, od, .func fd, osl⟩) (h : El w F res n pos (e :: rest) σ fun as σ1 => Cl w n f as fun a => P a σ1)
    (he : starEach (e :: rest) F.env = (false, eval e F.env) :: starEach rest F.env := by rfl) (hplain : (backTo pos (starEach rest F.env)).any (·.1) = false := by rfl) :
    Ev w F res n (.Call (.Name x p) (e :: rest) [] pos) σ P := fun z =>
  .of_eq (arm_eval_Call_Name' ..) (.bind fun A s r j => loadG j hg hb (.here j fun A s r j => by
    obtain ⟨oc, od, fd, osl, hk⟩ := hf
    have h0 := h z A s r j
    rw [he] at h0 ⊢
    refine Calls.callWith_function (o := ⟨oc, od, .func fd, osl⟩) (fd := fd) (Calls.evalArgs_plain (wpAny_mono h0 (fun vs s1 hh => ?_) fun _ _ e => e))
    obtain ⟨z1, σ1, l1, j1, as, rs, p⟩ := hh
    refine ⟨⟨j1.cxh.k _ _ hk, rfl⟩, wpAny_mono (p A s1 z1 vs r j1.cx j1.sub rs) (fun v s2 hh => ?_) fun _ _ e => e⟩
    obtain ⟨z2, a, ⟨k1, k2, k3, k4, k5, k6⟩, ra, hp⟩ := hh
    exact ⟨z2, σ1, l1.trans k2, j1.grow k1 k2 k3 k4 k5 k6, a, ra, hp⟩))
end
end Fil
namespace Fil

noncomputable abbrev lOf (vs : Array Value) (k : Nat) : Obj := { cls := .type "list", dict := none, data := .seq vs k, slots := #[] }

section
variable {w : World} {V G : List Str} {F : Fm V G} {res : List (Addr × Obj)} {n : Nat} {z z' : Heap} {σ σ' : St} {s s' : Shared}

theorem SlotOk.weaken {h : Heap} {p : Addr × Obj} {v : Value} {sl : Slot} (q : SlotOk F (p :: res) z h v sl) : SlotOk F res z h v sl := by
  cases sl with
  | v a => exact q
  | o l =>
    obtain ⟨d, vs, k, e1, e2, e3, e4, e5, e6, e7⟩ := q
    exact ⟨d, vs, k, e1, e2, e3, e4, e5, fun p hp => e6 p (.tail _ hp), e7⟩
  | r d => exact q
theorem J.dropRes {p : Addr × Obj} (j : J w F (p :: res) z σ s) : J w F res z σ s := by
  obtain ⟨m, val, hn, hl⟩ := j.loc
  exact ⟨j.ok, j.kp, j.mte, j.z0, j.sub, j.frz, j.zL, fun q hq => j.rs q (.tail _ hq), (List.nodup_cons.mp j.rnd).2,
    ⟨m, val, hn, ⟨fun i y sl a b => (let ⟨e, q⟩ := hl.at_ i y sl a b; ⟨e, q.weaken⟩), hl.apart, hl.len⟩⟩, j.os, j.gens⟩

theorem J.swapRes {p q : Addr × Obj} (j : J w F (p :: q :: res) z σ s) : J w F (q :: p :: res) z σ s := by
  obtain ⟨m, val, hn, hl⟩ := j.loc
  have mem : ∀ x, x ∈ q :: p :: res → x ∈ p :: q :: res := fun x hx => by
    rcases List.mem_cons.mp hx with rfl | hx
    · exact .tail _ (.head _)
    · rcases List.mem_cons.mp hx with rfl | hx
      · exact .head _
      · exact .tail _ (.tail _ hx)
  refine ⟨j.ok, j.kp, j.mte, j.z0, j.sub, j.frz, j.zL, fun x hx => j.rs x (mem x hx), ?_, ⟨m, val, hn, ⟨fun i y sl a b => (let ⟨e, q'⟩ := hl.at_ i y sl a b; ⟨e, ?_⟩), hl.apart, hl.len⟩⟩, j.os, j.gens⟩
  · have := j.rnd
    simp only [List.map_cons, List.nodup_cons, List.mem_cons, not_or] at this ⊢
    exact ⟨⟨fun e => this.1.1 e.symm, this.2.1⟩, this.1.2, this.2.2⟩
  · cases sl with
    | v a => exact q'
    | o l =>
      obtain ⟨d, vs, k, e1, e2, e3, e4, e5, e6, e7⟩ := q'
      exact ⟨d, vs, k, e1, e2, e3, e4, e5, fun x hx => e6 x (mem x hx), e7⟩
    | r d => exact q'

/-- what is reserved at an address changes -/
theorem J.updRes {d : Addr} {o o' : Obj} {h' : Heap} {tk : Nat} (j : J w F ((d, o) :: res) z σ s) (hk : ∀ b x, b ≠ d → s.heap.get? b = some x → h'.get? b = some x) (hd : h'.get? d = some o') :
    J w F ((d, o') :: res) z σ { s with heap := h', toks := tk } := by
  obtain ⟨m, val, hn, hl⟩ := j.loc
  obtain ⟨r1, r2, r3, r4⟩ := j.rs (d, o) (.head _)
  have nd : ∀ p ∈ res, p.1 ≠ d := fun p hp e => (List.nodup_cons.mp j.rnd).1 (List.mem_map.mpr ⟨p, hp, e⟩)
  refine ⟨j.ok, fun b x hb e => hk _ _ (fun q => ?_) (j.kp b x hb e), fun b hb => ?_, j.z0, fun b x e => hk _ _ (fun q => by rw [q] at e; rw [r2] at e; cases e) (j.sub _ _ e), j.frz, j.zL, fun p hp => ?_, j.rnd,
    ⟨m, val, hn.at' (fun x e => hk _ _ (Ne.symm r3) e), ⟨fun i y sl a b => ?_, hl.apart, hl.len⟩⟩, j.os, j.gens⟩
  · subst q
    rcases r4 with r4 | r4
    · rw [show F.h0.get? b = none from r4] at e; cases e
    · exact hb r4
  · by_cases q : b = d
    · subst q; exact ⟨_, hd⟩
    · obtain ⟨x, e⟩ := j.mte b hb; exact ⟨x, hk _ _ q e⟩
  · rcases List.mem_cons.mp hp with rfl | hp
    · exact ⟨hd, r2, r3, r4⟩
    · obtain ⟨a, b⟩ := j.rs p (.tail _ hp)
      exact ⟨hk _ _ (nd p hp) a, b⟩
  · obtain ⟨e, q⟩ := hl.at_ i y sl a b
    refine ⟨e, ?_⟩
    cases sl with
    | v a => exact q
    | o l =>
      obtain ⟨d', vs, k, e1, e2, e3, e4, e5, e6, e7⟩ := q
      refine ⟨d', vs, k, e1, hk _ _ (Ne.symm (e6 (d, o) (.head _))) e2, e3, e4, e5, fun p hp => ?_, e7⟩
      rcases List.mem_cons.mp hp with rfl | hp
      · exact e6 (d, o) (.head _)
      · exact e6 p (.tail _ hp)
    | r d => exact q

/-- what is reserved at an address is lost -/
theorem J.loseRes {d : Addr} {o : Obj} {h' : Heap} {tk : Nat} (j : J w F ((d, o) :: res) z σ s) (hk : ∀ b x, b ≠ d → s.heap.get? b = some x → h'.get? b = some x) (hm : d ∉ F.mt) :
    J w F res z σ { s with heap := h', toks := tk } := by
  obtain ⟨m, val, hn, hl⟩ := j.loc
  obtain ⟨r1, r2, r3, r4⟩ := j.rs (d, o) (.head _)
  have nd : ∀ p ∈ res, p.1 ≠ d := fun p hp e => (List.nodup_cons.mp j.rnd).1 (List.mem_map.mpr ⟨p, hp, e⟩)
  refine ⟨j.ok, fun b x hb e => hk _ _ (fun q => ?_) (j.kp b x hb e), fun b hb => ?_, j.z0, fun b x e => hk _ _ (fun q => by rw [q] at e; rw [r2] at e; cases e) (j.sub _ _ e), j.frz, j.zL, fun p hp => ?_, (List.nodup_cons.mp j.rnd).2,
    ⟨m, val, hn.at' (fun x e => hk _ _ (Ne.symm r3) e), ⟨fun i y sl a b => ?_, hl.apart, hl.len⟩⟩, j.os, j.gens⟩
  · subst q
    rcases r4 with r4 | r4
    · rw [show F.h0.get? b = none from r4] at e; cases e
    · exact hb r4
  · obtain ⟨x, e⟩ := j.mte b hb; exact ⟨x, hk _ _ (fun q => hm (q ▸ hb)) e⟩
  · obtain ⟨a, b⟩ := j.rs p (.tail _ hp)
    exact ⟨hk _ _ (nd p hp) a, b⟩
  · obtain ⟨e, q⟩ := hl.at_ i y sl a b
    refine ⟨e, ?_⟩
    cases sl with
    | v a => exact q
    | o l =>
      obtain ⟨d', vs, k, e1, e2, e3, e4, e5, e6, e7⟩ := q
      exact ⟨d', vs, k, e1, hk _ _ (Ne.symm (e6 (d, o) (.head _))) e2, e3, e4, e5, fun p hp => e6 p (.tail _ hp), e7⟩
    | r d => exact q

/-- a new object, reserved -/
theorem J.pushRes (j : J w F res z σ s) (o : Obj) (hf : o.isFreed = false) : J w F ((s.heap.objs.size, o) :: res) z σ { s with heap := s.heap.push o } := by
  obtain ⟨m, val, hn, hl⟩ := j.loc
  have none_ : s.heap.get? s.heap.objs.size = none := by
    cases q : s.heap.get? s.heap.objs.size with
    | none => rfl
    | some _ => exact absurd (Heap.lt_size q) (Nat.lt_irrefl _)
  have up : ∀ b x, s.heap.get? b = some x → (s.heap.push o).get? b = some x := fun b x e => Heap.get?_push_of_some o e
  have ne : ∀ b x, s.heap.get? b = some x → b ≠ s.heap.objs.size := fun b x e q => by rw [q, none_] at e; cases e
  obtain ⟨oL, _, _, hL, _⟩ := id hn
  refine ⟨j.ok, fun b x hb e => up _ _ (j.kp b x hb e), fun b hb => (let ⟨x, e⟩ := j.mte b hb; ⟨x, up _ _ e⟩), j.z0, fun b x e => up _ _ (j.sub _ _ e), j.frz, j.zL, fun p hp => ?_, ?_,
    ⟨m, val, hn.push o, ⟨fun i y sl a b => ?_, hl.apart, hl.len⟩⟩, j.os, j.gens⟩
  · rcases List.mem_cons.mp hp with rfl | hp
    · refine ⟨Heap.get?_push_size _ hf, ?_, Ne.symm (ne _ _ hL), .inl ?_⟩
      · cases q : z.get? s.heap.objs.size with
        | none => rfl
        | some x => exact absurd rfl (ne _ _ (j.sub _ _ q))
      · cases q : F.h0.get? s.heap.objs.size with
        | none => rfl
        | some x =>
          by_cases hb : s.heap.objs.size ∈ F.mt
          · obtain ⟨x, e⟩ := j.mte _ hb
            exact absurd rfl (ne _ _ e)
          · exact absurd rfl (ne _ _ (j.kp _ _ hb q))
    · obtain ⟨a, b⟩ := j.rs p hp
      exact ⟨up _ _ a, b⟩
  · rw [List.map_cons, List.nodup_cons]
    refine ⟨fun q => ?_, j.rnd⟩
    obtain ⟨p, hp, e⟩ := List.mem_map.mp q
    exact ne _ _ (j.rs p hp).1 e
  · obtain ⟨e, q⟩ := hl.at_ i y sl a b
    refine ⟨e, ?_⟩
    cases sl with
    | v a => exact q
    | o l =>
      obtain ⟨d', vs, k, e1, e2, e3, e4, e5, e6, e7⟩ := q
      refine ⟨d', vs, k, e1, up _ _ e2, e3, e4, e5, fun p hp => ?_, e7⟩
      rcases List.mem_cons.mp hp with rfl | hp
      · exact Ne.symm (ne _ _ e2)
      · exact e6 p hp
    | r d => exact q

/-- a list of the frame's is set apart -/
theorem J.takeO {x : Str} {l : List AV} (j : J w F res z σ s) (h : Look F.vars σ x (.o l)) :
    ∃ d vs k, Reps z vs.toList l ∧ (∃ m, s.heap.Ns F.env.locals m ∧ m x = some (.ref d)) ∧ s.heap.get? d = some (lOf vs k) ∧ ∀ σ', Put F.vars σ x (.r d) σ' → J w F ((d, lOf vs k) :: res) z σ' s := by
  obtain ⟨m, val, hn, hl⟩ := j.loc
  obtain ⟨i, e1, e2⟩ := h.at
  obtain ⟨e, d, vs, k, ev, q1, q2, q3, q4, q5, q6⟩ := hl.at_ i x _ e1 e2
  refine ⟨d, vs, k, q2, ⟨m, hn, by rw [e, ev]⟩, q1, fun σ' hp => ?_⟩
  obtain ⟨i', e3, e4⟩ := hp.at
  have hii : i' = i := (List.getElem?_inj (List.getElem?_eq_some_iff.mp e3).1 j.ok.nod).mp (e3.trans e1.symm)
  subst hii
  have hlt : i' < σ.length := (List.getElem?_eq_some_iff.mp e2).1
  refine ⟨j.ok, j.kp, j.mte, j.z0, j.sub, j.frz, j.zL, fun p hp => ?_, ?_, ⟨m, val, hn, ⟨fun k' y sl hk hs => ?_, fun k' k'' l1 l2 hne hk hk' => ?_, ?_⟩⟩, j.os, j.gens⟩
  · rcases List.mem_cons.mp hp with rfl | hp
    · exact ⟨q1, q3, q4, q6⟩
    · exact j.rs p hp
  · rw [List.map_cons, List.nodup_cons]
    refine ⟨fun q => ?_, j.rnd⟩
    obtain ⟨p, hp, e⟩ := List.mem_map.mp q
    exact q5 p hp e
  · rw [e4] at hs
    by_cases hki : k' = i'
    · subst hki
      rw [List.getElem?_set_self hlt] at hs; cases hs
      rw [e1] at hk; cases hk
      exact ⟨e, ev⟩
    · rw [List.getElem?_set_ne (Ne.symm hki)] at hs
      obtain ⟨a, b⟩ := hl.at_ k' y sl hk hs
      refine ⟨a, ?_⟩
      cases sl with
      | v a => exact b
      | o l' =>
        obtain ⟨d', vs', k2, ev', p1, p2, p3, p4, p5, p6⟩ := b
        refine ⟨d', vs', k2, ev', p1, p2, p3, p4, fun p hp => ?_, p6⟩
        rcases List.mem_cons.mp hp with rfl | hp
        · intro r
          have r : d = d' := r
          have := hl.apart k' i' l' l hki hs e2
          rw [ev, ev', r] at this
          exact this rfl
        · exact p5 p hp
      | r d' => exact b
  · rw [e4] at hk hk'
    by_cases h1 : k' = i'
    · subst h1; rw [List.getElem?_set_self hlt] at hk; cases hk
    · by_cases h2 : k'' = i'
      · subst h2; rw [List.getElem?_set_self hlt] at hk'; cases hk'
      · rw [List.getElem?_set_ne (Ne.symm h1)] at hk
        rw [List.getElem?_set_ne (Ne.symm h2)] at hk'
        exact hl.apart k' k'' l1 l2 hne hk hk'
  · rw [e4, List.length_set]; exact hl.len

/-- and given back -/
theorem J.giveAt {x : Str} {l : List AV} {d : Addr} {vs : Array Value} {k i' : Nat} (j : J w F ((d, lOf vs k) :: res) z σ s) (e1 : F.vars[i']? = some x) (e2 : σ[i']? = some (some (.r d))) (e4 : σ' = σ.set i' (some (.o l))) (hr : Reps z vs.toList l) : J w F res z σ' s := by
  obtain ⟨m, val, hn, hl⟩ := j.loc
  obtain ⟨e, ev⟩ := hl.at_ i' x _ e1 e2
  have ev : val i' = .ref d := ev
  have hlt : i' < σ.length := (List.getElem?_eq_some_iff.mp e2).1
  obtain ⟨r1, r2, r3, r4⟩ := j.rs (d, lOf vs k) (.head _)
  have nd : ∀ p ∈ res, p.1 ≠ d := fun p hp e => (List.nodup_cons.mp j.rnd).1 (List.mem_map.mpr ⟨p, hp, e⟩)
  have other : ∀ k' l', σ[k']? = some (some (.o l')) → val k' ≠ .ref d := fun k' l' hs => by
    have hk' : k' < F.vars.length := by rw [← hl.len]; exact (List.getElem?_eq_some_iff.mp hs).1
    obtain ⟨a, d', vs', k2, ev', p1, p2, p3, p4, p5, p6⟩ := hl.at_ k' _ _ (List.getElem?_eq_getElem hk') hs
    rw [ev']
    intro q; cases q
    exact p5 _ (.head _) rfl
  refine ⟨j.ok, j.kp, j.mte, j.z0, j.sub, j.frz, j.zL, fun q hq => j.rs q (.tail _ hq), (List.nodup_cons.mp j.rnd).2, ⟨m, val, hn, ⟨fun k' y sl hk hs => ?_, fun k' k'' l1 l2 hne hk hk' => ?_, ?_⟩⟩, j.os, j.gens⟩
  · rw [e4] at hs
    by_cases hki : k' = i'
    · subst hki
      rw [List.getElem?_set_self hlt] at hs; cases hs
      rw [e1] at hk; cases hk
      exact ⟨e, d, vs, k, ev, r1, hr, r2, Ne.symm (Ne.symm r3), nd, r4⟩
    · rw [List.getElem?_set_ne (Ne.symm hki)] at hs
      obtain ⟨a, b⟩ := hl.at_ k' y sl hk hs
      exact ⟨a, b.weaken⟩
  · rw [e4] at hk hk'
    by_cases h1 : k' = i'
    · subst h1
      rw [List.getElem?_set_ne hne] at hk'
      rw [ev]
      exact Ne.symm (other _ _ hk')
    · rw [List.getElem?_set_ne (Ne.symm h1)] at hk
      by_cases h2 : k'' = i'
      · subst h2
        rw [ev]
        exact other _ _ hk
      · rw [List.getElem?_set_ne (Ne.symm h2)] at hk'
        exact hl.apart k' k'' l1 l2 hne hk hk'
  · rw [e4, List.length_set]; exact hl.len
theorem J.giveO {x : Str} {l : List AV} {d : Addr} {vs : Array Value} {k : Nat} (j : J w F ((d, lOf vs k) :: res) z σ s) (h : Look F.vars σ x (.r d)) (hp : Put F.vars σ x (.o l) σ') (hr : Reps z vs.toList l) : J w F res z σ' s := by
  obtain ⟨i, e1, e2⟩ := h.at
  obtain ⟨i', e3, e4⟩ := hp.at
  have hii : i' = i := (List.getElem?_inj (List.getElem?_eq_some_iff.mp e3).1 j.ok.nod).mp (e3.trans e1.symm)
  subst hii
  exact j.giveAt e1 e2 e4 hr
end
end Fil
namespace Fil

/-- an expression gives a list of its own -/
noncomputable def EvO (w : World) {V G : List Str} (F : Fm V G) (res : List (Addr × Obj)) (n : Nat) (e : Expr) (σ : St) (P : List AV → St → Prop) : Prop :=
  ∀ z A s, Room n A → J w F res z σ s → wpAny (MM w) A (eval e F.env) (fun v s' => ∃ z' σ' d vs k l, Le z z' ∧ v = .ref d ∧ J w F ((d, lOf vs k) :: res) z' σ' s' ∧ Reps z' vs.toList l ∧ P l σ') NoE s

section
variable {w : World} {V G : List Str} {F : Fm V G} {res : List (Addr × Obj)} {n : Nat} {z z' : Heap} {σ σ' : St} {s s' : Shared}

theorem J.storeName {A : Around} {E : Value → Shared → Prop} {Q : Unit → Shared → Prop} {x : Str} {v : Value} {sl : Slot} (j : J w F res z σ s) (hp : Put F.vars σ x sl σ') (hv : SlotOk F res z s.heap v sl) (ho : ∀ l, sl ≠ .o l)
    (h : ∀ s', J w F res z σ' s' → Q () s') : wpAny (MM w) A (storeName F.env x v) Q E s := by
  obtain ⟨m, val, hn, hl⟩ := j.loc
  obtain ⟨i, e1, e2⟩ := hp.at
  subst e2
  refine wpAny_storeName_local (j.ok.loc x hp.mem).1 hn (fun h' hn' hs => h _ (j.store hl e1 hn' hs hv fun k l l' _ e => absurd e (ho l))) ?_
  rw [j.ok.kind]; rfl

theorem Wp.store {x : Str} {v : Value} {a : AV} {Q : Heap → Unit → St → Prop} (hp : Put F.vars σ x (.v a) σ') (hv : Rep z v a) (h : Q z () σ') : Wp w F res n z σ (storeName F.env x v) Q := fun _ _ _ j =>
  j.storeName hp hv (fun _ e => by cases e) fun _ j' => .here j' h
theorem Wp.bindName {x : Str} {v : Value} {Q : Heap → Unit → St → Prop} (h : Wp w F res n z σ (storeName F.env x v) Q) : Wp w F res n z σ (bindName F.env x v) Q := fun A s r j => wpAny_bindName (h A s r j)

theorem Ex.assign {x : Str} {e : Expr} {p pos : Pos} {P : Fl → St → Prop} (h : Ev w F res n e σ fun a σ1 => ∃ σ2, Put F.vars σ1 x (.v a) σ2 ∧ P .next σ2)
    (hs : swapsWith e (some (.Name x p)) pos.line F.env = pure false := by rfl) : Ex w F res n (.Assign [.Name x p] e pos) σ P := fun z =>
  .of_eq (exec_Assign_Name _ _ _ _ _ hs) (.stand (.bind ((h z).mono fun _ _ _ _ ⟨a, ra, σ2, hp, q⟩ => .stand (.bind (.bindName (.store hp ra (.pure ⟨.next, trivial, q⟩)))))))

theorem Ex.assignO {x : Str} {e : Expr} {p pos : Pos} {P : Fl → St → Prop} (h : EvO w F res n e σ fun l σ1 => ∃ σ2, Put F.vars σ1 x (.o l) σ2 ∧ P .next σ2)
    (hs : swapsWith e (some (.Name x p)) pos.line F.env = pure false := by rfl) : Ex w F res n (.Assign [.Name x p] e pos) σ P := fun z A s r j => by
  refine wpAny_Assign_Name (wpAny_mono (h z A s r j) (fun v s1 hh => ?_) fun _ _ e => e) hs
  obtain ⟨z1, σ1, d, vs, k, l, l1, e, j1, rs, σ2, hp, q⟩ := hh
  subst e
  obtain ⟨i, e1, e2⟩ := hp.at
  have hi : i < σ1.length := by obtain ⟨_, _, _, hl⟩ := j1.loc; rw [hl.len]; exact (List.getElem?_eq_some_iff.mp e1).1
  obtain ⟨m, val, hn, hl⟩ := j1.loc
  refine wpAny_storeName_local (j1.ok.loc x hp.mem).1 hn (fun h' hn' hs' => ?_) (by rw [j1.ok.kind]; rfl)
  have j2 := j1.store (tk := s1.toks + 1) (sl := .r d) hl e1 hn' hs' rfl fun k l l' _ e => by cases e
  refine ⟨z1, σ2, l1, ?_, .next, trivial, q⟩
  -- the name holds it: it is given to the frame
  obtain ⟨m2, val2, hn2, hl2⟩ := j2.loc
  have hset : (σ1.set i (some (.r d)))[i]? = some (some (.r d)) := List.getElem?_set_self hi
  have hset2 : σ2 = (σ1.set i (some (.r d))).set i (some (.o l)) := by rw [e2, List.set_set]
  exact j2.giveAt e1 hset hset2 rs
end
end Fil
namespace Fil

/-- what follows a statement; a loop's turn -/
noncomputable def Nx (R : St → Prop) (P : Fl → St → Prop) : Fl → St → Prop
  | .next, σ => R σ
  | f, σ => P f σ
noncomputable def Lp (R : St → Prop) (P : Fl → St → Prop) : Fl → St → Prop
  | .next, σ => R σ
  | .cont, σ => R σ
  | .brk, σ => P .next σ
  | .ret a, σ => P (.ret a) σ

section
variable {w : World} {V G : List Str} {F : Fm V G} {res : List (Addr × Obj)} {n : Nat} {z z' : Heap} {σ σ' : St} {s s' : Shared}

theorem EvO.list {es : List Expr} {pos : Pos} {P : List AV → St → Prop} (h : El w F res n pos es σ fun as σ1 => as.length ≤ 2 ^ 23 ∧ P as σ1) : EvO w F res n (.List es pos) σ P := fun z A s r j => by
  show wpAny _ _ (do standAt pos; PySem.newList (← spliced (backTo pos (starEach es F.env)))) _ _ _
  refine wpAny_bind (wpAny_standAt (wpAny_bind (wpAny_mono (h z A s r j) (fun vs s1 hh => ?_) fun _ _ e => e)))
  obtain ⟨z1, σ1, l1, j1, as, rs, hl, p⟩ := hh
  refine wpAny_newList ⟨z1, σ1, _, vs.toArray, 0, as, l1, rfl, j1.pushRes _ rfl, by simpa using rs, p⟩ (by rw [rs.length, sizeLine_eq]; omega)
theorem EvO.cat {l r : Expr} {pos : Pos} {P : List AV → St → Prop} (h : Ev w F res n l σ fun a σ1 => Ev w F res n r σ1 fun b σ2 => ∃ x y, a = .list x ∧ b = .list y ∧ x.length + y.length ≤ 2 ^ 23 ∧ P (x ++ y) σ2) :
    EvO w F res n (.BinOp l .Add r pos) σ P := fun z A s rm j => by
  refine wpAny_BinOp (wpAny_mono (h z A s rm j) (fun v s1 hh => ?_) fun _ _ e => e)
  obtain ⟨z1, σ1, l1, j1, a, ra, h2⟩ := hh
  refine wpAny_mono (h2 z1 A s1 rm j1) (fun v2 s2 hh => ?_) fun _ _ e => e
  obtain ⟨z2, σ2, l2, j2, b, rb, x, y, e1, e2, hl, p⟩ := hh
  subst e1 e2
  obtain ⟨a, vs, k, e, g, r⟩ := Rep.mono l2 _ ra
  obtain ⟨a', vs', k', e', g', r'⟩ := rb
  subst e e'
  refine PySem.P.add_list (j2.sub _ _ g) (j2.sub _ _ g') ⟨z2, σ2, _, vs ++ vs', 0, x ++ y, l1.trans l2, rfl, j2.pushRes _ rfl, by rw [Array.toList_append]; exact r.append r', p⟩ ?_
  have h1 := r.length; have h2 := r'.length
  rw [Array.length_toList] at h1 h2
  rw [sizeLine_eq]; omega

theorem notModule {V G : List Str} (F : Fm V G) (hk : F.env.scope.kind = .function) : interactive F.env = false := by unfold interactive; rw [hk]; rfl

/-- a method of a list of the frame's own, as a statement -/
theorem listMeth {A : Around} {x name : Str} {id : String} {e : Expr} {px apos cpos epos : Pos} {Q : Flow → Shared → Prop} {d : Addr} {vs : Array Value} {k : Nat} {m : Str → Option Value} (hk : F.env.scope.kind = .function)
    (hx : F.env.kindOf x = some .local) (hdb : (x == ("__debug__" : Str)) = false) (hn : s.heap.Ns F.env.locals m) (hm : m x = some (.ref d)) (hd : s.heap.get? d = some (lOf vs k))
    (slot : PySem.Slot "list" name id) (ty : typeOf (.builtin id) = pure (.type "method_descriptor"))
    (h : wpAny (MM w) A (callWith cpos (.builtin id) [.ref d] (backTo cpos (starEach [e] F.env)) []) (fun v s' => v = .none ∧ Q .next s') NoE s)
    (hline : (apos.endLine == cpos.line) = true)
    (hfew : ((backTo cpos (starEach [e] F.env)).all (fun x => !x.1) && (backToKw cpos (keywordEach [] F.env)).all (fun x => x.1.isSome)
      && decide (([e] : List Expr).length + ([] : List Keyword).length + (if ([] : List Keyword).isEmpty then 0 else 1) < 30)) = true) :
    wpAny (MM w) A (exec (.Expr (.Call (.Attribute (.Name x px) name apos) [e] [] cpos) epos) F.env) Q NoE s := by
  refine wpAny_Expr (e := .Call (.Attribute (.Name x px) name apos) [e] [] cpos) ?_ (notModule F hk) rfl
  refine wpAny_Call_method_lateS rfl hfew hline ?_
  refine wpAny_Name (wpAny_loadName_local hk hx hn hm ?_) hdb
  refine ⟨"list", id, PySem.F.plainAttrs_list, slot, ty, ⟨_, hd, rfl⟩, fun a e => by cases e; exact ⟨_, hd, rfl⟩, wpAny_mono h (fun v s' q => ?_) fun _ _ e => e⟩
  obtain ⟨rfl, q⟩ := q
  exact q

theorem Ex.append {x : Str} {e : Expr} {px apos cpos epos : Pos} {l : List AV} {P : Fl → St → Prop} (hl : Look F.vars σ x (.o l))
    (h : ∀ d o, ∃ σr, Put F.vars σ x (.r d) σr ∧ Ev w F ((d, o) :: res) n e σr fun a σ1 => Look F.vars σ1 x (.r d) ∧ l.length < 2 ^ 23 ∧ ∃ σ2, Put F.vars σ1 x (.o (l ++ [a])) σ2 ∧ P .next σ2)
    (he : starEach [e] F.env = [(false, eval e F.env)] := by rfl) (hline : (apos.endLine == cpos.line) = true := by rfl) :
    Ex w F res n (.Expr (.Call (.Attribute (.Name x px) "append" apos) [e] [] cpos) epos) σ P := fun z A s r j => by
  obtain ⟨d, vs, k, rs, ⟨m, hn, hm⟩, hd, take⟩ := j.takeO hl
  obtain ⟨σr, hp, h⟩ := h d (lOf vs k)
  have j1 := take σr hp
  refine listMeth j.ok.kind (j.ok.loc x hl.mem).1 (j.ok.loc x hl.mem).2 hn hm hd PySem.F.slot_list_append PySem.F.type_list_append ?_ hline (by rw [he]; rfl)
  rw [show backTo cpos (starEach [e] F.env) = [(false, eval e F.env)] by rw [he]; rfl]
  refine Calls.callWith_builtin rfl (Calls.evalArgs_plain (Calls.spliced_cons (wpAny_mono (h z A s r j1) (fun v s1 hh => Calls.spliced_nil ?_) fun _ _ e => e)))
  obtain ⟨z1, σ1, l1, j2, a, ra, hr, hlt, σ2, hp2, q⟩ := hh
  have hsz : vs.size = l.length := by have := rs.length; rwa [Array.length_toList] at this
  refine append_at (j2.rs (d, lOf vs k) (.head _)).1 (fun h' hs hd' => ⟨rfl, ?_⟩) (by rw [sizeLine_eq]; omega)
  have j3 := j2.updRes (tk := s1.toks) (fun b o hb e => (hs.2 b hb).trans e) hd'
  exact ⟨z1, σ2, l1, j3.giveO hr hp2 (by rw [Array.toList_push]; exact (Reps.mono l1 _ rs).append (.one ra)), .next, trivial, q⟩

theorem Ex.extend {x : Str} {e : Expr} {px apos cpos epos : Pos} {l : List AV} {P : Fl → St → Prop} (hl : Look F.vars σ x (.o l))
    (h : ∀ d o, ∃ σr, Put F.vars σ x (.r d) σr ∧ Ev w F ((d, o) :: res) n e σr fun a σ1 => ∃ l', a = .list l' ∧ Look F.vars σ1 x (.r d) ∧ l.length + l'.length < 2 ^ 23 ∧ ∃ σ2, Put F.vars σ1 x (.o (l ++ l')) σ2 ∧ P .next σ2)
    (he : starEach [e] F.env = [(false, eval e F.env)] := by rfl) (hline : (apos.endLine == cpos.line) = true := by rfl) :
    Ex w F res n (.Expr (.Call (.Attribute (.Name x px) "extend" apos) [e] [] cpos) epos) σ P := fun z A s r j => by
  obtain ⟨d, vs, k, rs, ⟨m, hn, hm⟩, hd, take⟩ := j.takeO hl
  obtain ⟨σr, hp, h⟩ := h d (lOf vs k)
  have j1 := take σr hp
  refine listMeth j.ok.kind (j.ok.loc x hl.mem).1 (j.ok.loc x hl.mem).2 hn hm hd PySem.F.slot_list_extend PySem.F.type_list_extend ?_ hline (by rw [he]; rfl)
  rw [show backTo cpos (starEach [e] F.env) = [(false, eval e F.env)] by rw [he]; rfl]
  refine Calls.callWith_builtin rfl (Calls.evalArgs_plain (Calls.spliced_cons (wpAny_mono (h z A s r j1) (fun v s1 hh => Calls.spliced_nil ?_) fun _ _ e => e)))
  obtain ⟨z1, σ1, l1, j2, a, ra, l', rfl, hr, hlt, σ2, hp2, q⟩ := hh
  obtain ⟨b, vs', k', rfl, g', r'⟩ := ra
  have hsz : vs.size = l.length := by have := rs.length; rwa [Array.length_toList] at this
  have hsz' : vs'.size = l'.length := by have := r'.length; rwa [Array.length_toList] at this
  have hd2 := (j2.rs (d, lOf vs k) (.head _)).1
  refine call_meets PySem.F.slot_list_extend ⟨_, hd2, rfl⟩ PySem.F.entry_list_extend (PySem.F.args_list_extend_2 _ _)
    (AutoSeq1.list_extend_list_list_0 d vs k b vs' k' (by simp [Builtin.List.listTooLong, sizeLine_eq]; omega) (by rw [sizeLine_eq]; omega) (by rw [sizeLine_eq]; omega)) ⟨hd2, j2.sub _ _ g', ?_⟩
  refine ⟨rfl, ?_⟩
  have j3 := j2.updRes (o' := lOf (vs ++ vs') (if (vs ++ vs').size == vs.size then k else k + 1)) (tk := s1.toks) (h' := s1.heap.update d (Obj.mapSeq fun x => x ++ vs')) (fun b o hb e => (Heap.get?_update_other _ _ (Ne.symm hb)).trans e) (by
    rw [Heap.get?_update_self _ hd2 rfl]; rfl)
  exact ⟨z1, σ2, l1, j3.giveO hr hp2 (by rw [Array.toList_append]; exact (Reps.mono l1 _ rs).append r'), .next, trivial, q⟩

theorem Ev.lenO {x : Str} {p px pos : Pos} {l : List AV} {P : AV → St → Prop} (hg : ("len" : Str) ∈ F.globs) (hb : GlobB w "len" (.builtin "len")) (hl : Look F.vars σ x (.o l)) (hs : l.length ≤ 2 ^ 23) (h : P (.int l.length) σ) :
    Ev w F res n (.Call (.Name "len" p) [.Name x px] [] pos) σ P := fun z =>
  .of_eq (arm_eval_Call_Name' ..) (.bind fun A s r j => loadB j hg hb (.here j fun A s r j => by
    obtain ⟨d, vs, k, rs, ⟨m, hn, hm⟩, hd, _⟩ := j.takeO hl
    refine Calls.callWith_builtin rfl (Calls.evalArgs_plain (Calls.spliced_cons (wpAny_Name (wpAny_loadName_local j.ok.kind (j.ok.loc x hl.mem).1 hn hm (Calls.spliced_nil ?_)) (j.ok.loc x hl.mem).2)))
    have hsz : vs.size = l.length := by have := rs.length; rwa [Array.length_toList] at this
    refine PyProof.Rows.len_list (IsL.isList hd) (by omega) ?_
    rw [hsz]
    exact .toks j ⟨.int l.length, ⟨_, rfl⟩, h⟩ _))

theorem Exs.nil {P : Fl → St → Prop} (h : P .next σ) : Exs w F res n [] σ P := fun _ => Wp.of_eq (m' := (Pure.pure Flow.next : Sem Flow)) rfl (Wp.pure (v := Flow.next) ⟨Fl.next, trivial, h⟩)
theorem Nx.next {R : St → Prop} {P : Fl → St → Prop} (h : R σ) : Nx R P .next σ := h
theorem Nx.ret {R : St → Prop} {P : Fl → St → Prop} {a : AV} (h : P (.ret a) σ) : Nx R P (.ret a) σ := h
theorem Nx.brk {R : St → Prop} {P : Fl → St → Prop} (h : P .brk σ) : Nx R P .brk σ := h
theorem Nx.cont {R : St → Prop} {P : Fl → St → Prop} (h : P .cont σ) : Nx R P .cont σ := h
theorem Lp.next {R : St → Prop} {P : Fl → St → Prop} (h : R σ) : Lp R P .next σ := h
theorem Lp.cont {R : St → Prop} {P : Fl → St → Prop} (h : R σ) : Lp R P .cont σ := h
theorem Lp.brk {R : St → Prop} {P : Fl → St → Prop} (h : P .next σ) : Lp R P .brk σ := h
theorem Lp.ret {R : St → Prop} {P : Fl → St → Prop} {a : AV} (h : P (.ret a) σ) : Lp R P (.ret a) σ := h
theorem Exs.cons {st : Stmt} {rest : List Stmt} {P : Fl → St → Prop} (h : Ex w F res n st σ (Nx (fun σ1 => Exs w F res n rest σ1 P) P)) : Exs w F res n (st :: rest) σ P := fun z =>
  .of_eq (execs_cons ..) (.bind ((h z).mono fun z1 f _ _ ⟨a, fr, q⟩ => by
    cases f <;> cases a <;> first | exact fr.elim | exact q z1 | exact .pure ⟨_, fr, q⟩))
theorem Exs.one {st : Stmt} {P : Fl → St → Prop} (h : Ex w F res n st σ P) : Exs w F res n [st] σ P := .cons (fun z => (h z).mono fun _ f _ _ ⟨a, fr, q⟩ => ⟨a, fr, by cases a <;> first | exact q | exact Exs.nil q⟩)
theorem Ex.ret {e : Expr} {pos : Pos} {P : Fl → St → Prop} (h : Ev w F res n e σ fun a σ1 => P (.ret a) σ1) : Ex w F res n (.Return (some e) pos) σ P := fun z =>
  .of_eq (m' := (do standAt pos; return .ret (← eval e F.env))) rfl (.stand (.bind ((h z).mono fun _ _ _ _ ⟨a, ra, q⟩ => Wp.pure (v := Flow.ret _) ⟨Fl.ret a, ra, q⟩)))
theorem Ex.if {t : Expr} {a b : List Stmt} {pos : Pos} {P : Fl → St → Prop} (h : Bv w F res n t σ fun c σ1 => (c = true → Exs w F res n a σ1 P) ∧ (c = false → Exs w F res n b σ1 P)) : Ex w F res n (.If t a b pos) σ P := fun z =>
  .of_eq (exec_If ..) (.stand (.bind ((h z).mono fun z1 c _ _ q => by
    cases c with
    | true => exact q.1 rfl z1
    | false => exact q.2 rfl z1)))

/-- a while, by what holds and a number that falls -/
theorem Ex.while {t : Expr} {body : List Stmt} {pos : Pos} {P : Fl → St → Prop} (I : Nat → St → Prop) (k : Nat) (h0 : I k σ)
    (h : ∀ k σ, I k σ → Bv w F res n t σ fun c σ1 => (c = true → Exs w F res n body σ1 (Lp (fun σ2 => ∃ m, m < k ∧ I m σ2) P)) ∧ (c = false → P .next σ1)) :
    Ex w F res n (.While t body [] pos) σ P := fun z A s r j => by
  refine wpAny_While (codeAny_whileLoop (fun k s' => ∃ z' σ', Le z z' ∧ J w F res z' σ' s' ∧ I k σ') (fun k s' hI => ?_) k ⟨z, σ, .refl z, j, h0⟩)
  obtain ⟨z1, σ1, l1, j1, hi⟩ := hI
  refine wpAny_mono (h k σ1 hi z1 A s' r j1) (fun c s2 hh => ?_) fun _ _ e => e.elim
  obtain ⟨z2, σ2, l2, j2, q⟩ := hh
  cases c with
  | true =>
    refine wpAny_mono (q.1 rfl z2 A s2 r j2) (fun f s3 hh => ?_) fun _ _ e => e.elim
    obtain ⟨z3, σ3, l3, j3, a, fr, q⟩ := hh
    have l := (l1.trans l2).trans l3
    cases f <;> cases a <;> first
      | exact fr.elim
      | exact (let ⟨m, hm, hi⟩ := q; ⟨m, hm, z3, σ3, l, j3, hi⟩)
      | exact ⟨z3, σ3, l, j3, .next, trivial, q⟩
      | exact ⟨z3, σ3, l, j3, _, fr, q⟩
  | false => exact wpAny_execs_nil ⟨z2, σ2, l1.trans l2, j2, .next, trivial, q.2 rfl⟩

theorem As.name {x : Str} {a : AV} {p : Pos} {P : St → Prop} (hp : Put F.vars σ x (.v a) σ') (h : P σ') : As w F res n (.Name x p) a σ P := fun z v r =>
  .of_eq (assign_Name ..) (.stand (.bindName (.store hp r h)))

/-- a for, by its iterator's walk -/
theorem forWalk {A : Around} {I : Addr} {fp : List Addr} {N : Nat} {Pv : Nat → Value → Prop} {S : Nat → Heap → Prop} {target : Expr} {body : List Stmt} {o : Obj} {z₀ : Heap} {P : Fl → St → Prop} (r : Room n A)
    (W : Walks PySem.Challenge.rw_on0065_01.row.prog w A I fp [I] N Pv S) (hfp : ∀ b ∈ fp, b ≠ I → ∃ o, z.get? b = some o) (hS : ∀ i h, S i h → ∃ o, h.get? I = some o)
    (j : J w F ((I, o) :: res) z σ s) (hs0 : S 0 s.heap) (hz : Le z₀ z) (Inv : Nat → St → Prop) (h0 : Inv 0 σ) (al : Nat → AV) (hv : ∀ i v, Pv i v → Rep z v (al i))
    (turn : ∀ i σ p, i < N → Inv i σ → As w F (p :: res) n target (al i) σ fun σ1 => Exs w F (p :: res) n body σ1 (Lp (Inv (i + 1)) P))
    (fin : ∀ σ, Inv N σ → P .next σ) (ht : ∀ v, letOwnedTupleGo target (.ref I) v = pure ()) (hIm : I ∉ F.mt) :
    codeAny (MM w) A (.forLoop target (.ref I) body [] F.env) (fun r s' => match r with | .ok f => Pst w F res z₀ (fun z' f σ' => ∃ a, FlRep z' f a ∧ P a σ') f s' | .error e => cameBackBy (MM w) A F.env NoE e s') s := by
  refine codeAny_forLoop (fun k s' => ∃ i z' σ' o', i ≤ N ∧ k = N - i ∧ Le z z' ∧ J w F ((I, o') :: res) z' σ' s' ∧ S i s'.heap ∧ Inv i σ') (fun k s' hI => ?_) N ⟨0, z, σ, o, Nat.zero_le _, rfl, .refl z, j, hs0, h0⟩ ht
  obtain ⟨i, z1, σ1, o1, hi, rfl, l1, j1, hS1, hv1⟩ := hI
  by_cases hlt : i < N
  · refine W.item i s' _ _ hlt hS1 fun v h' tk hP hS2 hk => ?_
    obtain ⟨o2, ho2⟩ := hS _ _ hS2
    have j2 := j1.updRes (tk := tk) (fun b x hb e => hk b x (by simpa using hb) e) ho2
    refine wpAny_mono (turn i σ1 (I, o2) hlt hv1 z1 v (Rep.mono l1 _ (hv i v hP)) A _ r j2) (fun _ s3 hh => ?_) fun _ _ e => e.elim
    obtain ⟨z3, σ3, l3, j3, q⟩ := hh
    refine wpAny_mono (q z3 A s3 r j3) (fun f s4 hh => ?_) fun _ _ e => e.elim
    obtain ⟨z4, σ4, l4, j4, a, fr, q⟩ := hh
    have l := (l1.trans l3).trans l4
    have hS4 : S (i + 1) s4.heap := W.frame _ _ _ hS2 fun b hb x e => by
      by_cases hbI : b = I
      · subst hbI
        have e : h'.get? b = some x := e
        rw [ho2] at e; cases e
        exact (j4.rs (b, o2) (.head _)).1
      · obtain ⟨y, hy⟩ := hfp b hb hbI
        have h1 := j2.sub _ _ (l1 _ _ hy)
        have e : h'.get? b = some x := e
        have h1 : h'.get? b = some y := h1
        rw [h1] at e; cases e
        exact j4.sub _ _ (l _ _ hy)
    cases f <;> cases a <;> first
      | exact fr.elim
      | exact ⟨N - (i + 1), by omega, i + 1, z4, σ4, o2, hlt, rfl, l, j4, hS4, q⟩
      | exact ⟨z4, σ4, hz.trans l, j4.dropRes, .next, trivial, q⟩
      | exact ⟨z4, σ4, hz.trans l, j4.dropRes, _, fr, q⟩
  · have hin : i = N := by omega
    subst hin
    refine W.done s' _ _ hS1 fun h' tk hk => ?_
    obtain ⟨m, val, hn, hl⟩ := j1.loc
    -- the iterator may be gone: nothing else has changed
    have keep : ∀ b x, b ≠ I → s'.heap.get? b = some x → h'.get? b = some x := fun b x hb e => hk b x (by simpa using hb) e
    have j5 : J w F res z1 σ1 { s' with heap := h', toks := tk } := j1.loseRes keep hIm
    exact wpAny_execs_nil ⟨z1, σ1, hz.trans l1, j5, .next, trivial, fin _ hv1⟩
end
end Fil
namespace Fil

section
variable {w : World} {V G : List Str} {F : Fm V G} {res : List (Addr × Obj)} {n : Nat} {z z' : Heap} {σ σ' : St} {s s' : Shared}

theorem J.newNotMt (j : J w F res z σ s) : s.heap.objs.size ∉ F.mt := fun hb => by
  obtain ⟨x, e⟩ := j.mte _ hb
  exact Nat.lt_irrefl _ (Heap.lt_size e)

/-- what a for's body must show -/
noncomputable abbrev TurnsO (w : World) {V G : List Str} (F : Fm V G) (res : List (Addr × Obj)) (n N : Nat) (target : Expr) (body : List Stmt) (al : Nat → AV) (Inv : Nat → St → Prop) (P : Fl → St → Prop) : Prop :=
  ∀ i σ p, i < N → Inv i σ → As w F (p :: res) n target (al i) σ fun σ1 => Exs w F (p :: res) n body σ1 (Lp (Inv (i + 1)) P)

theorem Ex.forList {target iter : Expr} {body : List Stmt} {pos : Pos} {P : Fl → St → Prop}
    (h : Ev w F res n iter σ fun a σ1 => ∃ l, a = .list l ∧ ∃ Inv : Nat → St → Prop, Inv 0 σ1 ∧ TurnsO w F res n l.length target body (fun i => l.getD i .none) Inv P ∧ ∀ σ, Inv l.length σ → P .next σ)
    (ht : ∀ it v, letOwnedTupleGo target it v = pure () := by intro _ _; rfl) (hs : ∀ x, foldedSetIterable iter F.env x = pure x := by intro _; rfl) : Ex w F res n (.For target iter body [] pos) σ P := fun z A s r j => by
  refine wpAny_For (wpAny_mono (h z A s r j) (fun v s1 hh => ?_) fun _ _ e => e) hs
  obtain ⟨z1, σ1, l1, j1, a, ra, l, rfl, Inv, h0, turn, fin⟩ := hh
  obtain ⟨ax, vs, k, rfl, g, rs⟩ := ra
  have hsz : vs.size = l.length := by have := rs.length; rwa [Array.length_toList] at this
  have hL : s1.heap.IsList ax vs := IsL.isList (j1.sub _ _ g)
  have hlt : ax < s1.heap.objs.size := Heap.lt_size (j1.sub _ _ g)
  refine wpAny_pyIter_list hL ?_
  rw [← hsz] at turn fin
  refine forWalk r (Walks.list r.hd s1.heap.objs.size ax (Nat.ne_of_lt hlt) vs) (fun b hb hne => ?_) (fun i h hS => let ⟨o, e, _⟩ := hS.1; ⟨o, e⟩) (j1.pushRes _ rfl) ⟨⟨_, Heap.get?_push_size _ rfl, rfl, rfl⟩, hL.push _⟩ l1 Inv h0 (fun i => l.getD i .none) (fun i v hv => ?_) turn fin (ht _) j1.newNotMt
  · simp only [List.mem_cons, List.not_mem_nil, or_false] at hb
    rcases hb with rfl | rfl
    · exact absurd rfl hne
    · exact ⟨_, g⟩
  · obtain ⟨a, ha, hr⟩ := rs.get' i v (by simpa using hv)
    show Rep z1 v (l.getD i .none)
    rw [List.getD_eq_getElem?_getD, ha]
    exact hr

theorem Ex.forStr {target iter : Expr} {body : List Stmt} {pos : Pos} {P : Fl → St → Prop}
    (h : Ev w F res n iter σ fun a σ1 => ∃ x : Str, a = .str x ∧ ∃ Inv : Nat → St → Prop, Inv 0 σ1 ∧ TurnsO w F res n x.cps.size target body (fun i => .str ⟨#[x.cps.getD i 0]⟩) Inv P ∧ ∀ σ, Inv x.cps.size σ → P .next σ)
    (ht : ∀ it v, letOwnedTupleGo target it v = pure () := by intro _ _; rfl) (hs : ∀ x, foldedSetIterable iter F.env x = pure x := by intro _; rfl) : Ex w F res n (.For target iter body [] pos) σ P := fun z A s r j => by
  refine wpAny_For (wpAny_mono (h z A s r j) (fun v s1 hh => ?_) fun _ _ e => e) hs
  obtain ⟨z1, σ1, l1, j1, a, ra, x, rfl, Inv, h0, turn, fin⟩ := hh
  obtain ⟨t, rfl⟩ := ra
  have sign : ∀ i v, SignAt x i v → Rep z1 v (.str ⟨#[x.cps.getD i 0]⟩) := fun i v ⟨c, u, hc, e⟩ => ⟨u, by rw [e]; simp [hc]⟩
  cases ha : x.cps.all (· < 128)
  · refine wpAny_pyIter_wide ha ?_
    exact forWalk r (Walks.strWide r.hd s1.heap.objs.size x t) (fun b hb hne => absurd (by simpa using hb) hne) (fun i h hS => let ⟨o, e, _⟩ := hS; ⟨o, e⟩) (j1.pushRes _ rfl) ⟨_, Heap.get?_push_size _ rfl, rfl, rfl⟩ l1 Inv h0 _ sign turn fin (ht _) j1.newNotMt
  · refine wpAny_pyIter_ascii ha ?_
    exact forWalk r (Walks.strAscii r.hd s1.heap.objs.size x t) (fun b hb hne => absurd (by simpa using hb) hne) (fun i h hS => let ⟨o, e, _⟩ := hS; ⟨o, e⟩) (j1.pushRes _ rfl) ⟨_, Heap.get?_push_size _ rfl, rfl, rfl⟩ l1 Inv h0 _ sign turn fin (ht _) j1.newNotMt

theorem Ex.forRange {target e : Expr} {p rpos : Pos} {body : List Stmt} {pos : Pos} {P : Fl → St → Prop} (hg : ("range" : Str) ∈ F.globs) (hb : GlobB w "range" (.type "range"))
    (h : Ev w F res n e σ fun a σ1 => ∃ N : Nat, a = .int N ∧ N ≤ 2 ^ 30 ∧ ∃ Inv : Nat → St → Prop, Inv 0 σ1 ∧ TurnsO w F res n N target body (fun i => .int i) Inv P ∧ ∀ σ, Inv N σ → P .next σ)
    (he : starEach [e] F.env = [(false, eval e F.env)] := by rfl)
    (ht : ∀ it v, letOwnedTupleGo target it v = pure () := by intro _ _; rfl) : Ex w F res n (.For target (.Call (.Name "range" p) [e] [] rpos) body [] pos) σ P := fun z A s r j => by
  refine wpAny_For ?_ (fun _ => rfl)
  refine wpAny_Call_Name_kw (loadB j hg hb ?_)
  rw [show backTo rpos (starEach [e] F.env) = [(false, eval e F.env)] by rw [he]; rfl]
  refine PyProof.Rows.callWith_type rfl (Calls.evalArgs_plain (Calls.spliced_cons (wpAny_mono (h z A s r j) (fun v s1 hh => Calls.spliced_nil ?_) fun _ _ e => e)))
  obtain ⟨z1, σ1, l1, j1, a, ra, N, rfl, hN, Inv, h0, turn, fin⟩ := hh
  obtain ⟨t, rfl⟩ := ra
  refine call_range_1 ?_
  refine wpAny_pyIter_range (IsRange.new ..) (small_one (by decide) (by decide) (by omega) (by omega)) ?_
  obtain ⟨z2, l2, j2, _⟩ := (j1.toks (s1.toks + 1 + 1)).push { cls := .type "range", data := .fields #[.int 0 s1.toks, .int N t, .int 1 (s1.toks + 1)] } rfl
  have hsz : Builtin.Range.rangeSize 0 N 1 = (N : Int) := by rw [rangeSize_one]; split <;> omega
  refine forWalk r (Walks.range r.hd _ 0 1 N) (fun b hb hne => absurd (by simpa using hb) hne) (fun i h hS => ⟨_, hS⟩) (j2.pushRes _ rfl) ?_ (l1.trans l2) Inv h0 (fun i => .int i) (fun i v ⟨t, e⟩ => ⟨t, by rw [e]; simp⟩) turn fin (ht _) j2.newNotMt
  have e1 : (0 + ((0 : Nat) : Int) * 1) = 0 := by simp
  have e2 : ((N : Int) - ((0 : Nat) : Int)) = Builtin.Range.rangeSize 0 N 1 := by rw [hsz]; simp
  rw [e1, e2]
  exact Heap.get?_push_size _ rfl

/-- what a def hands back -/
noncomputable def Rt (P : AV → Prop) : Fl → St → Prop
  | .ret a, _ => P a
  | _, _ => P .none
theorem Rt.ret {P : AV → Prop} {a : AV} (h : P a) : Rt P (.ret a) σ := h
theorem Rt.next {P : AV → Prop} (h : P .none) : Rt P .next σ := h
/-- the text's own function at an address -/
theorem Cl.intro {f : Addr} {oc : Value} {od : Option Addr} {osl : Array (Option Value)} {name qual : Str} {params : Arguments} {body : List Stmt} {scope : Scope} {dV kV doc pm cdv ct : Value} {an : Option Addr} {args : List AV} {P : AV → Prop} {σ0 : St} {names vars globs : List Str}
    (hk : (KK w).lookup f = some ⟨oc, od, .func (fnOf name qual params body scope dV kV doc pm an cdv ct), osl⟩) (hcd : codeIn (KK w) cdv qual = true)
    (hbind : ∀ vs : List Value, vs.length = args.length → bindArgs (fnOf name qual params body scope dV kV doc pm an cdv ct) ⟨vs, []⟩ = pure (names.zip vs))
    (hnm : ∃ more, vars = names ++ more) (hlen : names.length = args.length) (hσ : σ0 = args.map (fun a => some (.v a)) ++ List.replicate (vars.length - names.length) none)
    (hnod : vars.Nodup) (hl : (vars.all fun x => decide (scope.names.lookup x = some .local) && !(x == ("__debug__" : Str))) = true)
    (hg : (globs.all fun x => decide (scope.names.lookup x = some .globalImplicit) && !(x == ("__debug__" : Str)) && !(x == ("__name__" : Str))) = true)
    (hco : scope.isCoroutine = false) (hgen : scope.isGenerator = false) (hkd : scope.kind = .function) (hcell : ∀ x ∈ scope.names, x.2 ≠ .cell)
    (h : ∀ F : Fm vars globs, F.env.scope = scope → F.mt = [] → Exs w F [] n body σ0 (Rt P)) :
    Cl w (n + 1) f args P := fun A s z vs rm cx sub rs => by
  have hlv : vs.length = args.length := rs.length
  have cxh := cx.mono sub
  obtain ⟨more, hmore⟩ := hnm
  have nodn : names.Nodup := by rw [hmore] at hnod; exact (List.nodup_append.mp hnod).1
  have lkz : ∀ (l : List Str) (us : List Value), l.Nodup → l.length = us.length → ∀ (i : Nat) (x : Str), l[i]? = some x → ((l.zip us).reverse.lookup x) = us[i]? := by
    intro l
    induction l with
    | nil => intro us _ _ i x hx; simp at hx
    | cons y l ih =>
      intro us hnd hl i x hx
      cases us with
      | nil => simp at hl
      | cons u us =>
        have hnd' := List.nodup_cons.mp hnd
        rw [List.zip_cons_cons, List.reverse_cons, List.lookup_append]
        cases i with
        | zero =>
          have hx' : y = x := by simpa using hx
          subst hx'
          have : (l.zip us).reverse.lookup y = none := by
            rw [List.lookup_eq_none_iff]
            intro p hp
            have := List.of_mem_zip (List.mem_reverse.mp hp)
            simp only [bne_iff_ne, ne_eq]
            exact fun e => hnd'.1 (e ▸ this.1)
          rw [this]; simp
        | succ i =>
          have hx' : l[i]? = some x := by simpa using hx
          rw [ih us hnd'.2 (by simpa using hl) i x hx']
          have hlt : i < us.length := by
            have := (List.getElem?_eq_some_iff.mp hx').1
            have h2 : l.length = us.length := by simpa using hl
            omega
          simp [hlt]
  refine wpAny_call (codeAny_call_def (fd := fnOf name qual params body scope dV kV doc pm an cdv ct) (body := body) (binds := names.zip vs) rm.depth (cxh.k _ _ hk) rfl cxh.nl (codeRec_of cxh.k hcd) rfl (.of_eq (hbind vs hlv)) hcell (fun x hx => ?_) (fun h1 hns hk1 => ?_) hco hgen hkd)
  · have := (List.of_mem_zip hx).1
    have := List.all_eq_true.mp hl x.1 (by rw [hmore]; exact List.mem_append_left _ this)
    simp only [Bool.and_eq_true, decide_eq_true_eq] at this
    exact this.1
  have new : s.heap.get? s.heap.objs.size = none := by
    cases q : s.heap.get? s.heap.objs.size with
    | none => rfl
    | some _ => exact absurd (Heap.lt_size q) (Nat.lt_irrefl _)
  let F : Fm vars globs := ⟨callEnv (fnOf name qual params body scope dV kV doc pm an cdv ct) s.heap.objs.size f, s.heap, z, [], s.os, s.gens⟩
  have ok : FmOk w F := by
    refine ⟨cx, sub, hkd, rfl, rfl, hnod, fun x hx => ?_, fun x hx => ?_, new, fun d hd => nomatch hd⟩
    · have := List.all_eq_true.mp hl x hx
      simp only [Bool.and_eq_true, decide_eq_true_eq, Bool.not_eq_true'] at this
      exact this
    · have := List.all_eq_true.mp hg x hx
      simp only [Bool.and_eq_true, decide_eq_true_eq, Bool.not_eq_true'] at this
      exact ⟨this.1.1, this.1.2, fun e => by rw [e] at this; simp at this⟩
  have j : J w F [] z σ0 { s with heap := h1, toks := s.toks + (names.zip vs).length } := by
    refine ⟨ok, fun b o _ e => hk1 b o e, (fun b hb => nomatch hb), .refl _, fun b o e => hk1 b o (sub _ _ e), fun b o e => .inl e, ?_, (fun p hp => nomatch hp), .nil, ⟨_, fun i => vs.getD i .none, hns, ⟨fun i x sl hi hs => ?_, fun i k l l' _ hi => ?_, ?_⟩⟩, rfl, rfl⟩
    · cases q : z.get? s.heap.objs.size with
      | none => exact q
      | some x => have := sub _ _ q; rw [new] at this; cases this
    · have hi : vars[i]? = some x := hi
      have hs : σ0[i]? = some (some sl) := hs
      rw [hσ] at hs
      by_cases hlt : i < args.length
      · rw [List.getElem?_append_left (by simpa using hlt)] at hs
        rw [List.getElem?_map] at hs
        cases ha : args[i]? with
        | none => rw [ha] at hs; cases hs
        | some a =>
          rw [ha] at hs
          cases hs
          obtain ⟨v, hv, rv⟩ := rs.get i a ha
          have hin : names[i]? = some x := by rw [hmore, List.getElem?_append_left (by omega)] at hi; exact hi
          refine ⟨?_, ?_⟩
          · rw [lkz names vs nodn (by omega) i x hin, hv]; simp [hv]
          · show Rep z (vs.getD i .none) a
            rw [List.getD_eq_getElem?_getD, hv]; exact rv
      · rw [List.getElem?_append_right (by simpa using Nat.not_lt.mp hlt), List.getElem?_replicate] at hs
        split at hs <;> cases hs
    · have hi : σ0[i]? = some (some (.o l)) := hi
      rw [hσ] at hi
      by_cases hlt : i < args.length
      · rw [List.getElem?_append_left (by simpa using hlt), List.getElem?_map] at hi
        cases ha : args[i]? with
        | none => rw [ha] at hi; cases hi
        | some a => rw [ha] at hi; cases hi
      · rw [List.getElem?_append_right (by simpa using Nat.not_lt.mp hlt), List.getElem?_replicate] at hi
        split at hi <;> cases hi
    · show σ0.length = vars.length
      rw [hσ, hmore]
      simp only [List.length_append, List.length_map, List.length_replicate]
      omega
  refine wpAny_mono (h F rfl rfl z _ _ (rm.deeper _) j) (fun fl s2 hh => ?_) fun _ _ e => e.elim
  obtain ⟨z2, σ2, l2, j2, a, fr, q⟩ := hh
  have post : (Le s.heap s2.heap ∧ Le z z2 ∧ Le z2 s2.heap ∧ (∀ b o, z2.get? b = some o → z.get? b = some o ∨ s.heap.get? b = none) ∧ s2.os = s.os ∧ s2.gens = s.gens) :=
    ⟨fun b o e => j2.kp b o (fun h => nomatch h) e, l2, j2.sub, j2.frz, j2.os, j2.gens⟩
  cases fl <;> cases a <;> first
    | exact fr.elim
    | exact ⟨z2, .none, post, rfl, q⟩
    | exact ⟨z2, _, post, fr, q⟩
end
end Fil
namespace Fil

/-- the name is a def's, and the def is there -/
noncomputable def GlobD (w : World) (x : Str) (f : Addr) : Prop := GlobF w x f ∧ ∃ oc od fd osl, (KK w).lookup f = some ⟨oc, od, .func fd, osl⟩

theorem Rep.handed {z : Heap} {v : Value} : ∀ {a : AV}, Rep z v a → handedIn v = true
  | .none, e => by rw [show v = _ from e]; rfl
  | .bool _, e => by rw [show v = _ from e]; rfl
  | .int _, ⟨_, e⟩ => by rw [e]; rfl
  | .str _, ⟨_, e⟩ => by rw [e]; rfl
  | .list _, ⟨_, _, _, e, _⟩ => by rw [e]; rfl
  | .tup _, ⟨_, _, _, e, _⟩ => by rw [e]; rfl
  | .fill .., ⟨_, _, _, _, _, _, _, _, _, e, _⟩ => by rw [e]; rfl

/-- a field of the text's own class -/
structure AttrV (w : World) (name : Str) (a b : AV) : Prop where
  g : plainGet (KK w) 134 name = true
  d : hasDictIn (KK w) 134 = true
  f : ∃ attr, findIn (KK w) (.ref 134) name = some attr ∧ noGet (KK w) attr = true
  v : ∀ z v, Rep z v a → ∃ x dx es n sl u, v = .ref x ∧ z.get? x = some ⟨.ref 134, some dx, .plain, sl⟩ ∧ z.get? dx = some (dictOf es n) ∧ getL name es = some (some u) ∧ Rep z u b

section
variable {w : World} {V G : List Str} {F : Fm V G} {res : List (Addr × Obj)} {n : Nat} {z z' : Heap} {σ σ' : St} {s s' : Shared}

theorem Ev.callD {x : Str} {f : Addr} {p pos : Pos} {e : Expr} {rest : List Expr} {P : AV → St → Prop} (hg : x ∈ F.globs) (hb : GlobD w x f) (h : El w F res n pos (e :: rest) σ fun as σ1 => Cl w n f as fun a => P a σ1)
    (he : starEach (e :: rest) F.env = (false, eval e F.env) :: starEach rest F.env := by rfl) (hplain : (backTo pos (starEach rest F.env)).any (·.1) = false := by rfl) :
    Ev w F res n (.Call (.Name x p) (e :: rest) [] pos) σ P := .call hg hb.1 hb.2 h he hplain

theorem Ev.attr {x name : Str} {a b : AV} {p pos : Pos} {P : AV → St → Prop} (hl : Look F.vars σ x (.v a)) (ha : AttrV w name a b) (h : P b σ) : Ev w F res n (.Attribute (.Name x p) name pos) σ P := fun z => by
  refine Wp.of_eq (m' := (do let o ← eval (.Name x p) F.env; standAt pos.atName; let r ← PySem.holding [o] (getAttr o name true); letTemporaryGo (.Name x p) o r; pure r)) rfl ?_
  refine Wp.bind (Wp.name hl fun v r => Wp.stand (Wp.bind (Wp.holding ?_)))
  intro A s rm j
  obtain ⟨xa, dx, es, k, sl, u, e, g, gd, gl, ru⟩ := ha.v z v r
  subst e
  obtain ⟨attr, hf, hn⟩ := ha.f
  refine get_value (x := xa) (C := 134) (ox := ⟨.ref 134, some dx, .plain, sl⟩) (od := some (dictOf es k)) j.cxh.k ⟨j.sub _ _ g, rfl, rfl, j.sub _ _ gd⟩ (plainGet_of ha.g).1 (findObj_own ha.d hf hn gl) ru.handed (Pst.toks j ?_ _)
  exact Wp.bind (Wp.of_eq (m' := Pure.pure ()) rfl (Wp.pure (Wp.pure ⟨b, ru, h⟩)))

theorem Cl.mono {f : Addr} {args : List AV} {P P' : AV → Prop} (h : Cl w n f args P) (hp : ∀ a, P a → P' a) : Cl w n f args P' := fun A s z vs r c l rs =>
  wpAny_mono (h A s z vs r c l rs) (fun _ _ ⟨z', a, q, ra, p⟩ => ⟨z', a, q, ra, hp _ p⟩) fun _ _ e => e
theorem Cl.room {f : Addr} {args : List AV} {P : AV → Prop} {k : Nat} (h : Cl w k f args P) (hk : k ≤ n) : Cl w n f args P := fun A s z vs r c l rs => h A s z vs (r.mono hk) c l rs

theorem Nx.mono {R R' : St → Prop} {P : Fl → St → Prop} (h : ∀ σ, R σ → R' σ) : ∀ {f : Fl} {σ : St}, Nx R P f σ → Nx R' P f σ
  | .next, _, q => h _ q
  | .brk, _, q => q
  | .cont, _, q => q
  | .ret _, _, q => q
theorem Ex.mono {st : Stmt} {P P' : Fl → St → Prop} (h : Ex w F res n st σ P) (hp : ∀ f σ, P f σ → P' f σ) : Ex w F res n st σ P' := fun z => (h z).mono fun _ _ _ _ ⟨a, r, q⟩ => ⟨a, r, hp _ _ q⟩
theorem Exs.cut {st : Stmt} {rest : List Stmt} {P : Fl → St → Prop} (R : St → Prop) (h : Ex w F res n st σ (Nx R P)) (h2 : ∀ σ', R σ' → Exs w F res n rest σ' P) : Exs w F res n (st :: rest) σ P :=
  .cons (h.mono fun _ _ q => q.mono h2)
/-- a test that changes nothing -/
noncomputable abbrev BvIs (w : World) {V G : List Str} (F : Fm V G) (res : List (Addr × Obj)) (n : Nat) (t : Expr) (σ : St) (c : Bool) : Prop := Bv w F res n t σ fun b σ1 => b = c ∧ σ1 = σ
theorem BvIs.go {t : Expr} {c : Bool} {P : Bool → St → Prop} (h : BvIs w F res n t σ c) (hp : P c σ) : Bv w F res n t σ P := h.mono fun b σ' ⟨e, e'⟩ => by rw [e, e']; exact hp
/-- an expression that changes nothing -/
noncomputable abbrev EvIs (w : World) {V G : List Str} (F : Fm V G) (res : List (Addr × Obj)) (n : Nat) (t : Expr) (σ : St) (c : AV) : Prop := Ev w F res n t σ fun b σ1 => b = c ∧ σ1 = σ
theorem EvIs.go {t : Expr} {c : AV} {P : AV → St → Prop} (h : EvIs w F res n t σ c) (hp : P c σ) : Ev w F res n t σ P := h.mono fun b σ' ⟨e, e'⟩ => by rw [e, e']; exact hp
theorem Ex.ifC {t : Expr} {a b : List Stmt} {pos : Pos} {P : Fl → St → Prop} (c : Bool) (ht : BvIs w F res n t σ c) (h1 : c = true → Exs w F res n a σ P) (h2 : c = false → Exs w F res n b σ P) : Ex w F res n (.If t a b pos) σ P :=
  .if (ht.go ⟨h1, h2⟩)
theorem Ex.whileC {t : Expr} {body : List Stmt} {pos : Pos} {P : Fl → St → Prop} (I : Nat → St → Prop) (k : Nat) (h0 : I k σ)
    (h : ∀ k σ, I k σ → ∃ c, BvIs w F res n t σ c ∧ (c = true → Exs w F res n body σ (Lp (fun σ2 => ∃ m, m < k ∧ I m σ2) P)) ∧ (c = false → P .next σ)) :
    Ex w F res n (.While t body [] pos) σ P := .while I k h0 fun k σ hI => let ⟨c, ht, h1, h2⟩ := h k σ hI; ht.go ⟨h1, h2⟩
theorem idx_iL {l : List Int} {k : Nat} (h : k < l.length ∧ l.length ≤ 2 ^ 23) : IdxV (iL l) (.int k) (.int (l.getD k 0)) := .list rfl (by simp [h.1]) (by simpa using h.2)
end
end Fil
namespace Fil

section
variable {w : World} {V G : List Str} {F : Fm V G} {res : List (Addr × Obj)} {n : Nat} {z z' : Heap} {σ σ' σ1 σ2 : St} {s s' : Shared}

theorem J.extBut {h' : Heap} {tk : Nat} (j : J w F res z σ s) (he : Heap.ExtBut s.heap.objs.size s.heap h') : J w F res z σ { s with heap := h', toks := tk } := by
  have k : Le s.heap h' := fun b o e => he b o (Nat.ne_of_lt (Heap.lt_size e)) e
  exact j.grow (s' := { s with heap := h', toks := tk }) k (.refl z) (fun b o e => k _ _ (j.sub _ _ e)) (fun b o e => .inl e) rfl rfl

theorem As.two {x y : Str} {a b : AV} {p q pos : Pos} {k : Nat} {P : St → Prop} (h1 : Put F.vars σ x (.v a) σ1) (h2 : Put F.vars σ1 y (.v b) σ2) (h : P σ2) :
    As w F res n (.Tuple [.Name x p, .Name y q] k pos) (.tup [a, b]) σ P := fun z v ⟨ad, vs, kk, e, g, rs⟩ A s r j => by
  subst e
  obtain ⟨v1, r1, e1, ra, v2, r2, e2, rb, e3⟩ := rs
  rw [show r2 = [] from e3] at e2
  have hvs : vs.toList = [v1, v2] := by rw [e1, e2]
  have hT : s.heap.IsTuple ad vs := ⟨_, j.sub _ _ g, rfl, kk, rfl⟩
  refine wpAny_assign_Tuple r.hd hT ?_ rfl fun h' he => ?_
  · show 2 = vs.size
    rw [← Array.length_toList, hvs]; rfl
  rw [hvs]
  have j1 := j.extBut (tk := s.toks) he
  show wpAny _ _ (assignInOrder [assign (.Name x p) F.env, assign (.Name y q) F.env] [v1, v2]) _ _ _
  refine assignInOrder_cons (wpAny_assign_Name (j1.storeName h1 ra (fun _ e => by cases e) fun s2 j2 => ?_))
  exact assignInOrder_cons (wpAny_assign_Name (j2.storeName h2 rb (fun _ e => by cases e) fun s3 j3 => assignInOrder_nil ⟨z, σ2, .refl z, j3, h⟩))

theorem Ex.assignT {elts : List Expr} {k : Nat} {tpos : Pos} {e : Expr} {pos : Pos} {P : Fl → St → Prop} (h : Ev w F res n e σ fun a σ1 => As w F res n (.Tuple elts k tpos) a σ1 fun σ2 => P .next σ2)
    (hs : swapsWithSole [.Tuple elts k tpos] e pos.line F.env = pure false := by rfl) (hw : swappedStores [.Tuple elts k tpos] e F.env = pure none := by rfl) :
    Ex w F res n (.Assign [.Tuple elts k tpos] e pos) σ P := fun z A s r j => by
  refine PyProof.Rows.Assign_Tuple (wpAny_mono (h z A s r j) (fun v s1 hh => ?_) fun _ _ e => e) hs hw
  obtain ⟨z1, σ1, l1, j1, a, ra, q⟩ := hh
  refine wpAny_mono (q z1 v ra A s1 r j1) (fun _ s2 hh => ?_) fun _ _ e => e
  obtain ⟨z2, σ2, l2, j2, q⟩ := hh
  exact ⟨z2, σ2, l1.trans l2, j2, .next, trivial, q⟩

theorem eraseDups_two {x y : Str} (hxy : x ≠ y) : [x, y].eraseDups.length = 2 := by
  have hyx : (y == x) = false := by simpa using Ne.symm hxy
  simp [List.eraseDups, List.eraseDupsBy, List.eraseDupsBy.loop, hyx]
theorem swapped_two {env : Env} {x y : Str} {p q tp vp : Pos} {k k2 : Nat} {e1 e2 : Expr} (hk : env.scope.kind = .function) (hx : env.kindOf x = some .local) (hy : env.kindOf y = some .local) (hxy : x ≠ y) (hl : p.line = q.line)
    (h1 : ∀ v p, e1 ≠ .Starred v p) (h1' : ∀ v p, e2 ≠ .Starred v p) (h2 : [e1, e2].all (foldedForSure 8) = false) (h3 : [e1, e2].all (constantsAlone 8) = false) :
    swappedStores [.Tuple [.Name x p, .Name y q] k tp] (.Tuple [e1, e2] k2 vp) env = pure (some [x, y]) := by
  unfold swappedStores
  have hb : env.blockKind = .function := by unfold Env.blockKind; rw [hk]; rfl
  have he := eraseDups_two hxy
  simp [hb, hx, hy, hl, h2, h3, List.filterMap, Expr.pos, he]

/-- two new lists, for two names -/
theorem Ex.pairNil {x y : Str} {p q tp vp q1 q2 pos : Pos} {k k2 : Nat} {P : Fl → St → Prop} (h2 : Put F.vars σ y (.o []) σ1) (h1 : Put F.vars σ1 x (.o []) σ2) (hxy : x ≠ y) (h : P .next σ2) (hl : p.line = q.line := by rfl) :
    Ex w F res n (.Assign [.Tuple [.Name x p, .Name y q] k tp] (.Tuple [.List [] q1, .List [] q2] k2 vp) pos) σ P := fun z A s r j => by
  refine PyProof.Rows.Assign_Tuple_swapped ?_ rfl (swapped_two j.ok.kind (j.ok.loc x h1.mem).1 (j.ok.loc y h2.mem).1 hxy hl (fun _ _ e => by cases e) (fun _ _ e => by cases e) rfl rfl)
  show wpAny _ _ (do standAt vp; PySem.newTuple (← spliced [(false, eval (.List [] q1) F.env), (false, eval (.List [] q2) F.env)])) _ _ _
  refine wpAny_bind (wpAny_standAt (wpAny_bind (Calls.spliced_cons ?_)))
  show wpAny _ _ (do standAt q1; PySem.newList (← spliced [])) _ _ _
  refine wpAny_bind (wpAny_standAt (wpAny_bind (Calls.spliced_nil (wpAny_newList ?_ (Nat.zero_le _)))))
  refine Calls.spliced_cons ?_
  show wpAny _ _ (do standAt q2; PySem.newList (← spliced [])) _ _ _
  refine wpAny_bind (wpAny_standAt (wpAny_bind (Calls.spliced_nil (wpAny_newList ?_ (Nat.zero_le _)))))
  refine Calls.spliced_nil ?_
  have j1 := j.pushRes (lOf #[] 0) rfl
  have j2 := j1.pushRes (lOf #[] 0) rfl
  refine wpAny_newTuple ?_ (by rw [sizeLine_eq]; simp)
  obtain ⟨z3, l3, j3, e3⟩ := j2.push (tupOf #[.ref s.heap.objs.size, .ref (s.heap.push (lOf #[] 0)).objs.size] 0) rfl
  refine unpackItems_tuple (items := #[.ref s.heap.objs.size, .ref (s.heap.push (lOf #[] 0)).objs.size]) r.hd ⟨_, Heap.get?_push_size _ rfl, rfl, 0, rfl⟩ fun h' he => ?_
  have j4 := j3.extBut (tk := s.toks) he
  show wpAny _ _ (assignInOrder [bindName F.env y, bindName F.env x] [.ref (s.heap.push (lOf #[] 0)).objs.size, .ref s.heap.objs.size]) _ _ _
  refine assignInOrder_cons (wpAny_bindName ?_)
  -- y
  obtain ⟨i2, a2, b2⟩ := h2.at
  obtain ⟨i1, a1, b1⟩ := h1.at
  obtain ⟨m4, val4, hn4, hl4⟩ := j4.loc
  have hi2 : i2 < σ.length := by rw [hl4.len]; exact (List.getElem?_eq_some_iff.mp a2).1
  refine wpAny_storeName_local (j.ok.loc y h2.mem).1 hn4 (fun h5 hn5 hs5 => ?_) (by rw [j.ok.kind]; rfl)
  have j5 := j4.store (tk := s.toks + 1) (sl := .r (s.heap.push (lOf #[] 0)).objs.size) hl4 a2 hn5 hs5 rfl fun k l l' _ e => by cases e
  have j6 : J w F ((s.heap.objs.size, lOf #[] 0) :: res) z3 σ1 _ := j5.giveAt (l := []) a2 (List.getElem?_set_self hi2) (by rw [b2, List.set_set]) rfl
  obtain ⟨m6, val6, hn6, hl6⟩ := j6.loc
  have hi1 : i1 < σ1.length := by rw [hl6.len]; exact (List.getElem?_eq_some_iff.mp a1).1
  refine assignInOrder_cons (wpAny_bindName (wpAny_storeName_local (j.ok.loc x h1.mem).1 hn6 (fun h7 hn7 hs7 => ?_) (by rw [j.ok.kind]; rfl)))
  have j7 := j6.store (tk := s.toks + 1 + 1) (sl := .r s.heap.objs.size) hl6 a1 hn7 hs7 rfl fun k l l' _ e => by cases e
  have j8 : J w F res z3 σ2 _ := j7.giveAt (l := []) a1 (List.getElem?_set_self hi1) (by rw [b1, List.set_set]) rfl
  exact assignInOrder_nil ⟨z3, σ2, l3, j8, .next, trivial, h⟩

theorem mulRaw {A : Around} {E : Value → Shared → Prop} {l : Addr} {items : Array Value} {k : Nat} {x : Int} {u : Tok} {Q : Value → Shared → Prop}
    (hl : s.heap.get? l = some { cls := .type "list", dict := none, data := .seq items k, slots := #[] })
    (h1 : ¬(!Builtin.List.listFitsIndex x) = true) (h2 : ¬items.size * x.toNat > (2 ^ 63 - 1) / 8) (h3 : ¬Builtin.List.listTooLong (items.size * x.toNat) = true)
    (h : Q (.ref s.heap.objs.size) { s with heap := s.heap.push { cls := .type "list", data := .seq (List.foldl (fun x1 x2 => x1 ++ x2) #[] (List.replicate (if items.isEmpty = true then 0 else x.toNat) items)) } }) :
    wpAny (MM w) A (binaryOp .Mult (.ref l) (.int x u)) Q E s :=
  wpAny_binaryOp_repeat_ref (T := "list") (U := "int") (by decide) ⟨_, hl, rfl⟩ (fun s' => typeIs_int s' x u) noFill_list_mul PySem.F.fills_int_mul PySem.F.slot_int_rmul repeat_list PySem.F.slot_int_index.lookup
    (call_meets PySem.F.slot_int_rmul (typeIs_int s x u) PySem.F.entry_int_rmul (PySem.F.args_int_rmul_2 _ _) (int___rmul___int_list x u l items k)
      ⟨hl, rfl, ⟨_, hl, rfl⟩, call_meets PySem.F.slot_list_mul ⟨_, hl, rfl⟩ PySem.F.entry_list_mul (PySem.F.args_list_mul_2 _ _)
        (AutoListH.list___mul___list_int_3 l items k x u h1 h2 h3)
        ⟨hl, h⟩⟩)
/-- a list, some times over -/
theorem BinV.rep {l : List AV} {i : Int} {k : Nat} (hi : i = (k : Int)) (hs : l.length * k ≤ 2 ^ 20) (hk : k ≤ 2 ^ 20) : BinV .Mult (.list l) (.int i) (.list (List.replicate (if l.isEmpty then 0 else k) l).flatten) :=
  fun _ _ _ _ _ _ z _ x y Q ⟨a, vs, kk, e, g, r⟩ ⟨_, e'⟩ hq _ s _ j => by
  subst e e' hi
  have hsz : vs.size = l.length := by have := r.length; rwa [Array.length_toList] at this
  have hl := j.sub _ _ g
  have h1 : ¬ (!Builtin.List.listFitsIndex (k : Int)) = true := by simp [Builtin.List.listFitsIndex]; omega
  have hmul : vs.size * (k : Int).toNat ≤ 2 ^ 20 := by rw [hsz, Int.toNat_natCast]; exact hs
  have h2 : ¬ vs.size * (k : Int).toNat > (2 ^ 63 - 1) / 8 := by omega
  have h3 : ¬ Builtin.List.listTooLong (vs.size * (k : Int).toNat) = true := by
    unfold Builtin.List.listTooLong
    rw [decide_eq_true_eq, sizeLine_eq]; omega
  refine mulRaw hl h1 h2 h3 ?_
  refine Pst.push j _ rfl fun z' b l0 e => hq z' _ l0 ⟨b, _, _, rfl, e, ?_⟩
  have he : vs.isEmpty = l.isEmpty := by
    rw [Bool.eq_iff_iff, Array.isEmpty_iff_size_eq_zero, List.isEmpty_iff, hsz, List.length_eq_zero_iff]
  rw [he]
  have fold : ∀ (q : Nat) (acc : Array Value) (lacc : List AV), Reps z' acc.toList lacc → Reps z' (List.foldl (fun x1 x2 => x1 ++ x2) acc (List.replicate q vs)).toList (lacc ++ (List.replicate q l).flatten) := by
    intro q
    induction q with
    | zero => intro acc lacc h; simpa using h
    | succ q ih =>
      intro acc lacc h
      rw [List.replicate_succ, List.foldl_cons, List.replicate_succ, List.flatten_cons, ← List.append_assoc]
      exact ih _ _ (by rw [Array.toList_append]; exact h.append (Reps.mono l0 _ r))
  have := fold (if l.isEmpty = true then 0 else k) #[] [] rfl
  simpa using this
end
end Fil
namespace Fil

section
variable {w : World} {V G : List Str} {F : Fm V G} {res : List (Addr × Obj)} {n : Nat} {z z' : Heap} {σ σ' σ1 σ2 : St} {s s' : Shared}

theorem compLoopG {prog : Program} {A : Around} {R : Result → Shared → Prop} {elt target iter : Expr} {ifs : List Expr} {scope : Scope} {pos : Pos} {it acc : Value} {env : Env} (I : Nat → Shared → Prop)
    (turn : ∀ n s, I n s → wpAny (model prog w) A (pyNext it) (fun r s₁ => match r with
      | none => R (.ok .next) s₁
      | some v => wpAny (model prog w) A (letOwnedTupleGo target it v) (fun _ s₁' => wpAny (model prog w) A (assign target env v) (fun _ s₂ =>
          wpAny (model prog w) A (forIn ifs true fun c r => if r = true then do let ok ← isTrue c env (eval c env); pure (ForInStep.yield ok) else pure (ForInStep.yield r)) (fun ok s₃ =>
            if ok = true then wpAny (model prog w) A (eval elt env) (fun x s₄ =>
              wpAny (model prog w) A (call (.builtin "list.append") [acc, x]) (fun _ s₅ => ∃ m, m < n ∧ I m s₅) NoE s₄) NoE s₃
            else ∃ m, m < n ∧ I m s₃) NoE s₂) NoE s₁') NoE s₁) NoE s)
    (n : Nat) (h : I n s) : codeAny (model prog w) A (.compLoop (.ListComp elt [⟨target, iter, ifs, 0⟩] scope pos) 0 it acc env) R s := by
  refine codeAny_loop rfl I (fun n s hI => ?_) n h
  show wpAny _ A ((compTurn (.ListComp elt [⟨target, iter, ifs, 0⟩] scope pos) 0 it acc env).onRaise (fun x => do noteFrame x env; theTreesLotGoes x)) _ _ s
  refine wpAny_noted ?_
  rw [compTurn_list]
  refine wpAny_mono (E := NoE) ?_ (fun _ _ h => h) (fun _ _ e => e.elim)
  refine wpAny_bind (wpAny_standAt (wpAny_bind (wpAny_mono (turn n s hI) (fun r s₁ h₁ => ?_) fun _ _ h' => h')))
  cases r with
  | none => exact wpAny_pure h₁
  | some v =>
    refine wpAny_bind (wpAny_mono h₁ (fun _ s₁' h₁' => ?_) fun _ _ h' => h')
    refine wpAny_bind (wpAny_mono h₁' (fun _ s₂ h₂ => wpAny_bind (wpAny_mono h₂ (fun ok s₃ h₃ => ?_) fun _ _ h' => h')) fun _ _ h' => h')
    cases ok with
    | false => exact wpAny_pure ⟨rfl, h₃⟩
    | true =>
      exact wpAny_bind (wpAny_bind (wpAny_mono h₃ (fun x s₄ h₄ => wpAny_bind (wpAny_mono h₄ (fun _ s₅ h₅ => wpAny_pure (wpAny_pure ⟨rfl, h₅⟩)) fun _ _ h' => h')) fun _ _ h' => h'))

/-- names that are forgotten -/
theorem J.forget (j : J w F res z σ s) : J w F res z (List.replicate V.length none) s := by
  obtain ⟨m, val, hn, hl⟩ := j.loc
  refine ⟨j.ok, j.kp, j.mte, j.z0, j.sub, j.frz, j.zL, j.rs, j.rnd, ⟨m, val, hn, ⟨fun i y sl _ hs => ?_, fun i k l l' _ hi => ?_, by simp⟩⟩, j.os, j.gens⟩
  · rw [List.getElem?_replicate] at hs; split at hs <;> cases hs
  · rw [List.getElem?_replicate] at hi; split at hi <;> cases hi

/-- a comprehension's tests -/
inductive Tests (w : World) {V G : List Str} (F : Fm V G) (res : List (Addr × Obj)) (n : Nat) : List Expr → St → (Bool → St → Prop) → Prop
  | nil {σ P} : P true σ → Tests w F res n [] σ P
  | one {c σ P} : Bv w F res n c σ P → Tests w F res n [c] σ P
theorem Tests.go {ifs : List Expr} {P : Bool → St → Prop} (h : Tests w F res n ifs σ P) (z : Heap) :
    Wp w F res n z σ (forIn ifs true fun c r => if r = true then do let ok ← isTrue c F.env (eval c F.env); pure (ForInStep.yield ok) else pure (ForInStep.yield r)) fun _ b σ' => P b σ' := by
  cases h with
  | nil h => exact fun A s r j => wpAny_tests_nil (.here j h)
  | one h => exact fun A s r j => wpAny_tests_one (h z A s r j)

/-- the turns of a comprehension, by its iterator's walk -/
theorem compWalk {A : Around} {I D : Addr} {fp : List Addr} {N : Nat} {Pv : Nat → Value → Prop} {S : Nat → Heap → Prop} {elt target iter : Expr} {ifs : List Expr} {scope : Scope} {pos : Pos} {o : Obj} {R : Result → Shared → Prop} (r : Room n A)
    (W : Walks PySem.Challenge.rw_on0065_01.row.prog w A I fp [I] N Pv S) (hfp : ∀ b ∈ fp, b ≠ I → ∃ o, z.get? b = some o) (hS : ∀ i h, S i h → ∃ o, h.get? I = some o) (hN : N ≤ 2 ^ 23)
    (j : J w F ((I, o) :: (D, lOf #[] 0) :: res) z σ s) (hs0 : S 0 s.heap) (al : Nat → AV) (hv : ∀ i v, Pv i v → Rep z v (al i)) (out : Nat → List AV) (ho0 : out 0 = []) (hol : ∀ i, (out i).length ≤ i)
    (turn : ∀ i p q, i < N → As w F (p :: q :: res) n target (al i) (List.replicate V.length none) fun σ1 => Tests w F (p :: q :: res) n ifs σ1 fun b σ2 => (b = true → Ev w F (p :: q :: res) n elt σ2 fun a _ => out (i + 1) = out i ++ [a]) ∧ (b = false → out (i + 1) = out i))
    (ht : ∀ i (s : Shared) v, S i s.heap → Pv (i - 1) v → ∀ E Q, Q () s → wpAny (MM w) A (letOwnedTupleGo target (.ref I) v) Q E s) (hIm : I ∉ F.mt)
    (fin : ∀ s' z' σ' vs k, Le z z' → J w F ((D, lOf vs k) :: res) z' σ' s' → Reps z' vs.toList (out N) → R (.ok .next) s') :
    codeAny (MM w) A (.compLoop (.ListComp elt [⟨target, iter, ifs, 0⟩] scope pos) 0 (.ref I) (.ref D) F.env) R s := by
  refine compLoopG (fun k s' => ∃ i z' σ' o' vs kk, i ≤ N ∧ k = N - i ∧ Le z z' ∧ J w F ((I, o') :: (D, lOf vs kk) :: res) z' σ' s' ∧ S i s'.heap ∧ Reps z' vs.toList (out i)) (fun k s' hI => ?_) N ⟨0, z, σ, o, #[], 0, Nat.zero_le _, rfl, .refl z, j, hs0, by rw [ho0]; rfl⟩
  obtain ⟨i, z1, σ1, o1, vs, kk, hi, rfl, l1, j1, hS1, rs⟩ := hI
  by_cases hlt : i < N
  · refine W.item i s' _ _ hlt hS1 fun v h' tk hP hS2 hk => ?_
    obtain ⟨o2, ho2⟩ := hS _ _ hS2
    have j2 := (j1.updRes (tk := tk) (fun b x hb e => hk b x (by simpa using hb) e) ho2).forget
    refine ht (i + 1) _ v hS2 hP _ _ ?_
    refine wpAny_mono (turn i (I, o2) (D, lOf vs kk) hlt z1 v (Rep.mono l1 _ (hv i v hP)) A _ r j2) (fun _ s3 hh => ?_) fun _ _ e => e
    obtain ⟨z3, σ3, l3, j3, q⟩ := hh
    refine wpAny_mono (q.go z3 A s3 r j3) (fun b s4 hh => ?_) fun _ _ e => e
    obtain ⟨z4, σ4, l4, j4, q⟩ := hh
    have fr : ∀ s5 z5 σ5 vs5 k5, Le z4 z5 → J w F ((I, o2) :: (D, lOf vs5 k5) :: res) z5 σ5 s5 → S (i + 1) s5.heap := fun s5 z5 σ5 vs5 k5 l5 j5 => W.frame _ _ _ hS2 fun b hb x e => by
      by_cases hbI : b = I
      · subst hbI
        have e : h'.get? b = some x := e
        rw [ho2] at e; cases e
        exact (j5.rs (b, o2) (.head _)).1
      · obtain ⟨y, hy⟩ := hfp b hb hbI
        have h1 := j2.sub _ _ (l1 _ _ hy)
        have e : h'.get? b = some x := e
        have h1 : h'.get? b = some y := h1
        rw [h1] at e; cases e
        exact j5.sub _ _ (((l1.trans l3).trans l4).trans l5 _ _ hy)
    cases b with
    | false =>
      exact ⟨N - (i + 1), by omega, i + 1, z4, σ4, o2, vs, kk, hlt, rfl, (l1.trans l3).trans l4, j4, fr _ _ _ _ _ (.refl _) j4, by rw [q.2 rfl]; exact Reps.mono (l3.trans l4) _ rs⟩
    | true =>
      refine wpAny_mono (q.1 rfl z4 A s4 r j4) (fun x s5 hh => ?_) fun _ _ e => e
      obtain ⟨z5, σ5, l5, j5, a, ra, ho⟩ := hh
      have hsz : vs.size = (out i).length := by have := rs.length; rwa [Array.length_toList] at this
      have hlen := hol i
      refine append_at (j5.rs (D, lOf vs kk) (.tail _ (.head _))).1 (fun h6 hs6 hd6 => ?_) (by rw [sizeLine_eq]; omega)
      have j5' : J w F ((D, lOf vs kk) :: (I, o2) :: res) z5 σ5 s5 := j5.swapRes
      have j6 := (j5'.updRes (tk := s5.toks) (fun b o hb e => (hs6.2 b hb).trans e) hd6).swapRes
      exact ⟨N - (i + 1), by omega, i + 1, z5, σ5, o2, _, _, hlt, rfl, ((l1.trans l3).trans l4).trans l5, j6, fr _ _ _ _ _ l5 j6,
        by rw [ho, Array.toList_push]; exact (Reps.mono ((l3.trans l4).trans l5) _ rs).append (.one ra)⟩
  · have hin : i = N := by omega
    subst hin
    refine W.done s' _ _ hS1 fun h' tk hk => ?_
    exact fin _ z1 σ1 vs kk l1 (j1.loseRes (fun b x hb e => hk b x (by simpa using hb) e) hIm) rs
end
end Fil
namespace Fil

section
variable {w : World} {V G : List Str} {F : Fm V G} {res : List (Addr × Obj)} {n : Nat} {z z' : Heap} {σ σ' σ1 σ2 : St} {s s' : Shared}

/-- what is reserved is seen from here on -/
theorem J.reveal {d : Addr} {o : Obj} (j : J w F ((d, o) :: res) z σ s) (hm : F.mt = []) : ∃ z', Le z z' ∧ z'.get? d = some o ∧ Le z' s.heap ∧ (∀ b x, z'.get? b = some x → z.get? b = some x ∨ b = d) ∧ ∀ b x, z'.get? b = some x → F.z0.get? b = some x ∨ F.h0.get? b = none := by
  obtain ⟨r1, r2, r3, r4⟩ := j.rs (d, o) (.head _)
  have r4' : F.h0.get? d = none := r4.elim id fun q => by rw [hm] at q; cases q
  have back : ∀ b x, (cut s.heap fun b => (∃ x, z.get? b = some x) ∨ b = d).get? b = some x → z.get? b = some x ∨ b = d := fun b x q => by
    by_cases hb : (∃ x, z.get? b = some x) ∨ b = d
    · rcases hb with ⟨y, hy⟩ | hb
      · rw [get_cut_pos (.inl ⟨y, hy⟩), j.sub _ _ hy] at q; cases q; exact .inl hy
      · exact .inr hb
    · rw [get_cut_neg hb] at q; cases q
  refine ⟨cut s.heap fun b => (∃ x, z.get? b = some x) ∨ b = d, fun b x q => ?_, ?_, cut_le _ _, back, fun b x q => ?_⟩
  · rw [get_cut_pos (.inl ⟨x, q⟩)]; exact j.sub _ _ q
  · rw [get_cut_pos (.inr rfl)]; exact r1
  · rcases back b x q with q | q
    · exact j.frz _ _ q
    · exact .inr (q ▸ r4')

/-- a comprehension's names -/
structure CompOk (scope : Scope) (V' G' : List Str) : Prop where
  kind : scope.kind = .function
  nod : V'.Nodup
  free : (scope.names.all fun x => decide (x.2 ≠ .free) && decide (x.2 ≠ .cell)) = true
  loc : (V'.all fun x => decide (scope.names.lookup x = some .local) && !(x == ("__debug__" : Str))) = true
  glo : (G'.all fun x => decide (scope.names.lookup x = some .globalImplicit) && !(x == ("__debug__" : Str)) && !(x == ("__name__" : Str))) = true
  names : (scope.names.all fun x => decide (x.2 = .local → scope.names.lookup x.1 = some .local)) = true

/-- the rest of a comprehension, from its iterator on -/
theorem compRest {A : Around} {it : Obj} {fp : List Addr} {N : Nat} {Pv : Nat → Value → Prop} {S : Nat → Heap → Prop} {elt target iter : Expr} {ifs : List Expr} {scope : Scope} {pos : Pos} {V' G' : List Str} {z₀ : Heap} {P : AV → St → Prop} (r : Room n A) (hc : CompOk scope V' G')
    (j : J w F res z σ s) (hz : Le z₀ z) (hif : it.isFreed = false)
    (W : Walks PySem.Challenge.rw_on0065_01.row.prog w A s.heap.objs.size fp [s.heap.objs.size] N Pv S) (hfp : ∀ b ∈ fp, b ≠ s.heap.objs.size → ∃ o, z.get? b = some o) (hS : ∀ i h, S i h → ∃ o, h.get? s.heap.objs.size = some o) (hN : N ≤ 2 ^ 23)
    (hs0 : S 0 (s.heap.push it)) (al : Nat → AV) (hv : ∀ i v, Pv i v → Rep z v (al i)) (out : Nat → List AV) (ho0 : out 0 = []) (hol : ∀ i, (out i).length ≤ i)
    (turn : ∀ (F' : Fm V' G') i p q, F'.mt = [] → i < N → As w F' [p, q] n target (al i) (List.replicate V'.length none) fun σ1 => Tests w F' [p, q] n ifs σ1 fun b σ2 => (b = true → Ev w F' [p, q] n elt σ2 fun a _ => out (i + 1) = out i ++ [a]) ∧ (b = false → out (i + 1) = out i))
    (ht : ∀ i (s' : Shared) v, S i s'.heap → Pv (i - 1) v → ∀ E Q, Q () s' → wpAny (MM w) A (letOwnedTupleGo target (.ref s.heap.objs.size) v) Q E s')
    (fin : P (.list (out N)) σ) :
    wpAny (MM w) A (PySem.newList []) (fun acc s₃ => wpAny (MM w) A (newFunctionEnv scope F.env.globals [] [] F.env.qual none .none (some F.env)) (fun cenv s₄ =>
        codeAny (MM w) A (.compStart (.ListComp elt [⟨target, iter, ifs, 0⟩] scope pos) 0 (.ref s.heap.objs.size) acc { cenv with scope := scope })
          (fun r s' => ∃ m, s'.heap.Ns cenv.locals m ∧ ∀ h', Heap.SameBut cenv.locals s'.heap h' →
            match r with | .ok _ => Pst w F res z₀ (fun z' v σ' => ∃ a, Rep z' v a ∧ P a σ') acc { s' with heap := h' } | .error x => wpAny (MM w) A (passOn "comprehension.variables-let-go" x { cenv with scope := scope }) (Pst w F res z₀ (fun z' v σ' => ∃ a, Rep z' v a ∧ P a σ')) NoE { s' with heap := h' }) s₄) NoE s₃) NoE { s with heap := s.heap.push it } := by
  have hfree := hc.free
  simp only [List.all_eq_true, Bool.and_eq_true, decide_eq_true_eq] at hfree
  have none_ : ∀ (h : Heap) (b : Addr), h.objs.size ≤ b → h.get? b = none := fun h b hb => by
    cases q : h.get? b with
    | none => rfl
    | some _ => exact absurd (Heap.lt_size q) (Nat.not_lt.mpr hb)
  refine wpAny_newList ?_ (Nat.zero_le _)
  refine wpAny_newFunctionEnv (fun x hx => (hfree x hx).2) (fun x hx => by cases hx) (fun h4 hns hsb => ?_) hc.kind
  dsimp only at hns hsb ⊢
  have szD : (s.heap.push it).objs.size = s.heap.objs.size + 1 := Heap.size_push _ _
  have szC : ((s.heap.push it).push { cls := .type "list", data := .seq ([] : List Value).toArray }).objs.size = s.heap.objs.size + 2 := by rw [Heap.size_push, Heap.size_push]
  generalize hC : ((s.heap.push it).push { cls := .type "list", data := .seq ([] : List Value).toArray }).objs.size = C at hns hsb szC ⊢
  have up : ∀ b o, b ≠ C → ((s.heap.push it).push { cls := .type "list", data := .seq ([] : List Value).toArray }).get? b = some o → h4.get? b = some o := fun b o hb e => hsb.extBut b o hb (Heap.get?_push_of_some _ e)
  have hC2 : s.heap.objs.size < C := by rw [szC]; exact Nat.lt_add_of_pos_right (by decide)
  have hC1 : (s.heap.push it).objs.size < C := by rw [szC, szD]; exact Nat.lt_succ_self _
  have hC0 : s.heap.objs.size < (s.heap.push it).objs.size := by rw [szD]; exact Nat.lt_succ_self _
  have nC0 : ∀ b o, s.heap.get? b = some o → b ≠ C := fun b o e => Nat.ne_of_lt (Nat.lt_trans (Heap.lt_size e) hC2)
  have old : ∀ b o, s.heap.get? b = some o → h4.get? b = some o := fun b o e => up b o (nC0 b o e) (Heap.get?_push_of_some _ (Heap.get?_push_of_some _ e))
  have gI : h4.get? s.heap.objs.size = some it := up _ _ (Nat.ne_of_lt hC2) (Heap.get?_push_of_some _ (Heap.get?_push_size _ hif))
  have gD : h4.get? (s.heap.push it).objs.size = some (lOf #[] 0) := up _ _ (Nat.ne_of_lt hC1) (Heap.get?_push_size _ rfl)
  have eqE : ({ newEnv scope C F.env.globals [] F.env.qual none .none (some F.env) builtinsNs with scope := scope } : Env).locals = C := rfl
  let F' : Fm V' G' := ⟨{ newEnv scope C F.env.globals [] F.env.qual none .none (some F.env) builtinsNs with scope := scope }, s.heap, z, [], s.os, s.gens⟩
  have hl := hc.loc
  have hg := hc.glo
  simp only [List.all_eq_true, Bool.and_eq_true, decide_eq_true_eq, Bool.not_eq_true'] at hl hg
  have ok : FmOk w F' := ⟨j.cx, j.sub, hc.kind, j.ok.gl, j.ok.bl, hc.nod, fun x hx => hl x hx, fun x hx => ⟨(hg x hx).1.1, (hg x hx).1.2, fun e => by have := (hg x hx).2; rw [e] at this; simp at this⟩, none_ _ _ (Nat.le_of_lt hC2), fun d hd => nomatch hd⟩
  have zn : ∀ b, s.heap.objs.size ≤ b → z.get? b = none := fun b hb => by
    cases q : z.get? b with
    | none => rfl
    | some x => have := j.sub _ _ q; rw [none_ _ _ hb] at this; cases this
  have j' : J w F' [(s.heap.objs.size, it), ((s.heap.push it).objs.size, lOf #[] 0)] z (List.replicate V'.length none) { s with heap := h4, toks := s.toks + ([] : List (Str × Value)).length } := by
    refine ⟨ok, fun b o _ e => old b o e, (fun b hb => nomatch hb), .refl _, fun b o e => old _ _ (j.sub _ _ e), fun b o e => .inl e, zn _ (Nat.le_of_lt hC2), fun p hp => ?_, ?_, ⟨_, fun _ => .none, hns, ⟨fun i y sl _ hs => ?_, fun i k l l' _ hi => ?_, by simp⟩⟩, rfl, rfl⟩
    · rcases List.mem_cons.mp hp with rfl | hp
      · exact ⟨gI, zn _ (Nat.le_refl _), Nat.ne_of_lt hC2, .inl (none_ _ _ (Nat.le_refl _))⟩
      · rcases List.mem_cons.mp hp with rfl | hp
        · exact ⟨gD, zn _ (Nat.le_of_lt hC0), Nat.ne_of_lt hC1, .inl (none_ _ _ (Nat.le_of_lt hC0))⟩
        · cases hp
    · simp only [List.map_cons, List.map_nil, List.nodup_cons, List.mem_singleton, List.not_mem_nil, not_false_eq_true, List.nodup_nil, and_true]
      exact Nat.ne_of_lt hC0
    · rw [List.getElem?_replicate] at hs; split at hs <;> cases hs
    · rw [List.getElem?_replicate] at hi; split at hi <;> cases hi
  have hS0 : S 0 h4 := W.frame _ _ _ hs0 fun b hb o e => by
    by_cases hbI : b = s.heap.objs.size
    · subst hbI
      rw [Heap.get?_push_size _ hif] at e; cases e; exact gI
    · obtain ⟨y, hy⟩ := hfp b hb hbI
      have h1 := Heap.get?_push_of_some it (j.sub _ _ hy)
      rw [h1] at e; cases e
      exact old _ _ (j.sub _ _ hy)
  have loop : codeAny (MM w) A (.compLoop (.ListComp elt [⟨target, iter, ifs, 0⟩] scope pos) 0 (.ref s.heap.objs.size) (.ref (s.heap.push it).objs.size) F'.env)
      (fun r s' => ∃ m, s'.heap.Ns C m ∧ ∀ h', Heap.SameBut C s'.heap h' →
            match r with | .ok _ => Pst w F res z₀ (fun z' v σ' => ∃ a, Rep z' v a ∧ P a σ') (.ref (s.heap.push it).objs.size) { s' with heap := h' } | .error x => wpAny (MM w) A (passOn "comprehension.variables-let-go" x F'.env) (Pst w F res z₀ (fun z' v σ' => ∃ a, Rep z' v a ∧ P a σ')) NoE { s' with heap := h' })
      { s with heap := h4, toks := s.toks + ([] : List (Str × Value)).length } := by
    refine compWalk r W hfp hS hN j' hS0 al hv out ho0 hol (fun i p q hi => turn F' i p q rfl hi) (fun i s' v hs hp => ht i s' v hs hp) (fun h => nomatch h) fun s' z' σ' vs k l' j2 rs => ?_
    obtain ⟨m2, val2, hn2, _⟩ := j2.loc
    refine ⟨m2, hn2, fun h' hs' => ?_⟩
    obtain ⟨z2, l2, gD2, sub2, back2, frz2⟩ := j2.reveal rfl
    have nC : ∀ b x, z2.get? b = some x → b ≠ C := fun b x q => by
      rcases back2 b x q with q | q
      · intro e; rw [e] at q; have := j2.zL; rw [show z'.get? C = none from this] at q; cases q
      · rw [q]; exact Nat.ne_of_lt hC1
    have keep : ∀ b o, b ≠ C → s'.heap.get? b = some o → h'.get? b = some o := fun b o hb e => (hs'.2 b hb).trans e
    refine ⟨z2, σ, (hz.trans l').trans l2, j.grow (s' := { s' with heap := h' }) (fun b o e => keep b o (nC0 b o e) (j2.kp b o (fun h => nomatch h) e)) (l'.trans l2) (fun b o e => keep b o (nC b o e) (sub2 b o e)) (fun b o e => frz2 b o e) j2.os j2.gens, .list (out N), ⟨_, vs, k, rfl, gD2, Reps.mono l2 _ rs⟩, fin⟩
  exact codeAny_compStart_list loop (W.self 0 _ _ _ hS0 loop)
end
end Fil
namespace Fil

section
variable {w : World} {V G : List Str} {F : Fm V G} {res : List (Addr × Obj)} {n : Nat} {z z' : Heap} {σ σ' σ1 σ2 : St} {s s' : Shared}

/-- one turn of a comprehension upon an item: it is taken (p) and gives f -/
noncomputable abbrev Turn (w : World) (V' G' : List Str) (n : Nat) (target : Expr) (ifs : List Expr) (elt : Expr) (x : AV) (p : Bool) (y : AV) : Prop :=
  ∀ (F' : Fm V' G') r1 r2, F'.mt = [] → As w F' [r1, r2] n target x (List.replicate V'.length none) fun σ1 => Tests w F' [r1, r2] n ifs σ1 fun b σ2 => b = p ∧ (p = true → Ev w F' [r1, r2] n elt σ2 fun a _ => a = y)

theorem As.mono {t : Expr} {a : AV} {P P' : St → Prop} (h : As w F res n t a σ P) (hp : ∀ σ, P σ → P' σ) : As w F res n t a σ P' := fun z v r => (h z v r).mono fun _ _ _ _ q => hp _ q
theorem Tests.mono {ifs : List Expr} {P P' : Bool → St → Prop} (h : Tests w F res n ifs σ P) (hp : ∀ b σ, P b σ → P' b σ) : Tests w F res n ifs σ P' := by
  cases h with
  | nil h => exact .nil (hp _ _ h)
  | one h => exact .one (Bv.mono h hp)

theorem out_step {l : List AV} {p : AV → Bool} {f : AV → AV} {i : Nat} (hi : i < l.length) :
    (p (l.getD i .none) = true → ((l.take (i + 1)).filter p).map f = ((l.take i).filter p).map f ++ [f (l.getD i .none)]) ∧ (p (l.getD i .none) = false → ((l.take (i + 1)).filter p).map f = ((l.take i).filter p).map f) := by
  have e : l.take (i + 1) = l.take i ++ [l.getD i .none] := by
    rw [List.take_add_one, List.getD_eq_getElem?_getD, List.getElem?_eq_getElem hi]; rfl
  rw [e, List.filter_append, List.map_append]
  generalize l.getD i .none = y
  constructor <;> intro h <;> simp [h]

theorem turnOf {V' G' : List Str} {l : List AV} {p : AV → Bool} {f : AV → AV} {target elt : Expr} {ifs : List Expr} {i : Nat} (hi : i < l.length) (h : Turn w V' G' n target ifs elt (l.getD i .none) (p (l.getD i .none)) (f (l.getD i .none)))
    (F' : Fm V' G') (r1 r2 : Addr × Obj) (hm : F'.mt = []) :
    As w F' [r1, r2] n target (l.getD i .none) (List.replicate V'.length none) fun σ1 => Tests w F' [r1, r2] n ifs σ1 fun b σ2 => (b = true → Ev w F' [r1, r2] n elt σ2 fun a _ => ((l.take (i + 1)).filter p).map f = ((l.take i).filter p).map f ++ [a]) ∧ (b = false → ((l.take (i + 1)).filter p).map f = ((l.take i).filter p).map f) := by
  refine (h F' r1 r2 hm).mono fun σ1 q => q.mono fun b σ2 ⟨e, q⟩ => ⟨fun hb => ?_, fun hb => ?_⟩
  · refine (q (by rw [← e, hb])).mono fun a _ ea => ?_
    rw [ea]; exact (out_step hi).1 (by rw [← e, hb])
  · exact (out_step hi).2 (by rw [← e, hb])

theorem Ev.compList {elt iter target : Expr} {ifs : List Expr} {scope : Scope} {pos : Pos} {V' G' : List Str} {P : AV → St → Prop} (hc : CompOk scope V' G')
    (h : Ev w F res n iter σ fun a σ1 => ∃ l, a = .list l ∧ l.length ≤ 2 ^ 23 ∧ ∃ (p : AV → Bool) (f : AV → AV), (∀ x ∈ l, Turn w V' G' n target ifs elt x (p x) (f x)) ∧ P (.list ((l.filter p).map f)) σ1)
    (ht : ∀ (A : Around) (s : Shared) (I ax i : Nat) (v : Value) (Q : Unit → Shared → Prop) E, s.heap.IsListIter I ax i → Q () s → (∃ x, x = v) → wpAny (MM w) A (letOwnedTupleGo target (.ref I) v) Q E s)
    (hs : ∀ x, foldedSetIterable iter F.env x = pure x := by intro _; rfl) : Ev w F res n (.ListComp elt [⟨target, iter, ifs, 0⟩] scope pos) σ P := fun z A s r j => by
  have hfree := hc.free
  have hnm := hc.names
  simp only [List.all_eq_true, Bool.and_eq_true, decide_eq_true_eq] at hfree hnm
  refine wpAny_ListComp (fun x hx => (hfree x hx).1) hc.kind hnm (wpAny_mono (h z A s r j) (fun v s1 hh => ?_) fun _ _ e => e) hs
  obtain ⟨z1, σ1, l1, j1, a, ra, l, rfl, hl, p, f, turn, fin⟩ := hh
  obtain ⟨ax, vs, k, rfl, g, rs⟩ := ra
  have hsz : vs.size = l.length := by have := rs.length; rwa [Array.length_toList] at this
  have hL : s1.heap.IsList ax vs := IsL.isList (j1.sub _ _ g)
  have hlt : ax < s1.heap.objs.size := Heap.lt_size (j1.sub _ _ g)
  refine wpAny_pyIter_list hL ?_
  refine compRest r hc j1 l1 rfl (Walks.list r.hd s1.heap.objs.size ax (Nat.ne_of_lt hlt) vs) (fun b hb hne => ?_) (fun i h hS => let ⟨o, e, _⟩ := hS.1; ⟨o, e⟩) (by omega) ⟨⟨_, Heap.get?_push_size _ rfl, rfl, rfl⟩, hL.push _⟩
    (fun i => l.getD i .none) (fun i v hv => ?_) (fun i => ((l.take i).filter p).map f) (by simp) (fun i => ?_) (fun F' i r1 r2 hm hi => ?_) (fun i s' v hS hP E Q hQ => ht _ _ _ _ _ _ _ _ hS.1 hQ ⟨_, rfl⟩) ?_
  · simp only [List.mem_cons, List.not_mem_nil, or_false] at hb
    rcases hb with rfl | rfl
    · exact absurd rfl hne
    · exact ⟨_, g⟩
  · obtain ⟨a, ha, hr⟩ := rs.get' i v (by simpa using hv)
    show Rep z1 v (l.getD i .none)
    rw [List.getD_eq_getElem?_getD, ha]
    exact hr
  · rw [List.length_map]
    exact Nat.le_trans (List.length_filter_le _ _) (by rw [List.length_take]; omega)
  · have hi' : i < l.length := by omega
    refine turnOf hi' (turn _ ?_) F' r1 r2 hm
    rw [List.getD_eq_getElem?_getD, List.getElem?_eq_getElem hi']; exact List.getElem_mem hi'
  · rw [hsz, List.take_length]; exact fin

theorem goName {A : Around} {x : Str} {p : Pos} (s : Shared) (I ax i : Nat) (v : Value) (Q : Unit → Shared → Prop) (E : Value → Shared → Prop) (_ : s.heap.IsListIter I ax i) (h : Q () s) (_ : ∃ x, x = v) :
    wpAny (MM w) A (letOwnedTupleGo (.Name x p) (.ref I) v) Q E s := wpAny_pure h

theorem Ev.compStr {elt iter : Expr} {x : Str} {px : Pos} {ifs : List Expr} {scope : Scope} {pos : Pos} {V' G' : List Str} {P : AV → St → Prop} (hc : CompOk scope V' G')
    (h : Ev w F res n iter σ fun a σ1 => ∃ y : Str, a = .str y ∧ y.length ≤ 2 ^ 23 ∧ ∃ (p : AV → Bool) (f : AV → AV), (∀ c ∈ y.cps.toList, Turn w V' G' n (.Name x px) ifs elt (.str ⟨#[c]⟩) (p (.str ⟨#[c]⟩)) (f (.str ⟨#[c]⟩))) ∧ P (.list (((y.cps.toList.map fun c => AV.str ⟨#[c]⟩).filter p).map f)) σ1)
    (hs : ∀ x, foldedSetIterable iter F.env x = pure x := by intro _; rfl) : Ev w F res n (.ListComp elt [⟨.Name x px, iter, ifs, 0⟩] scope pos) σ P := fun z A s r j => by
  have hfree := hc.free
  have hnm := hc.names
  simp only [List.all_eq_true, Bool.and_eq_true, decide_eq_true_eq] at hfree hnm
  refine wpAny_ListComp (fun x hx => (hfree x hx).1) hc.kind hnm (wpAny_mono (h z A s r j) (fun v s1 hh => ?_) fun _ _ e => e) hs
  obtain ⟨z1, σ1, l1, j1, a, ra, y, rfl, hl, p, f, turn, fin⟩ := hh
  obtain ⟨t, rfl⟩ := ra
  have hlen : (y.cps.toList.map fun c => AV.str ⟨#[c]⟩).length = y.cps.size := by simp
  have sign : ∀ i v, SignAt y i v → Rep z1 v ((y.cps.toList.map fun c => AV.str ⟨#[c]⟩).getD i .none) := fun i v ⟨c, u, hc, e⟩ => by
    rw [List.getD_eq_getElem?_getD, List.getElem?_map, Array.getElem?_toList, hc]
    exact ⟨u, e⟩
  have ho : ∀ i : Nat, ((((y.cps.toList.map fun c => AV.str ⟨#[c]⟩).take i).filter p).map f).length ≤ i := fun i => by
    rw [List.length_map]
    exact Nat.le_trans (List.length_filter_le _ _) (by rw [List.length_take]; omega)
  have hturn : ∀ (F' : Fm V' G') i r1 r2, F'.mt = [] → i < y.cps.size → _ := fun F' i r1 r2 hm hi => turnOf (w := w) (n := n) (p := p) (f := f) (ifs := ifs) (elt := elt) (target := .Name x px) (l := y.cps.toList.map fun c => AV.str ⟨#[c]⟩) (i := i) (by rw [hlen]; exact hi) (by
    have : (y.cps.toList.map fun c => AV.str ⟨#[c]⟩).getD i .none = .str ⟨#[y.cps[i]]⟩ := by
      rw [List.getD_eq_getElem?_getD, List.getElem?_map, Array.getElem?_toList, Array.getElem?_eq_getElem hi]; rfl
    rw [this]
    exact turn _ (by simp)) F' r1 r2 hm
  have hfin : P (.list ((((y.cps.toList.map fun c => AV.str ⟨#[c]⟩).take y.cps.size).filter p).map f)) σ1 := by rw [← hlen, List.take_length]; exact fin
  cases ha : y.cps.all (· < 128)
  · refine wpAny_pyIter_wide ha ?_
    exact compRest r hc j1 l1 rfl (Walks.strWide r.hd s1.heap.objs.size y t) (fun b hb hne => absurd (by simpa using hb) hne) (fun i h hS => let ⟨o, e, _⟩ := hS; ⟨o, e⟩) hl ⟨_, Heap.get?_push_size _ rfl, rfl, rfl⟩
      (fun i => (y.cps.toList.map fun c => AV.str ⟨#[c]⟩).getD i .none) sign (fun i => (((y.cps.toList.map fun c => AV.str ⟨#[c]⟩).take i).filter p).map f) (by simp) ho hturn (fun i s' v hS hP E Q hQ => wpAny_pure hQ) hfin
  · refine wpAny_pyIter_ascii ha ?_
    exact compRest r hc j1 l1 rfl (Walks.strAscii r.hd s1.heap.objs.size y t) (fun b hb hne => absurd (by simpa using hb) hne) (fun i h hS => let ⟨o, e, _⟩ := hS; ⟨o, e⟩) hl ⟨_, Heap.get?_push_size _ rfl, rfl, rfl⟩
      (fun i => (y.cps.toList.map fun c => AV.str ⟨#[c]⟩).getD i .none) sign (fun i => (((y.cps.toList.map fun c => AV.str ⟨#[c]⟩).take i).filter p).map f) (by simp) ho hturn (fun i s' v hS hP E Q hQ => wpAny_pure hQ) hfin
end
end Fil
namespace Fil

/-- a text, by its codes -/
noncomputable abbrev sL (l : List Nat) : AV := .str ⟨l.toArray⟩

structure MethS (name : Str) (id : String) : Prop where
  slot : PySem.Slot "str" name id
  ty : typeOf (.builtin id) = pure (.type "method_descriptor")

theorem M1 : MethS "split" "str.split" := ⟨PySem.F.slot_str_split, PySem.F.type_str_split⟩
theorem M2 : MethS "join" "str.join" := ⟨PySem.F.slot_str_join, PySem.F.type_str_join⟩
theorem M3 : MethS "strip" "str.strip" := ⟨PySem.F.slot_str_strip, PySem.F.type_str_strip⟩
theorem M4 : MethS "startswith" "str.startswith" := ⟨PySem.F.slot_str_startswith, PySem.F.type_str_startswith⟩

section
variable {w : World} {V G : List Str} {F : Fm V G} {res : List (Addr × Obj)} {n : Nat} {z z' : Heap} {σ σ' σ1 σ2 : St} {s s' : Shared}

theorem Ev.meth {o e : Expr} {name : Str} {id : String} {rest : List Expr} {apos pos : Pos} {P : AV → St → Prop} (hm : MethS name id)
    (h : Ev w F res (n + 1) o σ fun a σ1 => ∃ x, a = .str x ∧ El w F res (n + 1) pos (e :: rest) σ1 fun as σ2 => ∃ c, FunV id (.str x :: as) c ∧ P c σ2)
    (hbase : attributeBase o name F.env (eval o F.env) = eval o F.env := by rfl)
    (he : starEach (e :: rest) F.env = (false, eval e F.env) :: starEach rest F.env := by rfl) (hplain : (backTo pos (starEach rest F.env)).any (·.1) = false := by rfl)
    (hline : (apos.endLine == pos.line) = true := by rfl)
    (hfew : ((backTo pos (starEach (e :: rest) F.env)).all (fun x => !x.1) && (backToKw pos (keywordEach [] F.env)).all (fun x => x.1.isSome)
      && decide ((e :: rest).length + ([] : List Keyword).length + (if ([] : List Keyword).isEmpty then 0 else 1) < 30)) = true := by rfl) :
    Ev w F res (n + 1) (.Call (.Attribute o name apos) (e :: rest) [] pos) σ P := fun z A s r j => by
  refine wpAny_Call_method_lateS hbase hfew hline (wpAny_mono (h z A s r j) (fun v s1 hh => ?_) fun _ _ e => e)
  obtain ⟨z1, σ1, l1, j1, a, ra, x, rfl, hel⟩ := hh
  obtain ⟨t, rfl⟩ := ra
  refine ⟨"str", id, PySem.F.plainAttrs_str, hm.slot, hm.ty, typeIs_str _ _ _, (fun _ e => by cases e), ?_⟩
  refine wpAny_mono (Wp.callWithB (Q := fun z' v σ' => ∃ a, Rep z' v a ∧ P a σ') hel (fun z' vs σ' as l rs ⟨c, hc, hp⟩ => hc _ _ _ _ _ _ _ _ ([.str x t] ++ vs) _ ⟨_, vs, rfl, ⟨t, rfl⟩, rs⟩ fun _ _ _ rc => ⟨c, rc, hp⟩) he hplain A s1 r j1) (fun v s2 hh => ?_) fun _ _ e => e
  obtain ⟨z2, σ2, l2, j2, q⟩ := hh
  exact ⟨z2, σ2, l1.trans l2, j2, q⟩

theorem Ev.meth0 {o : Expr} {name : Str} {id : String} {apos pos : Pos} {P : AV → St → Prop} (hm : MethS name id)
    (h : Ev w F res (n + 1) o σ fun a σ1 => ∃ x, a = .str x ∧ ∃ c, FunV id [.str x] c ∧ P c σ1)
    (hbase : attributeBase o name F.env (eval o F.env) = eval o F.env := by rfl) (hline : (apos.endLine == pos.line) = true := by rfl) :
    Ev w F res (n + 1) (.Call (.Attribute o name apos) [] [] pos) σ P := fun z A s r j => by
  refine wpAny_Call_method_lateS hbase rfl hline (wpAny_mono (h z A s r j) (fun v s1 hh => ?_) fun _ _ e => e)
  obtain ⟨z1, σ1, l1, j1, a, ra, x, rfl, c, hc, hp⟩ := hh
  obtain ⟨t, rfl⟩ := ra
  refine ⟨"str", id, PySem.F.plainAttrs_str, hm.slot, hm.ty, typeIs_str _ _ _, (fun _ e => by cases e), ?_⟩
  refine Calls.callWith_builtin rfl (evalArgs_nil3 ?_)
  refine wpAny_mono (hc w V G F res n z1 σ1 [.str x t] (fun z' v σ' => ∃ a, Rep z' v a ∧ P a σ') ⟨_, [], rfl, ⟨t, rfl⟩, rfl⟩ (fun _ _ _ rc => ⟨c, rc, hp⟩) A s1 r j1) (fun v s2 hh => ?_) fun _ _ e => e
  obtain ⟨z2, σ2, l2, j2, q⟩ := hh
  exact ⟨z2, σ2, l1.trans l2, j2, q⟩
end

theorem reps_strs {z : Heap} : ∀ (tk : Nat) (xs : List Str), Reps z (strsFrom tk xs) (xs.map .str)
  | _, [] => rfl
  | tk, x :: r => ⟨_, _, rfl, ⟨tk, rfl⟩, reps_strs (tk + 1) r⟩
theorem Reps.toStrs {z : Heap} : ∀ {xs : List Str} {vs : List Value}, Reps z vs (xs.map .str) → ∃ l : List (Str × Tok), vs = strValues l ∧ l.map (·.1) = xs
  | [], _, e => ⟨[], by rw [show _ = [] from e]; rfl, rfl⟩
  | x :: r, _, ⟨v, vs', e, ⟨t, ev⟩, rs⟩ => let ⟨l, e1, e2⟩ := Reps.toStrs rs; ⟨(x, t) :: l, by rw [e, ev, e1]; rfl, by rw [List.map_cons, e2]⟩

theorem FunV.split0 {x : Str} (hs : x.length ≤ 2 ^ 20) : FunV "str.split" [.str x] (.list ((Txt.words x).map .str)) := fun _ _ _ _ _ _ z _ _ _ ⟨v, vs', e, ⟨t, ev⟩, rs⟩ hq _ s _ j => by
  rw [show vs' = [] from rs] at e
  subst e ev
  have h1 : x.length ≤ sizeLine := by rw [sizeLine_eq]; omega
  have h2 : (Builtin.Str.spaceWords x (x.length + 1)).length ≤ sizeLine := by
    have := (StrLaws.sw_weight x).1
    have h3 : ∀ l : List (Nat × Nat), l.length ≤ StrLaws.wsum l := by
      intro l; induction l with
      | nil => exact Nat.zero_le _
      | cons p r ih => simp only [StrLaws.wsum, List.length_cons] at *; omega
    have := h3 (Builtin.Str.spaceWords x (x.length + 1))
    rw [sizeLine_eq]; omega
  refine call_meets PySem.F.slot_str_split (typeIs_str _ _ _) PySem.F.entry_str_split (PySem.F.args_str_split_1 _) (meets_str_split_space x t h1 h2) ?_
  cases hw : Builtin.Str.spaceWords x (x.length + 1) == [(0, x.length)]
  · simp only [Bool.false_eq_true, if_false]
    refine Pst.push (j.toks (s.toks + (Builtin.Str.spaceWords x (x.length + 1)).length)) { cls := .type "list", data := .seq (strsFrom s.toks (PySem.wordsOf x)).toArray } rfl fun z' a l e => hq z' _ l ⟨a, _, 0, rfl, e, ?_⟩
    have e2 : Txt.words x = PySem.wordsOf x := if_neg (by rw [hw]; exact Bool.false_ne_true)
    rw [e2]; exact reps_strs _ _
  · simp only [if_true]
    refine Pst.push j _ rfl fun z' a l e => hq z' _ l ⟨a, _, 0, rfl, e, ?_⟩
    have e2 : Txt.words x = [x] := if_pos hw
    rw [e2]; exact ⟨_, [], rfl, ⟨t, rfl⟩, rfl⟩

theorem FunV.split1 {x y : Str} (hs : x.length ≤ 2 ^ 20) (hy : 1 ≤ y.length) : FunV "str.split" [.str x, .str y] (.list ((Txt.split x y).map .str)) := fun _ _ _ _ _ _ z _ _ _ ⟨v, vs', e, ⟨t, ev⟩, v2, vs2, e2, ⟨u, eu⟩, rs⟩ hq _ s _ j => by
  rw [show vs2 = [] from rs] at e2
  subst e2 e ev eu
  have hy' : (y.length == 0) = false := by simp; omega
  have h1' : x.length ≤ sizeLine := by rw [sizeLine_eq]; omega
  cases h1 : (decide (x.length < y.length) || decide (Builtin.Str.strKind x < Builtin.Str.strKind y))
  · cases hf : (Builtin.Str.occurrences x y 0 x.length (x.length + 1)).isEmpty
    · have e3 : Txt.split x y = Builtin.Str.partsBetween x (Builtin.Str.occurrences x y 0 x.length (x.length + 1)) y.length := (if_neg (by rw [h1]; exact Bool.false_ne_true)).trans (if_neg (by rw [hf]; exact Bool.false_ne_true))
      have hw := PyProof.Rows.split_weight x y hy
      rw [e3] at hw
      refine call_meets PySem.F.slot_str_split (typeIs_str _ _ _) PySem.F.entry_str_split (PySem.F.args_str_split_2 _ _) (meets_str_split_sep x y t u h1 hy' hf h1' (by rw [sizeLine_eq]; omega)) ?_
      refine Pst.push (j.toks (s.toks + (Builtin.Str.partsBetween x (Builtin.Str.occurrences x y 0 x.length (x.length + 1)) y.length).length)) { cls := .type "list", data := .seq (strsFrom s.toks (Builtin.Str.partsBetween x (Builtin.Str.occurrences x y 0 x.length (x.length + 1)) y.length)).toArray } rfl fun z' a l e => hq z' _ l ⟨a, _, 0, rfl, e, ?_⟩
      rw [e3]; exact reps_strs _ _
    · have e3 : Txt.split x y = [x] := (if_neg (by rw [h1]; exact Bool.false_ne_true)).trans (if_pos hf)
      refine call_meets PySem.F.slot_str_split (typeIs_str _ _ _) PySem.F.entry_str_split (PySem.F.args_str_split_2 _ _) (meets_str_split_not_found x y t u h1 hy' hf) ?_
      refine Pst.push j _ rfl fun z' a l e => hq z' _ l ⟨a, _, 0, rfl, e, ?_⟩
      rw [e3]; exact ⟨_, [], rfl, ⟨t, rfl⟩, rfl⟩
  · have e3 : Txt.split x y = [x] := if_pos h1
    refine call_meets PySem.F.slot_str_split (typeIs_str _ _ _) PySem.F.entry_str_split (PySem.F.args_str_split_2 _ _) (meets_str_split_cannot_occur x y t u h1) ?_
    refine Pst.push j _ rfl fun z' a l e => hq z' _ l ⟨a, _, 0, rfl, e, ?_⟩
    rw [e3]; exact ⟨_, [], rfl, ⟨t, rfl⟩, rfl⟩

theorem FunV.join {x : Str} {texts : List Str} (hs : (texts.map (·.length)).sum + texts.length * x.length ≤ 2 ^ 20) : FunV "str.join" [.str x, .list (texts.map .str)] (.str (Str.join x texts)) := fun _ _ _ _ _ _ z _ _ _ ⟨v, vs', e, ⟨t, ev⟩, v2, vs2, e2, r, rs⟩ hq _ s _ j => by
  rw [show vs2 = [] from rs] at e2
  subst e2 e ev
  obtain ⟨a, vs, e, hl, rs⟩ := r.isList j.sub
  subst e
  obtain ⟨l, e1, e2⟩ := rs.toStrs
  have hok : JoinOk x texts = true := by
    unfold JoinOk
    rw [StrLaws.joinTotal, Bool.not_eq_true']
    unfold Builtin.Str.tooLong
    rw [decide_eq_false_iff_not, sizeLine_eq]; omega
  have e3 : Txt.join x texts = Str.join x texts := StrLaws.glued_eq_join x texts
  refine SC.join (l := l) (texts := texts) (by rw [← e1]; simpa using hl) e2 hok fun t' k => ?_
  rw [e3]
  exact .toks j (hq z _ (.refl z) ⟨_, rfl⟩) _

theorem FunV.strip1 {x y : Str} (hs : x.length ≤ 2 ^ 20) : FunV "str.strip" [.str x, .str y] (.str (Txt.stripChars x y)) := fun _ _ _ _ _ _ z _ _ _ ⟨v, vs', e, ⟨t, ev⟩, v2, vs2, e2, ⟨u, eu⟩, rs⟩ hq _ s _ j => by
  rw [show vs2 = [] from rs] at e2
  subst e2 e ev eu
  exact SC.stripChars (fun _ _ => .toks j (hq z _ (.refl z) ⟨_, rfl⟩) _) (by rw [sizeLine_eq]; omega)
theorem FunV.starts {x y : Str} : FunV "str.startswith" [.str x, .str y] (.bool (Txt.startswith x y)) := fun _ _ _ _ _ _ z _ _ _ ⟨v, vs', e, ⟨t, ev⟩, v2, vs2, e2, ⟨u, eu⟩, rs⟩ hq _ s _ j => by
  rw [show vs2 = [] from rs] at e2
  subst e2 e ev eu
  exact SC.startswith (.here j (hq z _ (.refl z) rfl))

theorem SlV.str {x : Str} {lo hi : Option Int} {y : Str} (hc : StrLaws.sliceText x lo hi = y) (hs : x.length ≤ 2 ^ 20) : SlV (.str x) lo hi (.str y) := fun _ _ _ _ _ _ z _ _ vl vu _ _ ⟨t, ev⟩ pl pu e hq => by
  subst ev hc
  refine ⟨fun _ s _ j => ?_, fun _ j => ⟨_, _, typeIs_str _ _ _, PySem.F.slot_str_getitem.lookup⟩⟩
  have hsl : ∀ v k, IsPart v k → ∃ q : Option (Int × Tok), v = partValue q ∧ q.map (·.1) = k := fun v k h => by
    cases h with
    | none => exact ⟨none, rfl, rfl⟩
    | int i t => exact ⟨some (i, t), rfl, rfl⟩
  obtain ⟨ql, e1, e2⟩ := hsl _ _ pl
  obtain ⟨qu, e3, e4⟩ := hsl _ _ pu
  refine wpAny_getItem_str_slice (l := ql) (u := qu) (st := none) ⟨_, j.sub _ _ e, rfl, by rw [e1, e3]; rfl⟩ rfl ?_
  have key : ∀ t' k, Pst _ _ _ z _ (Value.str (StrLaws.sliceText x lo hi) t') { s with toks := k } := fun t' k => Pst.toks j (hq z _ (.refl z) ⟨t', rfl⟩) k
  unfold sliceMade
  unfold StrLaws.sliceText at key
  unfold slicePicked
  rw [e2, e4]
  simp only [Option.map_none, Option.getD_none] at key ⊢
  split
  · rename_i h; rw [if_pos h] at key; exact key _ _
  · rename_i h; rw [if_neg h] at key
    refine ⟨?_, key _ _⟩
    show (List.filterMap _ _).toArray.size ≤ sizeLine
    rw [List.size_toArray, sizeLine_eq]
    have := List.length_filterMap_le (x.cps[·]?) (Builtin.Str.strSliceIndices lo hi 1 x.length)
    have h3 := sliceIndices_le lo hi x.length
    omega
theorem SlV.strTo {l : List Nat} {k : Nat} {i : Int} (hi : i = (k : Int)) (hk : k ≤ l.length) (hs : l.length ≤ 2 ^ 20) : SlV (sL l) none (some i) (sL (l.take k)) :=
  .str (by subst hi; rw [StrLaws.sliceText_to ⟨by omega, by simp; omega⟩]; simp) (by simpa [Str.length] using hs)
theorem SlV.strFrom {l : List Nat} {k : Nat} {i : Int} (hi : i = (k : Int)) (hk : k ≤ l.length) (hs : l.length ≤ 2 ^ 20) : SlV (sL l) (some i) none (sL (l.drop k)) :=
  .str (by subst hi; rw [StrLaws.sliceText_from ⟨by omega, by simp; omega⟩]; simp; rw [List.take_of_length_le (by simp)]) (by simpa [Str.length] using hs)
theorem SlV.strInit {l : List Nat} (h : 1 ≤ l.length) (hs : l.length ≤ 2 ^ 20) : SlV (sL l) none (some (-1)) (sL l.dropLast) :=
  .str (by rw [StrLaws.sliceText_to_neg (by omega) (by simp [Str.length]; omega)]; simp [Str.length, List.dropLast_eq_take]; congr 1; omega) (by simpa [Str.length] using hs)
end Fil
namespace Fil
theorem getD_at {α} (l : List α) (d : α) {k : Nat} (h : k < l.length) : l.getD k d = l[k] := by
  simp [List.getD, List.getElem?_eq_getElem h]
theorem getD_drop {α} (l : List α) (k : Nat) (d : α) (h : k < l.length) : l.drop k = l.getD k d :: l.drop (k + 1) := by
  rw [List.drop_eq_getElem_cons h, getD_at l d h]
theorem take_snoc {α} (l : List α) (k : Nat) (d : α) (h : k < l.length) : l.take (k + 1) = l.take k ++ [l.getD k d] := by
  rw [getD_at l d h]; simp
theorem all_take_succ {α} (p : α → Bool) (l : List α) (k : Nat) (d : α) (h1 : (l.take k).all p = true) (h : k < l.length) (h2 : p (l.getD k d) = true) : (l.take (k + 1)).all p = true := by
  rw [take_snoc l k d h, List.all_append, h1]; simp only [List.all_cons, h2]; rfl
theorem takeWhile_eq {α} (p : α → Bool) (d : α) : ∀ (l : List α) (k : Nat), k ≤ l.length → (l.take k).all p = true → (k < l.length → p (l.getD k d) = false) → l.takeWhile p = l.take k
  | [], k, h, _, _ => by simp
  | x :: r, 0, h, h1, h2 => by
    have := h2 (by simp)
    simp only [List.getD_cons_zero] at this
    simp [List.takeWhile, this]
  | x :: r, k + 1, h, h1, h2 => by
    simp only [List.take_succ_cons, List.all_cons, Bool.and_eq_true] at h1
    have ih := takeWhile_eq p d r k (by simpa using h) h1.2 (fun h3 => by simpa using h2 (by simpa using h3))
    simp [List.takeWhile, h1.1, ih]
end Fil
namespace Fil
theorem getD_map {α β} (f : α → β) (l : List α) (i : Nat) (d : β) (d' : α) (h : i < l.length) : (l.map f).getD i d = f (l.getD i d') := by
  rw [getD_at _ _ (by simpa using h), getD_at _ _ h]; simp
theorem mem_getD {α} (l : List α) (i : Nat) (d : α) (h : i < l.length) : l.getD i d ∈ l := by
  rw [getD_at _ _ h]; exact List.getElem_mem _
section
variable {w : World} {V G : List Str} {F : Fm V G} {res : List (Addr × Obj)} {n : Nat} {z z' : Heap} {σ σ' : St} {s s' : Shared}
theorem As.cast {t : Expr} {a b : AV} {P : St → Prop} (e : a = b) (h : As w F res n t b σ P) : As w F res n t a σ P := e ▸ h
theorem idx_list {l : List AV} {k : Nat} (d : AV) (h : k < l.length) (h2 : l.length ≤ 2 ^ 23) : IdxV (.list l) (.int k) (l.getD k d) := .list rfl (by rw [getD_at l d h]; simp) h2
theorem idx_tup {l : List AV} {k : Nat} (d : AV) (h : k < l.length) (h2 : l.length ≤ 2 ^ 23) : IdxV (.tup l) (.int k) (l.getD k d) := .tup rfl (by rw [getD_at l d h]; simp) h2
theorem BinV.mulS {i j : Int} (h : -1073741824 < j ∧ j < 1073741824) : BinV .Mult (.int i) (.int j) (.int (i * j)) := .mul (.of_right (PySem.intBits_le_iff.mpr (by omega)))
theorem BinV.fdivS {i j : Int} (h : 0 < j ∧ j < 1073741824) : BinV .FloorDiv (.int i) (.int j) (.int (i / j)) := .floordiv h.1 (PyProof.noPylong_small (by omega))

theorem sL_inj {a b : List Nat} : ((⟨a.toArray⟩ : Str) = ⟨b.toArray⟩) ↔ a = b := by simp
theorem CmpV.seqS {a b : List Nat} : CmpV .Eq (sL a) (sL b) (decide (a = b)) := by
  have e : ((⟨a.toArray⟩ : Str) == ⟨b.toArray⟩) = decide (a = b) := by
    rw [Bool.eq_iff_iff, beq_iff_eq, decide_eq_true_eq, sL_inj]
  rw [← e]; exact CmpV.seq
theorem CmpV.sneS {a b : List Nat} : CmpV .NotEq (sL a) (sL b) (!decide (a = b)) := by
  have e : ((⟨a.toArray⟩ : Str) != ⟨b.toArray⟩) = !decide (a = b) := by
    rw [bne]; congr 1
    rw [Bool.eq_iff_iff, beq_iff_eq, decide_eq_true_eq, sL_inj]
  rw [← e]; exact CmpV.sne
theorem CmpV.inS {c : Nat} {l : List Nat} : CmpV .In (sL [c]) (sL l) (decide (c ∈ l)) := by
  have e := StrLaws.found_one (⟨l.toArray⟩ : Str) c
  simp only [] at e
  rw [← e]; exact CmpV.inStr
theorem FunV.lenS {l : List Nat} (h : l.length ≤ 2 ^ 23) : FunV "len" [sL l] (.int l.length) := FunV.lenStr (x := ⟨l.toArray⟩) (by simpa [Str.length] using h)
theorem idx_sL {l : List Nat} {k : Nat} (h : k < l.length) (h2 : l.length ≤ 2 ^ 23) : IdxV (sL l) (.int k) (sL [l.getD k 0]) := .str rfl (by rw [getD_at l 0 h]; simp) (by simpa [Str.length] using h2)
theorem BinV.catS {a b : List Nat} (h : a.length + b.length ≤ 2 ^ 23) : BinV .Add (sL a) (sL b) (sL (a ++ b)) := by
  have e : (⟨a.toArray⟩ : Str) ++ ⟨b.toArray⟩ = ⟨(a ++ b).toArray⟩ := by
    show (⟨a.toArray ++ b.toArray⟩ : Str) = _
    simp
  show BinV .Add _ _ (.str ⟨(a ++ b).toArray⟩)
  rw [← e]; exact BinV.strcat (by simpa [Str.length] using h)
theorem Ev.strL {l : List Nat} {x : Str} {k : Nat} {pos : Pos} {P : AV → St → Prop} (e : x = ⟨l.toArray⟩) (h : P (sL l) σ) : Ev w F res n (.Constant (.str x) k pos) σ P := by
  subst e; exact Ev.str h
end
/-- texts put together -/
noncomputable def jn (sep : List Nat) : List (List Nat) → List Nat
  | [] => []
  | [a] => a
  | a :: b :: r => a ++ sep ++ jn sep (b :: r)
theorem jn_str (sep : List Nat) : ∀ l : List (List Nat), Str.join ⟨sep.toArray⟩ (l.map fun x => ⟨x.toArray⟩) = ⟨(jn sep l).toArray⟩
  | [] => rfl
  | [a] => rfl
  | a :: b :: r => by
    have ih := jn_str sep (b :: r)
    rw [List.map_cons] at ih ⊢
    rw [List.map_cons]
    show (⟨a.toArray⟩ : Str) ++ ⟨sep.toArray⟩ ++ Str.join _ _ = _
    rw [ih, jn]
    show (⟨a.toArray ++ sep.toArray ++ (jn sep (b :: r)).toArray⟩ : Str) = _
    simp
theorem FunV.joinS {sep : List Nat} {l : List (List Nat)} (h : (l.map (·.length)).sum + l.length * sep.length ≤ 2 ^ 20) : FunV "str.join" [sL sep, .list (l.map sL)] (sL (jn sep l)) := by
  have := FunV.join (x := ⟨sep.toArray⟩) (texts := l.map fun x => ⟨x.toArray⟩) (by simpa [Str.length, Function.comp_def] using h)
  rw [jn_str, List.map_map] at this
  exact this
end Fil
namespace Fil
section
variable {w : World} {V G : List Str} {F : Fm V G} {res : List (Addr × Obj)} {n : Nat} {z z' : Heap} {σ σ' σ1 σ2 : St} {s s' : Shared}
theorem goTuple {A : Around} {elts : List Expr} {k : Nat} {p : Pos} (s : Shared) (I ax i : Nat) (v : Value) (Q : Unit → Shared → Prop) (E : Value → Shared → Prop) (h : s.heap.IsListIter I ax i) (hq : Q () s) (_ : ∃ x, x = v) :
    wpAny (MM w) A (letOwnedTupleGo (.Tuple elts k p) (.ref I) v) Q E s := by
  by_cases hv : ∃ t, v = .ref t
  · obtain ⟨t, rfl⟩ := hv
    exact wpAny_letOwnedTupleGo_listiter h hq
  · refine Eq.mpr (congrArg (fun m => wpAny (MM w) A m Q E s) ?_) (wpAny_pure hq)
    cases v <;> first | rfl | exact absurd ⟨_, rfl⟩ hv
end
end Fil
namespace Fil
theorem starts_list (a b : List Nat) : Txt.startswith ⟨a.toArray⟩ ⟨b.toArray⟩ = decide (b = a.take b.length) := by
  unfold Txt.startswith
  rw [StrLaws.subAt_eq, Bool.eq_iff_iff]
  simp only [Str.length, List.size_toArray, Bool.and_eq_true, decide_eq_true_eq, List.drop_zero, beq_iff_eq, Nat.zero_add]
  constructor
  · rintro ⟨_, e⟩; exact e.symm
  · intro e; exact ⟨by have := congrArg List.length e; rw [List.length_take] at this; omega, e.symm⟩
theorem FunV.startsS {a b : List Nat} : FunV "str.startswith" [sL a, sL b] (.bool (decide (b = a.take b.length))) := by
  rw [← starts_list]; exact FunV.starts
section
variable {w : World} {V G : List Str} {F : Fm V G} {res : List (Addr × Obj)} {n : Nat} {z z' : Heap} {σ σ' σ1 σ2 : St} {s s' : Shared}
theorem eqNilRaw {A : Around} {a b : Addr} {vs us : Array Value} {Q : Value → Shared → Prop} {E : Value → Shared → Prop} (h1 : s.heap.IsList a vs) (h2 : s.heap.IsList b us) (hz : us.size = 0) (hu : A.units < cLine)
    (h : Q (.bool (decide (vs.size = 0))) s) : wpAny (MM w) A (compareOp .Eq (.ref a) (.ref b)) Q E s := by
  by_cases hs : vs.size = 0
  · refine SeqAt.eq_listAt (e := fun _ => true) h1 h2 (by omega) hu (fun j h3 _ => by omega) ?_
    rw [show (List.range vs.size).all (fun _ => true) = decide (vs.size = 0) by rw [hs]; rfl]; exact h
  · refine SeqAt.eq_list_lengthsAt h1 h2 (by rw [hz]; simpa using hs) hu ?_
    rw [decide_eq_false hs] at h; exact h
theorem neNilRaw {A : Around} {a b : Addr} {vs us : Array Value} {Q : Value → Shared → Prop} {E : Value → Shared → Prop} (h1 : s.heap.IsList a vs) (h2 : s.heap.IsList b us) (hz : us.size = 0) (hu : A.units < cLine)
    (h : Q (.bool (!decide (vs.size = 0))) s) : wpAny (MM w) A (compareOp .NotEq (.ref a) (.ref b)) Q E s := by
  by_cases hs : vs.size = 0
  · refine SeqAt.RcNeAt.lists (e := fun _ => true) h1 h2 (by omega) hu (fun j h3 _ => by omega) _ _ _ _ ?_
    rw [show (!(List.range vs.size).all (fun _ => true)) = !decide (vs.size = 0) by rw [hs]; rfl]; exact h
  · refine SeqAt.RcNeAt.lists_lengths h1 h2 (by rw [hz]; simpa using hs) hu _ _ _ _ ?_
    rw [decide_eq_false hs] at h; exact h
theorem CmpV.eqNil {l : List AV} : CmpV .Eq (.list l) (.list []) (decide (l.length = 0)) := fun _ _ _ _ _ _ _ _ _ _ _ ⟨a, vs, k, e, g, r⟩ ⟨a', vs', k', e', g', r'⟩ hq _ _ rm j => by
  subst e e'
  have h1 := r.length; have h2 := r'.length
  rw [Array.length_toList] at h1 h2
  refine eqNilRaw (IsL.isList (j.sub _ _ g)) (IsL.isList (j.sub _ _ g')) h2 (Room.units rm) (.here j ?_)
  rw [h1]; exact hq
theorem CmpV.neNil {l : List AV} : CmpV .NotEq (.list l) (.list []) (!decide (l.length = 0)) := fun _ _ _ _ _ _ _ _ _ _ _ ⟨a, vs, k, e, g, r⟩ ⟨a', vs', k', e', g', r'⟩ hq _ _ rm j => by
  subst e e'
  have h1 := r.length; have h2 := r'.length
  rw [Array.length_toList] at h1 h2
  refine neNilRaw (IsL.isList (j.sub _ _ g)) (IsL.isList (j.sub _ _ g')) h2 (Room.units rm) (.here j ?_)
  rw [h1]; exact hq
theorem CmpV.isNotStr {x : Str} : CmpV .IsNot (.str x) .none true := fun _ _ _ _ _ _ _ _ _ _ _ ⟨t, e⟩ e' hq _ _ rm j => by
  rw [show _ = Value.none from e'] at *; subst e
  exact wpAny_isNot_other rfl (fun h => by cases h) (.here j hq)
theorem CmpV.isNotNone : CmpV .IsNot .none .none false := fun _ _ _ _ _ _ _ _ _ _ _ e e' hq _ _ rm j => by
  rw [show _ = Value.none from e', show _ = Value.none from e] at *
  exact wpAny_isNot_self rfl (.here j hq)

theorem Wp.nameR {x : Str} {pos : Pos} {d : Addr} (h : Look F.vars σ x (.r d)) : Wp w F res n z σ (eval (.Name x pos) F.env) (fun _ v σ' => v = .ref d ∧ σ' = σ) := fun A s _ j => by
  obtain ⟨m, val, hn, hl⟩ := j.loc
  obtain ⟨i, e1, e2⟩ := h.at
  obtain ⟨e, q⟩ := hl.at_ i x _ e1 e2
  obtain ⟨k, hd⟩ := j.ok.loc x h.mem
  exact wpAny_Name (wpAny_loadName_local j.ok.kind k hn e (.here j ⟨q, rfl⟩)) hd
/-- a list that is being written is compared with the empty one -/
theorem Bv.eqNilR {x : Str} {d : Addr} {vs : Array Value} {k : Nat} {p lp pos : Pos} {P : Bool → St → Prop} (h : Look F.vars σ x (.r d)) (hm : (d, lOf vs k) ∈ res) (hp : P (decide (vs.size = 0)) σ)
    (hb : behindInMarks .Eq (.List [] lp) = false := by with_unfolding_all rfl) :
    Bv w F res (n + 1) (.Compare (.Name x p) [.Eq] [.List [] lp] pos) σ P := fun z => by
  refine .of_eq (isTrue_Compare1 ..) (.bind ((Wp.nameR h).mono fun z1 v σ1 _ ⟨ev, eσ⟩ => .bind (.holding (.of_eq (markedBehindIn_of_false hb) ?_))))
  subst ev eσ
  refine (Ev.list (w := w) (F := F) (res := res) (n := n + 1) (pos := lp) (es := []) (σ := σ1) (P := fun a σ' => a = .list [] ∧ σ' = σ1) (.nil ⟨by simp, rfl, rfl⟩) z1).mono fun z2 v2 σ2 l2 ⟨b, rb, eb, eσ⟩ => ?_
  subst eb eσ
  refine .stand (.bind (.operate ?_))
  intro A s rm j
  obtain ⟨a', vs', k', e', g', r'⟩ := rb
  subst e'
  have h2 := r'.length
  rw [Array.length_toList] at h2
  exact eqNilRaw (IsL.isList (j.rs (d, lOf vs k) hm).1) (IsL.isList (j.sub _ _ g')) h2 rm.units (.here j (.holding (.truthy hp)))

/-- as append, with what is known of the list that is being written -/
theorem Ex.appendR {x : Str} {e : Expr} {px apos cpos epos : Pos} {l : List AV} {P : Fl → St → Prop} (hl : Look F.vars σ x (.o l))
    (h : ∀ d vs k, vs.size = l.length → ∃ σr, Put F.vars σ x (.r d) σr ∧ Ev w F ((d, lOf vs k) :: res) n e σr fun a σ1 => Look F.vars σ1 x (.r d) ∧ l.length < 2 ^ 23 ∧ ∃ σ2, Put F.vars σ1 x (.o (l ++ [a])) σ2 ∧ P .next σ2)
    (he : starEach [e] F.env = [(false, eval e F.env)] := by rfl) (hline : (apos.endLine == cpos.line) = true := by rfl) :
    Ex w F res n (.Expr (.Call (.Attribute (.Name x px) "append" apos) [e] [] cpos) epos) σ P := fun z A s r j => by
  obtain ⟨d, vs, k, rs, ⟨m, hn, hm⟩, hd, take⟩ := j.takeO hl
  have hsz : vs.size = l.length := by have := rs.length; rwa [Array.length_toList] at this
  obtain ⟨σr, hp, h⟩ := h d vs k hsz
  have j1 := take σr hp
  refine listMeth j.ok.kind (j.ok.loc x hl.mem).1 (j.ok.loc x hl.mem).2 hn hm hd PySem.F.slot_list_append PySem.F.type_list_append ?_ hline (by rw [he]; rfl)
  rw [show backTo cpos (starEach [e] F.env) = [(false, eval e F.env)] by rw [he]; rfl]
  refine Calls.callWith_builtin rfl (Calls.evalArgs_plain (Calls.spliced_cons (wpAny_mono (h z A s r j1) (fun v s1 hh => Calls.spliced_nil ?_) fun _ _ e => e)))
  obtain ⟨z1, σ1, l1, j2, a, ra, hr, hlt, σ2, hp2, q⟩ := hh
  refine append_at (j2.rs (d, lOf vs k) (.head _)).1 (fun h' hs hd' => ⟨rfl, ?_⟩) (by rw [sizeLine_eq]; omega)
  have j3 := j2.updRes (tk := s1.toks) (fun b o hb e => (hs.2 b hb).trans e) hd'
  exact ⟨z1, σ2, l1, j3.giveO hr hp2 (by rw [Array.toList_push]; exact (Reps.mono l1 _ rs).append (.one ra)), .next, trivial, q⟩

/-- an own list may stand still -/
theorem Exs.freeze {x : Str} {l : List AV} {b : List Stmt} {P : Fl → St → Prop} (h : Look F.vars σ x (.o l)) (hp : Put F.vars σ x (.v (.list l)) σ') (hm : F.mt = []) (hq : Exs w F res n b σ' P) : Exs w F res n b σ P := fun z A s r j => by
  obtain ⟨z', m, v, l1, j', _⟩ := j.freeze h hp hm
  refine wpAny_mono (hq z' A s r j') (fun _ _ ⟨z2, σ2, l2, j2, q⟩ => ⟨z2, σ2, l1.trans l2, j2, q⟩) fun _ _ e => e
/-- a test while a list is taken from its name -/
theorem Bv.taken {x : Str} {l : List AV} {t : Expr} {P : Bool → St → Prop} (hl : Look F.vars σ x (.o l))
    (h : ∀ d vs k, vs.size = l.length → ∃ σr, Put F.vars σ x (.r d) σr ∧ Bv w F ((d, lOf vs k) :: res) n t σr fun b σ1 => Look F.vars σ1 x (.r d) ∧ ∃ σ2, Put F.vars σ1 x (.o l) σ2 ∧ P b σ2) :
    Bv w F res n t σ P := fun z A s r j => by
  obtain ⟨d, vs, k, rs, ⟨m, hn, hm⟩, hd, take⟩ := j.takeO hl
  have hsz : vs.size = l.length := by have := rs.length; rwa [Array.length_toList] at this
  obtain ⟨σr, hp, h⟩ := h d vs k hsz
  have j1 := take σr hp
  refine wpAny_mono (h z A s r j1) (fun b s1 hh => ?_) fun _ _ e => e
  obtain ⟨z1, σ1, l1, j2, hr, σ2, hp2, q⟩ := hh
  exact ⟨z1, σ2, l1, j2.giveO hr hp2 (Reps.mono l1 _ rs), q⟩
theorem Ev.neg {e : Expr} {pos : Pos} {P : AV → St → Prop} (h : Ev w F res n e σ fun a σ1 => ∃ i, a = .int i ∧ P (.int (-i)) σ1) : Ev w F res n (.UnaryOp .USub e pos) σ P := fun z =>
  .of_eq (eval_UnaryOp ..) (.bind ((h z).mono fun z1 v σ1 _ ⟨a, ra, i, ea, hp⟩ => .stand (.holding fun A s r j => by
    subst ea
    obtain ⟨t, rfl⟩ := ra
    exact PySem.P.neg_int (.toks j ⟨.int (-i), ⟨_, rfl⟩, hp⟩ _))))
end
end Fil
namespace Fil
section
variable {w : World} {V G : List Str} {F : Fm V G} {res res' : List (Addr × Obj)} {n : Nat} {z z' : Heap} {σ σ' σ1 σ2 : St} {s s' : Shared}
theorem J.perm (j : J w F res z σ s) (h : res'.Perm res) : J w F res' z σ s := by
  obtain ⟨m, val, hn, hl⟩ := j.loc
  refine ⟨j.ok, j.kp, j.mte, j.z0, j.sub, j.frz, j.zL, fun x hx => j.rs x (h.mem_iff.mp hx), (h.map _).nodup_iff.mpr j.rnd, ⟨m, val, hn, ⟨fun i y sl a b => (let ⟨e, q'⟩ := hl.at_ i y sl a b; ⟨e, ?_⟩), hl.apart, hl.len⟩⟩, j.os, j.gens⟩
  cases sl with
  | v a => exact q'
  | o l =>
    obtain ⟨d, vs, k, e1, e2, e3, e4, e5, e6, e7⟩ := q'
    exact ⟨d, vs, k, e1, e2, e3, e4, e5, fun x hx => e6 x (h.mem_iff.mp hx), e7⟩
  | r d => exact q'
/-- what is reserved stands still from here on -/
theorem J.sink {d : Addr} {o : Obj} (j : J w F ((d, o) :: res) z σ s) (hm : F.mt = []) : ∃ z', Le z z' ∧ J w F res z' σ s ∧ z'.get? d = some o := by
  obtain ⟨m, val, hn, hl⟩ := j.loc
  obtain ⟨r1, r2, r3, r4⟩ := j.rs (d, o) (.head _)
  have r4' : F.h0.get? d = none := r4.elim id fun q => by rw [hm] at q; cases q
  have nd : ∀ p ∈ res, p.1 ≠ d := fun p hp e => (List.nodup_cons.mp j.rnd).1 (List.mem_map.mpr ⟨p, hp, e⟩)
  have hz : Le z (cut s.heap fun b => (∃ x, z.get? b = some x) ∨ b = d) := fun b x q => by rw [get_cut_pos (.inl ⟨x, q⟩)]; exact j.sub _ _ q
  have hd : (cut s.heap fun b => (∃ x, z.get? b = some x) ∨ b = d).get? d = some o := by rw [get_cut_pos (.inr rfl)]; exact r1
  have back : ∀ b x, (cut s.heap fun b => (∃ x, z.get? b = some x) ∨ b = d).get? b = some x → z.get? b = some x ∨ b = d := fun b x q => by
    by_cases hb : (∃ x, z.get? b = some x) ∨ b = d
    · rcases hb with ⟨y, hy⟩ | hb
      · rw [get_cut_pos (.inl ⟨y, hy⟩), j.sub _ _ hy] at q; cases q; exact .inl hy
      · exact .inr hb
    · rw [get_cut_neg hb] at q; cases q
  have none' : ∀ b, z.get? b = none → b ≠ d → (cut s.heap fun b => (∃ x, z.get? b = some x) ∨ b = d).get? b = none := fun b q r => by
    cases q2 : (cut s.heap fun b => (∃ x, z.get? b = some x) ∨ b = d).get? b with
    | none => rfl
    | some x => rcases back b x q2 with e | e; · rw [q] at e; cases e
                · exact absurd e r
  refine ⟨_, hz, ⟨j.ok, j.kp, j.mte, j.z0.trans hz, cut_le _ _, fun b x q => ?_, none' _ j.zL (Ne.symm r3), fun p hp => ?_, (List.nodup_cons.mp j.rnd).2, ⟨m, val, hn, ⟨fun i y sl a b => ?_, hl.apart, hl.len⟩⟩, j.os, j.gens⟩, hd⟩
  · rcases back b x q with q | q
    · exact j.frz _ _ q
    · exact .inr (q ▸ r4')
  · obtain ⟨a, b, c, e⟩ := j.rs p (.tail _ hp)
    exact ⟨a, none' _ b (nd p hp), c, e⟩
  · obtain ⟨e, q⟩ := hl.at_ i y sl a b
    refine ⟨e, ?_⟩
    cases sl with
    | v a => exact Rep.mono hz a q
    | o l =>
      obtain ⟨d', vs, k, e1, e2, e3, e4, e5, e6, e7⟩ := q
      exact ⟨d', vs, k, e1, e2, Reps.mono hz l e3, none' _ e4 fun e => e6 (d, o) (.head _) e.symm, e5, fun p hp => e6 p (.tail _ hp), e7⟩
    | r d => exact q
theorem J.raw {x : Str} {d : Addr} (j : J w F res z σ s) (h : Look F.vars σ x (.r d)) : ∃ m, s.heap.Ns F.env.locals m ∧ m x = some (.ref d) ∧ F.env.kindOf x = some .local ∧ (x == ("__debug__" : Str)) = false := by
  obtain ⟨m, val, hn, hl⟩ := j.loc
  obtain ⟨i, e1, e2⟩ := h.at
  obtain ⟨e, q⟩ := hl.at_ i x _ e1 e2
  obtain ⟨k, hd⟩ := j.ok.loc x h.mem
  exact ⟨m, hn, by rw [e]; exact congrArg some q, k, hd⟩
theorem Ev.lenR {x : Str} {p px pos : Pos} {d : Addr} {vs : Array Value} {k : Nat} {P : AV → St → Prop} (hg : ("len" : Str) ∈ F.globs) (hb : GlobB w "len" (.builtin "len")) (hl : Look F.vars σ x (.r d)) (hm : (d, lOf vs k) ∈ res)
    (hs : vs.size ≤ 2 ^ 23) (h : P (.int vs.size) σ) : Ev w F res n (.Call (.Name "len" p) [.Name x px] [] pos) σ P := fun z =>
  .of_eq (arm_eval_Call_Name' ..) (.bind fun A s r j => loadB j hg hb (.here j fun A s r j => by
    obtain ⟨m, hn, hx, kd, dbg⟩ := j.raw hl
    refine Calls.callWith_builtin rfl (Calls.evalArgs_plain (Calls.spliced_cons (wpAny_Name (wpAny_loadName_local j.ok.kind kd hn hx (Calls.spliced_nil ?_)) dbg)))
    refine PyProof.Rows.len_list (IsL.isList (j.rs _ hm).1) (by omega) ?_
    exact .toks j ⟨.int vs.size, ⟨_, rfl⟩, h⟩ _))
/-- an item of a list that is being written -/
theorem Wp.indexR {x : Str} {px pos : Pos} {slice : Expr} {d : Addr} {vs : Array Value} {k i : Nat} {v : Value} (hl : Look F.vars σ x (.r d)) (hm : (d, lOf vs k) ∈ res) (hi : vs[i]? = some v) (hs : vs.size ≤ 2 ^ 23)
    (h : Ev w F res n slice σ fun b σ1 => b = .int i ∧ σ1 = σ)
    (hsub : ∀ o i, subscripted slice false o i = PySem.operate [o, i] (getItem o i) := by intro _ _; rfl) : Wp w F res n z σ (eval (.Subscript (.Name x px) slice pos) F.env) fun _ u σ1 => u = v ∧ σ1 = σ :=
  .of_eq (m' := (do let o ← eval (.Name x px) F.env; let i ← PySem.holding [o] (eval slice F.env); standAt pos; subscriptTail (.Name x px) slice o i)) rfl
    (.bind ((Wp.nameR hl).mono fun z1 o σ1 _ ⟨eo, eσ⟩ => .bind (.holding ((eσ.symm ▸ (h z1)).mono fun z2 b σ2 l2 ⟨a, rb, ea, eσ2⟩ => .stand (fun A s rm j => by
      subst eo ea
      obtain ⟨t, rfl⟩ := rb
      have hL : s.heap.IsList d vs := IsL.isList (j.rs _ hm).1
      have hlt : i < vs.size := by
        rcases Nat.lt_or_ge i vs.size with h | h
        · exact h
        · rw [Array.getElem?_eq_none h] at hi; cases hi
      exact tail_any hL.typeIs slot_list_getitem.lookup (wpAny_getItem_list hL (by omega) (by omega) (by simpa using hi) (.here j ⟨rfl, eσ2.trans eσ⟩)) (hsub _ _))))))
/-- append, whatever gives the list -/
theorem appendG {A : Around} {o e : Expr} {apos cpos epos : Pos} {Q : Flow → Shared → Prop}
    (hk : F.env.scope.kind = .function)
    (ho : wpAny (MM w) A (eval o F.env) (fun v s1 => ∃ a vs k, v = .ref a ∧ s1.heap.get? a = some (lOf vs k) ∧ wpAny (MM w) A (eval e F.env) (fun x s2 => ∃ vs k, s2.heap.get? a = some (lOf vs k) ∧ vs.size < 2 ^ 23 ∧
      ∀ h', Heap.SameBut a s2.heap h' → (∃ k', h'.get? a = some (lOf (vs.push x) k')) → Q .next { s2 with heap := h' }) NoE s1) NoE s)
    (hbase : attributeBase o "append" F.env (eval o F.env) = eval o F.env := by rfl)
    (he : starEach [e] F.env = [(false, eval e F.env)] := by rfl) (hline : (apos.endLine == cpos.line) = true := by rfl) :
    wpAny (MM w) A (exec (.Expr (.Call (.Attribute o "append" apos) [e] [] cpos) epos) F.env) Q NoE s := by
  refine wpAny_Expr (e := .Call (.Attribute o "append" apos) [e] [] cpos) ?_ (notModule F hk) rfl
  refine wpAny_Call_method_lateS hbase (by rw [he]; rfl) hline (wpAny_mono ho (fun v s1 hh => ?_) fun _ _ e => e)
  obtain ⟨a, vs, k, rfl, ha, hh⟩ := hh
  refine ⟨"list", "list.append", PySem.F.plainAttrs_list, PySem.F.slot_list_append, PySem.F.type_list_append, ⟨_, ha, rfl⟩, fun a e => by cases e; exact ⟨_, ha, rfl⟩, ?_⟩
  rw [show backTo cpos (starEach [e] F.env) = [(false, eval e F.env)] by rw [he]; rfl]
  refine Calls.callWith_builtin rfl (Calls.evalArgs_plain (Calls.spliced_cons (wpAny_mono hh (fun x s2 hh => Calls.spliced_nil ?_) fun _ _ e => e)))
  obtain ⟨vs, k, h2, hlt, hq⟩ := hh
  exact append_at h2 (fun h' hs hd' => hq h' hs ⟨_, hd'⟩) (by rw [sizeLine_eq]; omega)
end
end Fil
namespace Fil
theorem sL_str (x : Str) : (sL x.cps.toList) = .str x := by cases x; simp [sL]
/-- the words of a text, its lines -/
noncomputable def wsN (l : List Nat) : List (List Nat) := (Txt.words ⟨l.toArray⟩).map fun x => x.cps.toList
noncomputable def lnN (l : List Nat) : List (List Nat) := (Txt.split ⟨l.toArray⟩ "\n").map fun x => x.cps.toList
noncomputable def blankN (l : List Nat) : Bool := decide ((Txt.stripChars ⟨l.toArray⟩ " \t").1.toList = ("" : Str).1.toList)
theorem FunV.splitS {l : List Nat} (h : l.length ≤ 2 ^ 20) : FunV "str.split" [sL l] (.list ((wsN l).map sL)) := by
  have := FunV.split0 (x := ⟨l.toArray⟩) (by simpa [Str.length] using h)
  rw [wsN, List.map_map]
  rw [show (sL ∘ fun x : Str => x.cps.toList) = AV.str from funext fun x => sL_str x]
  exact this
theorem FunV.splitNl {l : List Nat} (h : l.length ≤ 2 ^ 20) : FunV "str.split" [sL l, .str "\n"] (.list ((lnN l).map sL)) := by
  have := FunV.split1 (x := ⟨l.toArray⟩) (y := "\n") (by simpa [Str.length] using h) (by decide +kernel)
  rw [lnN, List.map_map]
  rw [show (sL ∘ fun x : Str => x.cps.toList) = AV.str from funext fun x => sL_str x]
  exact this
theorem FunV.joinSp {l : List (List Nat)} (h : (l.map (·.length)).sum + l.length ≤ 2 ^ 20) : FunV "str.join" [.str " ", .list (l.map sL)] (sL (jn [32] l)) := by
  rw [show (AV.str " ") = sL [32] from congrArg AV.str (by decide +kernel)]
  exact FunV.joinS (by simpa using h)
theorem FunV.joinNl {l : List (List Nat)} (h : (l.map (·.length)).sum + l.length ≤ 2 ^ 20) : FunV "str.join" [.str "\n", .list (l.map sL)] (sL (jn [10] l)) := by
  rw [show (AV.str "\n") = sL [10] from congrArg AV.str (by decide +kernel)]
  exact FunV.joinS (by simpa using h)
theorem FunV.stripSp {l : List Nat} (h : l.length ≤ 2 ^ 20) : FunV "str.strip" [sL l, .str " \t"] (.str (Txt.stripChars ⟨l.toArray⟩ " \t")) := FunV.strip1 (by simpa [Str.length] using h)
theorem nilS : (AV.str "") = sL [] := congrArg AV.str (by decide +kernel)
/-- all signs, and a row end for each -/
noncomputable def tG : List (List Nat) → Nat
  | [] => 0
  | x :: r => x.length + 1 + tG r
theorem tG_app : ∀ a b : List (List Nat), tG (a ++ b) = tG a + tG b
  | [], b => by simp [tG]
  | x :: a, b => by simp only [List.cons_append, tG, tG_app a b]; omega
theorem tG_sum : ∀ l : List (List Nat), (l.map (·.length)).sum + l.length = tG l
  | [] => rfl
  | x :: l => by have := tG_sum l; simp only [List.map_cons, List.sum_cons, List.length_cons, tG]; omega
theorem tG_mem : ∀ {l : List (List Nat)} {x : List Nat}, x ∈ l → x.length + 1 ≤ tG l
  | a :: r, x, h => by
    simp only [tG]
    rcases List.mem_cons.mp h with rfl | h
    · omega
    · have := tG_mem h; omega
theorem tG_len : ∀ l : List (List Nat), l.length ≤ tG l
  | [] => Nat.le_refl _
  | x :: r => by have := tG_len r; simp only [tG, List.length_cons]; omega
theorem tG_take (l : List (List Nat)) (k : Nat) : tG (l.take k) ≤ tG l := by
  conv => rhs; rw [← List.take_append_drop k l]
  rw [tG_app]; omega
theorem tG_wsN (l : List Nat) : tG (wsN l) ≤ l.length + 1 := by
  have := StrLaws.words_weight ⟨l.toArray⟩
  rw [← tG_sum, wsN, List.map_map, List.length_map]
  simpa [Str.length, Function.comp_def] using this
theorem tG_lnN (l : List Nat) : tG (lnN l) ≤ l.length + 1 := by
  have := PyProof.Rows.split_weight ⟨l.toArray⟩ "\n" (by decide +kernel)
  rw [← tG_sum, lnN, List.map_map, List.length_map]
  simpa [Str.length, Function.comp_def] using this
theorem jn_len (c : Nat) : ∀ l : List (List Nat), (jn [c] l).length ≤ tG l
  | [] => by simp [jn]
  | [a] => by simp [jn, tG]
  | a :: b :: r => by
    have := jn_len c (b :: r)
    simp only [jn, tG, List.length_append, List.length_cons, List.length_nil] at *; omega
end Fil
namespace Fil
/-- what is handed in: a value, or a list that the callee may write -/
noncomputable def SlR (z : Heap) (v : Value) : Slot → Prop
  | .v a => Rep z v a
  | .r d => v = .ref d
  | .o _ => False
/-- the text's own function at an address, whatever is asked of its end -/
theorem callRaw {w : World} {n : Nat} {f : Addr} {oc : Value} {od : Option Addr} {osl : Array (Option Value)} {name qual : Str} {params : Arguments} {body : List Stmt} {scope : Scope} {dV kV doc pm cdv ct : Value} {an : Option Addr} {sls : List Slot} {σ0 : St} {names vars globs : List Str}
    {A : Around} {s : Shared} {z : Heap} {vs : List Value} {mt : List Addr} {res : List (Addr × Obj)} {Q : Value → Shared → Prop}
    (hk : (KK w).lookup f = some ⟨oc, od, .func (fnOf name qual params body scope dV kV doc pm an cdv ct), osl⟩) (hcd : codeIn (KK w) cdv qual = true)
    (hbind : ∀ vs : List Value, vs.length = sls.length → bindArgs (fnOf name qual params body scope dV kV doc pm an cdv ct) ⟨vs, []⟩ = pure (names.zip vs))
    (hnm : ∃ more, vars = names ++ more) (hlen : names.length = sls.length) (hσ : σ0 = sls.map some ++ List.replicate (vars.length - names.length) none)
    (hnod : vars.Nodup) (hl : (vars.all fun x => decide (scope.names.lookup x = some .local) && !(x == ("__debug__" : Str))) = true)
    (hg : (globs.all fun x => decide (scope.names.lookup x = some .globalImplicit) && !(x == ("__debug__" : Str)) && !(x == ("__name__" : Str))) = true)
    (hco : scope.isCoroutine = false) (hgen : scope.isGenerator = false) (hkd : scope.kind = .function) (hcell : ∀ x ∈ scope.names, x.2 ≠ .cell)
    (rm : Room (n + 1) A) (cx : Cx w z) (sub : Le z s.heap) (hlv : vs.length = sls.length) (hsl : ∀ (i : Nat) v sl, vs[i]? = some v → sls[i]? = some sl → SlR z v sl)
    (muz : ∀ d ∈ mt, z.get? d = none ∧ ∃ o, s.heap.get? d = some o) (hres : ∀ p ∈ res, s.heap.get? p.1 = some p.2 ∧ p.1 ∈ mt) (hrn : (res.map (·.1)).Nodup)
    (h : ∀ F : Fm vars globs, F.env.scope = scope → F.mt = mt → F.h0 = s.heap → F.z0 = z → F.os = s.os → F.gens = s.gens → ∀ A' s', Room n A' → J w F res z σ0 s' →
      wpAny (MM w) A' (execs body F.env) (fun f s2 => match f with | .ret v => Q v s2 | _ => Q .none s2) NoE s') :
    wpAny (MM w) A (call (.ref f) vs) Q NoE s := by
  have cxh := cx.mono sub
  obtain ⟨more, hmore⟩ := hnm
  have nodn : names.Nodup := by rw [hmore] at hnod; exact (List.nodup_append.mp hnod).1
  have lkz : ∀ (l : List Str) (us : List Value), l.Nodup → l.length = us.length → ∀ (i : Nat) (x : Str), l[i]? = some x → ((l.zip us).reverse.lookup x) = us[i]? := by
    intro l
    induction l with
    | nil => intro us _ _ i x hx; simp at hx
    | cons y l ih =>
      intro us hnd hl i x hx
      cases us with
      | nil => simp at hl
      | cons u us =>
        have hnd' := List.nodup_cons.mp hnd
        rw [List.zip_cons_cons, List.reverse_cons, List.lookup_append]
        cases i with
        | zero =>
          have hx' : y = x := by simpa using hx
          subst hx'
          have : (l.zip us).reverse.lookup y = none := by
            rw [List.lookup_eq_none_iff]
            intro p hp
            have := List.of_mem_zip (List.mem_reverse.mp hp)
            simp only [bne_iff_ne, ne_eq]
            exact fun e => hnd'.1 (e ▸ this.1)
          rw [this]; simp
        | succ i =>
          have hx' : l[i]? = some x := by simpa using hx
          rw [ih us hnd'.2 (by simpa using hl) i x hx']
          have hlt : i < us.length := by
            have := (List.getElem?_eq_some_iff.mp hx').1
            have h2 : l.length = us.length := by simpa using hl
            omega
          simp [hlt]
  refine wpAny_call (codeAny_call_def (fd := fnOf name qual params body scope dV kV doc pm an cdv ct) (body := body) (binds := names.zip vs) rm.depth (cxh.k _ _ hk) rfl cxh.nl (codeRec_of cxh.k hcd) rfl (.of_eq (hbind vs hlv)) hcell (fun x hx => ?_) (fun h1 hns hk1 => ?_) hco hgen hkd)
  · have := (List.of_mem_zip hx).1
    have := List.all_eq_true.mp hl x.1 (by rw [hmore]; exact List.mem_append_left _ this)
    simp only [Bool.and_eq_true, decide_eq_true_eq] at this
    exact this.1
  have new : s.heap.get? s.heap.objs.size = none := by
    cases q : s.heap.get? s.heap.objs.size with
    | none => rfl
    | some _ => exact absurd (Heap.lt_size q) (Nat.lt_irrefl _)
  let F : Fm vars globs := ⟨callEnv (fnOf name qual params body scope dV kV doc pm an cdv ct) s.heap.objs.size f, s.heap, z, mt, s.os, s.gens⟩
  have ok : FmOk w F := by
    refine ⟨cx, sub, hkd, rfl, rfl, hnod, fun x hx => ?_, fun x hx => ?_, new, muz⟩
    · have := List.all_eq_true.mp hl x hx
      simp only [Bool.and_eq_true, decide_eq_true_eq, Bool.not_eq_true'] at this
      exact this
    · have := List.all_eq_true.mp hg x hx
      simp only [Bool.and_eq_true, decide_eq_true_eq, Bool.not_eq_true'] at this
      exact ⟨this.1.1, this.1.2, fun e => by rw [e] at this; simp at this⟩
  have j : J w F res z σ0 { s with heap := h1, toks := s.toks + (names.zip vs).length } := by
    refine ⟨ok, fun b o _ e => hk1 b o e, (fun b hb => let ⟨_, o, e⟩ := muz b hb; ⟨o, hk1 b o e⟩), .refl _, fun b o e => hk1 b o (sub _ _ e), fun b o e => .inl e, ?_, (fun p hp => ?_), hrn, ⟨_, fun i => vs.getD i .none, hns, ⟨fun i x sl hi hs => ?_, fun i k l l' _ hi => ?_, ?_⟩⟩, rfl, rfl⟩
    · cases q : z.get? s.heap.objs.size with
      | none => exact q
      | some x => have := sub _ _ q; rw [new] at this; cases this
    · obtain ⟨e1, e2⟩ := hres p hp
      obtain ⟨e3, o, e4⟩ := muz _ e2
      refine ⟨hk1 _ _ e1, e3, fun e => ?_, .inr e2⟩
      have : p.1 = s.heap.objs.size := e
      rw [this, new] at e4; cases e4
    · have hi : vars[i]? = some x := hi
      have hs : σ0[i]? = some (some sl) := hs
      rw [hσ] at hs
      by_cases hlt : i < sls.length
      · rw [List.getElem?_append_left (by simpa using hlt)] at hs
        rw [List.getElem?_map] at hs
        cases ha : sls[i]? with
        | none => rw [ha] at hs; cases hs
        | some a =>
          rw [ha] at hs
          cases hs
          have hv : vs[i]? = some vs[i] := List.getElem?_eq_getElem (by omega)
          have rv := hsl i _ _ hv ha
          have hin : names[i]? = some x := by rw [hmore, List.getElem?_append_left (by omega)] at hi; exact hi
          refine ⟨?_, ?_⟩
          · rw [lkz names vs nodn (by omega) i x hin, hv]; simp [hv]
          · have e : vs.getD i .none = vs[i] := by rw [List.getD_eq_getElem?_getD, hv]; rfl
            rw [e]
            cases sl with
            | v a => exact rv
            | o l => exact rv.elim
            | r d => exact rv
      · rw [List.getElem?_append_right (by simpa using Nat.not_lt.mp hlt), List.getElem?_replicate] at hs
        split at hs <;> cases hs
    · have hi : σ0[i]? = some (some (.o l)) := hi
      rw [hσ] at hi
      by_cases hlt : i < sls.length
      · rw [List.getElem?_append_left (by simpa using hlt), List.getElem?_map] at hi
        cases ha : sls[i]? with
        | none => rw [ha] at hi; cases hi
        | some a =>
          rw [ha] at hi; cases hi
          have hv : vs[i]? = some vs[i] := List.getElem?_eq_getElem (by omega)
          exact (hsl i _ _ hv ha).elim
      · rw [List.getElem?_append_right (by simpa using Nat.not_lt.mp hlt), List.getElem?_replicate] at hi
        split at hi <;> cases hi
    · show σ0.length = vars.length
      rw [hσ, hmore]
      simp only [List.length_append, List.length_map, List.length_replicate]
      omega
  refine wpAny_mono (h F rfl rfl rfl rfl rfl rfl _ _ (rm.deeper _) j) (fun fl s2 hh => ?_) fun _ _ e => e.elim
  cases fl <;> first
    | exact False.elim hh
    | exact hh
end Fil
namespace Fil
/-- the law's deck: a list of whole numbers, never empty -/
structure DeckV (vs : Array Value) : Prop where
  one : 1 ≤ vs.size
  few : vs.size ≤ 64
  whole : ∀ v ∈ vs.toList, ∃ n t, v = .int n t
noncomputable def DeckO (o : Obj) : Prop := ∃ vs k, o = lOf vs k ∧ DeckV vs
section
variable {w : World} {V G : List Str} {F : Fm V G} {res : List (Addr × Obj)} {n : Nat} {z z' : Heap} {σ σ' σ1 σ2 : St} {s s' : Shared} {d : Addr}
noncomputable def XD (w : World) {V G : List Str} (F : Fm V G) (res : List (Addr × Obj)) (d : Addr) (n : Nat) (st : Stmt) (σ : St) (P : Fl → St → Prop) : Prop :=
  ∀ z A s o, Room n A → DeckO o → J w F ((d, o) :: res) z σ s → wpAny (MM w) A (exec st F.env) (fun f s' => ∃ o' z' σ', DeckO o' ∧ Le z z' ∧ J w F ((d, o') :: res) z' σ' s' ∧ ∃ a, FlRep z' f a ∧ P a σ') NoE s
noncomputable def XsD (w : World) {V G : List Str} (F : Fm V G) (res : List (Addr × Obj)) (d : Addr) (n : Nat) (sts : List Stmt) (σ : St) (P : Fl → St → Prop) : Prop :=
  ∀ z A s o, Room n A → DeckO o → J w F ((d, o) :: res) z σ s → wpAny (MM w) A (execs sts F.env) (fun f s' => ∃ o' z' σ', DeckO o' ∧ Le z z' ∧ J w F ((d, o') :: res) z' σ' s' ∧ ∃ a, FlRep z' f a ∧ P a σ') NoE s
theorem setAt0 {A : Around} {E : Value → Shared → Prop} {l : Addr} {items : Array Value} {n : Nat} {t : Tok} {v : Value} {Q : Unit → Shared → Prop} (ho : s.heap.get? l = some (lOf items n)) (hj : 0 < items.size)
    (hQ : ∀ h' n', h'.get? l = some (lOf (items.setIfInBounds 0 v) n') → Heap.SameBut l s.heap h' → Q () { s with heap := h' }) : wpAny (MM w) A (setItem (.ref l) (.int 0 t) v) Q E s :=
  ki_setAt ho (by decide) (by decide) (by omega) (hQ _ _ (Heap.get?_update_self _ ho rfl) (Heap.SameBut.update ..))
theorem XD.lift {st : Stmt} {P : Fl → St → Prop} (h : ∀ vs k, DeckV vs → Ex w F ((d, lOf vs k) :: res) n st σ P) : XD w F res d n st σ P := fun z A s o r ⟨vs, k, e, hv⟩ j => by
  subst e
  refine wpAny_mono (h vs k hv z A s r j) (fun f s' ⟨z', σ', l, j', a, q⟩ => ⟨_, z', σ', ⟨vs, k, rfl, hv⟩, l, j', a, q⟩) fun _ _ e => e
theorem XsD.nil {P : Fl → St → Prop} (h : P .next σ) : XsD w F res d n [] σ P := fun z A s o r ho j => wpAny_execs_nil ⟨o, z, σ, ho, .refl z, j, .next, trivial, h⟩
theorem XsD.cons {st : Stmt} {rest : List Stmt} {P : Fl → St → Prop} (h : XD w F res d n st σ (Nx (fun σ1 => XsD w F res d n rest σ1 P) P)) : XsD w F res d n (st :: rest) σ P := fun z A s o r ho j => by
  refine Eq.mpr (congrArg (fun m => wpAny (MM w) A m _ NoE s) (execs_cons ..)) (wpAny_bind (wpAny_mono (h z A s o r ho j) (fun f s1 hh => ?_) fun _ _ e => e))
  obtain ⟨o1, z1, σ1, ho1, l1, j1, a, fr, q⟩ := hh
  cases f <;> cases a <;> first
    | exact fr.elim
    | (refine wpAny_mono (q z1 A s1 o1 r ho1 j1) (fun f s2 ⟨o2, z2, σ2, ho2, l2, j2, q2⟩ => ⟨o2, z2, σ2, ho2, l1.trans l2, j2, q2⟩) fun _ _ e => e)
    | exact wpAny_pure ⟨o1, z1, σ1, ho1, l1, j1, _, fr, q⟩
theorem XD.if {t : Expr} {a b : List Stmt} {pos : Pos} {P : Fl → St → Prop} (ht : ∀ vs k, DeckV vs → Bv w F ((d, lOf vs k) :: res) n t σ fun _ σ1 => σ1 = σ) (h1 : XsD w F res d n a σ P) (h2 : XsD w F res d n b σ P) :
    XD w F res d n (.If t a b pos) σ P := fun z A s o r ⟨vs, k, e, hv⟩ j => by
  subst e
  refine Eq.mpr (congrArg (fun m => wpAny (MM w) A m _ NoE s) (exec_If ..)) (wpAny_bind (wpAny_standAt (wpAny_bind (wpAny_mono (ht vs k hv z A s r j) (fun c s1 hh => ?_) fun _ _ e => e))))
  obtain ⟨z1, σ1, l1, j1, rfl⟩ := hh
  cases c
  · exact wpAny_mono (h2 z1 A s1 _ r ⟨vs, k, rfl, hv⟩ j1) (fun f s2 ⟨o2, z2, σ2, ho2, l2, j2, q2⟩ => ⟨o2, z2, σ2, ho2, l1.trans l2, j2, q2⟩) fun _ _ e => e
  · exact wpAny_mono (h1 z1 A s1 _ r ⟨vs, k, rfl, hv⟩ j1) (fun f s2 ⟨o2, z2, σ2, ho2, l2, j2, q2⟩ => ⟨o2, z2, σ2, ho2, l1.trans l2, j2, q2⟩) fun _ _ e => e
/-- the deck's first number -/
theorem Ev.deck0 {x : Str} {p cpos pos : Pos} {k0 : Nat} {vs : Array Value} {k : Nat} {P : AV → St → Prop} (hl : Look F.vars σ x (.r d)) (hm : (d, lOf vs k) ∈ res) (hv : DeckV vs) (h : ∀ i, P (.int i) σ) :
    Ev w F res n (.Subscript (.Name x p) (.Constant (.int 0) k0 cpos) pos) σ P := fun z => by
  have hlt : 0 < vs.size := hv.one
  obtain ⟨i, t, e⟩ := hv.whole vs[0] (by simp)
  have e0 : vs[0]? = some (Value.int i t) := by rw [Array.getElem?_eq_getElem hlt, e]
  refine (Wp.indexR (i := 0) (v := Value.int i t) hl hm e0 (by have := hv.few; omega) (Ev.int ⟨rfl, rfl⟩)).mono fun z1 u σ1 _ hh => ?_
  obtain ⟨rfl, rfl⟩ := hh
  exact ⟨.int i, ⟨_, rfl⟩, h i⟩
/-- the deck's first number is written -/
theorem XD.put0 {x : Str} {e : Expr} {p cpos spos pos : Pos} {k0 : Nat} {P : Fl → St → Prop} (hl : Look F.vars σ x (.r d)) (he : ∀ vs k, DeckV vs → Ev w F ((d, lOf vs k) :: res) n e σ fun a σ1 => (∃ i, a = .int i) ∧ σ1 = σ) (hp : P .next σ)
    (hs : swapsWith e (some (.Subscript (.Name x p) (.Constant (.int 0) k0 cpos) spos)) pos.line F.env = pure false := by rfl) :
    XD w F res d n (.Assign [.Subscript (.Name x p) (.Constant (.int 0) k0 cpos) spos] e pos) σ P := fun z A s o r ⟨vs, k, eo, hv⟩ j => by
  subst eo
  refine wpAny_Assign_Subscript (wpAny_mono (he vs k hv z A s r j) (fun v s1 hh => ?_) fun _ _ e => e) hs
  obtain ⟨z1, σ1, l1, j1, a, ra, ⟨i, rfl⟩, rfl⟩ := hh
  obtain ⟨t, rfl⟩ := ra
  refine wpAny_mono (Wp.nameR hl A s1 r j1) (fun v s2 hh => ?_) fun _ _ e => e
  obtain ⟨z2, σ2, l2, j2, rfl, rfl⟩ := hh
  refine wpAny_mono (Ev.int (w := w) (F := F) (res := (d, lOf vs k) :: res) (n := n) (σ := σ2) (i := 0) (P := fun a σ' => a = .int 0 ∧ σ' = σ2) ⟨rfl, rfl⟩ z2 A s2 r j2) (fun v s3 hh => ?_) fun _ _ e => e
  obtain ⟨z3, σ3, l3, j3, a, ra, rfl, rfl⟩ := hh
  obtain ⟨t3, rfl⟩ := ra
  have hd := (j3.rs (d, lOf vs k) (.head _)).1
  refine setAt0 hd hv.one fun h' n' hd' hsb => ?_
  have j4 := J.updRes (tk := s3.toks) j3 (fun b x hb e => (hsb.2 b hb).trans e) hd'
  refine ⟨_, z3, _, ⟨_, n', rfl, ?_, ?_, fun v hq => ?_⟩, (l1.trans l2).trans l3, j4, .next, trivial, hp⟩
  · rw [Array.size_setIfInBounds]; exact hv.one
  · rw [Array.size_setIfInBounds]; exact hv.few
  · rw [Array.toList_setIfInBounds] at hq
    rcases List.mem_or_eq_of_mem_set hq with h | rfl
    · exact hv.whole v h
    · exact ⟨i, t, rfl⟩
/-- the deck's first number is thrown away -/
theorem popD {A : Around} {x : Str} {px apos cpos epos ipos : Pos} {k0 : Nat} {vs : Array Value} {k : Nat} {Q : Flow → Shared → Prop} (r : Room n A) (j : J w F ((d, lOf vs k) :: res) z σ s) (hl : Look F.vars σ x (.r d)) (hv : DeckV vs) (h1 : 1 < vs.size)
    (h : ∀ z' s' vs' k', Le z z' → DeckV vs' → vs'.size < vs.size → J w F ((d, lOf vs' k') :: res) z' σ s' → Q .next s') (hline : (apos.endLine == cpos.line) = true := by rfl) :
    wpAny (MM w) A (exec (.Expr (.Call (.Attribute (.Name x px) "pop" apos) [.Constant (.int 0) k0 ipos] [] cpos) epos) F.env) Q NoE s := by
  obtain ⟨m, hn, hx, kd, dbg⟩ := j.raw hl
  refine wpAny_Expr (e := .Call (.Attribute (.Name x px) "pop" apos) [.Constant (.int 0) k0 ipos] [] cpos) ?_ (notModule F j.ok.kind) rfl
  have he : starEach [Expr.Constant (.int 0) k0 ipos] F.env = [(false, eval (.Constant (.int 0) k0 ipos) F.env)] := rfl
  refine wpAny_Call_method_lateS rfl (by rw [he]; rfl) hline ?_
  refine wpAny_Name (wpAny_loadName_local j.ok.kind kd hn hx ?_) dbg
  have hd := (j.rs (d, lOf vs k) (.head _)).1
  refine ⟨"list", "list.pop", PySem.F.plainAttrs_list, PySem.F.slot_list_pop, PySem.F.type_list_pop, ⟨_, hd, rfl⟩, fun a e => by cases e; exact ⟨_, hd, rfl⟩, ?_⟩
  rw [show backTo cpos (starEach [Expr.Constant (.int 0) k0 ipos] F.env) = [(false, eval (.Constant (.int 0) k0 ipos) F.env)] by rw [he]; rfl]
  refine PySem.P.pop_at_list (wpAny_mono (Ev.int (w := w) (F := F) (res := (d, lOf vs k) :: res) (n := n) (σ := σ) (i := 0) (P := fun a σ' => a = .int 0 ∧ σ' = σ) ⟨rfl, rfl⟩ z A s r j) (fun v s3 hh => ?_) fun _ _ e => e)
  obtain ⟨z3, σ3, l3, j3, a, ra, rfl, rfl⟩ := hh
  obtain ⟨t3, rfl⟩ := ra
  have hd3 := (j3.rs (d, lOf vs k) (.head _)).1
  have hfew := hv.few
  have hlt : 0 < vs.size := hv.one
  obtain ⟨i0, t0, e0⟩ := hv.whole vs[0] (by simp)
  refine ⟨vs, k, 0, t3, 0, .int i0 t0, by rw [sizeLine_eq]; omega, rfl, hd3, by decide, seqIndex_of (by decide) (by omega), by rw [Array.getElem?_eq_getElem hlt, e0], ?_⟩
  have j4 := J.updRes (h' := s3.heap.update d (Obj.mapSeq fun xs => xs.eraseIdxIfInBounds 0)) (tk := s3.toks) j3 (fun b x hb e => (Heap.get?_update_other _ _ (Ne.symm hb)).trans e) (Heap.get?_update_self _ hd3 rfl)
  have hsz : (vs.eraseIdxIfInBounds 0).size = vs.size - 1 := by
    rw [← Array.length_toList, Array.toList_eraseIdxIfInBounds, List.length_eraseIdx]
    simp [hlt]
  refine h z3 _ (vs.eraseIdxIfInBounds 0) _ l3 ⟨?_, ?_, fun v hq => ?_⟩ ?_ j4
  · rw [hsz]; omega
  · rw [hsz]; omega
  · rw [Array.toList_eraseIdxIfInBounds] at hq
    exact hv.whole v (List.mem_of_mem_eraseIdx hq)
  · rw [hsz]; omega
/-- a while that throws away -/
theorem XD.whilePop {t : Expr} {body : List Stmt} {pos : Pos} {P : Fl → St → Prop} (ht : ∀ vs k, DeckV vs → Bv w F ((d, lOf vs k) :: res) n t σ fun b σ1 => σ1 = σ ∧ (b = true → 1 < vs.size))
    (hb : ∀ z A s vs k (Q : Flow → Shared → Prop), Room n A → DeckV vs → 1 < vs.size → J w F ((d, lOf vs k) :: res) z σ s → (∀ z' s' vs' k', Le z z' → DeckV vs' → vs'.size < vs.size → J w F ((d, lOf vs' k') :: res) z' σ s' → Q .next s') → wpAny (MM w) A (execs body F.env) Q NoE s)
    (hp : P .next σ) : XD w F res d n (.While t body [] pos) σ P := fun z A s o r ⟨vs, k, e, hv⟩ j => by
  subst e
  refine wpAny_While (codeAny_whileLoop (fun m s' => ∃ z' vs k, vs.size = m ∧ DeckV vs ∧ Le z z' ∧ J w F ((d, lOf vs k) :: res) z' σ s') (fun m s' hI => ?_) vs.size ⟨z, vs, k, rfl, hv, .refl z, j⟩)
  obtain ⟨z1, vs1, k1, rfl, hv1, l1, j1⟩ := hI
  refine wpAny_mono (ht vs1 k1 hv1 z1 A s' r j1) (fun c s2 hh => ?_) fun _ _ e => e.elim
  obtain ⟨z2, σ2, l2, j2, rfl, hlt⟩ := hh
  cases c with
  | true =>
    refine wpAny_mono (hb z2 A s2 vs1 k1 (fun f s3 => f = .next ∧ ∃ z' vs' k', Le z2 z' ∧ DeckV vs' ∧ vs'.size < vs1.size ∧ J w F ((d, lOf vs' k') :: res) z' σ2 s3) r hv1 (hlt rfl) j2 fun z' s' vs' k' l hv' hs' j' => ⟨rfl, z', vs', k', l, hv', hs', j'⟩) (fun f s3 hh => ?_) fun _ _ e => e.elim
    obtain ⟨rfl, z3, vs3, k3, l3, hv3, hs3, j3⟩ := hh
    exact ⟨vs3.size, hs3, z3, vs3, k3, rfl, hv3, (l1.trans l2).trans l3, j3⟩
  | false => exact wpAny_execs_nil ⟨_, z2, σ2, ⟨vs1, k1, rfl, hv1⟩, l1.trans l2, j2, .next, trivial, hp⟩
end
end Fil
namespace Fil
/-- a def's contract that writes the deck -/
noncomputable def ClD (w : World) (n : Nat) (f d : Addr) (args : List AV) (P : AV → Prop) : Prop :=
  ∀ A s z vs o, Room n A → Cx w z → Le z s.heap → z.get? d = none → s.heap.get? d = some o → DeckO o → Reps z vs args →
    wpAny (MM w) A (call (.ref f) (.ref d :: vs)) (fun v s' => ∃ o' z' a, DeckO o' ∧ s'.heap.get? d = some o' ∧ (∀ b x, b ≠ d → s.heap.get? b = some x → s'.heap.get? b = some x) ∧ Le z z' ∧ Le z' s'.heap ∧
      (∀ b x, z'.get? b = some x → z.get? b = some x ∨ s.heap.get? b = none) ∧ s'.os = s.os ∧ s'.gens = s.gens ∧ z'.get? d = none ∧ Rep z' v a ∧ P a) NoE s
theorem ClD.mono {w : World} {n : Nat} {f d : Addr} {args : List AV} {P P' : AV → Prop} (h : ClD w n f d args P) (hp : ∀ a, P a → P' a) : ClD w n f d args P' := fun A s z vs o r c l hz hd ho rs =>
  wpAny_mono (h A s z vs o r c l hz hd ho rs) (fun v s' ⟨o', z', a, h1, h2, h3, h4, h5, h6, h7, h8, h9, h10, h11⟩ => ⟨o', z', a, h1, h2, h3, h4, h5, h6, h7, h8, h9, h10, hp _ h11⟩) fun _ _ e => e
theorem ClD.room {w : World} {n k : Nat} {f d : Addr} {args : List AV} {P : AV → Prop} (h : ClD w k f d args P) (hk : k ≤ n) : ClD w n f d args P := fun A s z vs o r c l hz hd ho rs => h A s z vs o (r.mono hk) c l hz hd ho rs
theorem ClD.intro {w : World} {n : Nat} {f d : Addr} {oc : Value} {od : Option Addr} {osl : Array (Option Value)} {name qual : Str} {params : Arguments} {body : List Stmt} {scope : Scope} {dV kV doc pm cdv ct : Value} {an : Option Addr} {args : List AV} {P : AV → Prop} {σ0 : St} {names vars globs : List Str}
    (hk : (KK w).lookup f = some ⟨oc, od, .func (fnOf name qual params body scope dV kV doc pm an cdv ct), osl⟩) (hcd : codeIn (KK w) cdv qual = true)
    (hbind : ∀ vs : List Value, vs.length = args.length + 1 → bindArgs (fnOf name qual params body scope dV kV doc pm an cdv ct) ⟨vs, []⟩ = pure (names.zip vs))
    (hnm : ∃ more, vars = names ++ more) (hlen : names.length = args.length + 1) (hσ : σ0 = some (.r d) :: (args.map (fun a => some (.v a)) ++ List.replicate (vars.length - names.length) none))
    (hnod : vars.Nodup) (hl : (vars.all fun x => decide (scope.names.lookup x = some .local) && !(x == ("__debug__" : Str))) = true)
    (hg : (globs.all fun x => decide (scope.names.lookup x = some .globalImplicit) && !(x == ("__debug__" : Str)) && !(x == ("__name__" : Str))) = true)
    (hco : scope.isCoroutine = false) (hgen : scope.isGenerator = false) (hkd : scope.kind = .function) (hcell : ∀ x ∈ scope.names, x.2 ≠ .cell)
    (h : ∀ F : Fm vars globs, F.env.scope = scope → XsD w F [] d n body σ0 (Rt P)) : ClD w (n + 1) f d args P := fun A s z vs o r c l hz hd ho rs => by
  have hlv := rs.length
  refine callRaw (σ0 := σ0) (sls := .r d :: args.map .v) (mt := [d]) (res := [(d, o)]) hk hcd (fun us hu => hbind us (by simpa using hu)) hnm (by simpa using hlen) (by rw [hσ]; simp [List.map_map, Function.comp_def]) hnod hl hg hco hgen hkd hcell r c l (by simpa using hlv) ?_ ?_ ?_ (by simp) ?_
  · intro i v sl hi hs
    cases i with
    | zero => simp at hi hs; subst hi hs; exact rfl
    | succ i =>
      simp only [List.getElem?_cons_succ] at hi hs
      obtain ⟨a, ha, ra⟩ := rs.get' i v hi
      rw [List.getElem?_map, ha] at hs
      cases hs
      exact ra
  · intro b hb
    rw [List.mem_singleton.mp hb]
    exact ⟨hz, o, hd⟩
  · intro p hp
    rw [List.mem_singleton.mp hp]
    exact ⟨hd, .head _⟩
  · intro F hF hmt h0 z0 hos hgs A' s' r' j
    refine wpAny_mono (h F hF z A' s' o r' ho j) (fun fl s2 hh => ?_) fun _ _ e => e
    obtain ⟨o2, z2, σ2, ho2, l2, j2, a, fr, q⟩ := hh
    have post : DeckO o2 ∧ s2.heap.get? d = some o2 ∧ (∀ b x, b ≠ d → s.heap.get? b = some x → s2.heap.get? b = some x) ∧ Le z z2 ∧ Le z2 s2.heap ∧
        (∀ b x, z2.get? b = some x → z.get? b = some x ∨ s.heap.get? b = none) ∧ s2.os = s.os ∧ s2.gens = s.gens ∧ z2.get? d = none := by
      refine ⟨ho2, (j2.rs (d, o2) (.head _)).1, fun b x hb e => j2.kp b x (by rw [hmt]; simpa using hb) (by rw [h0]; exact e), l2, j2.sub, fun b x e => ?_, j2.os.trans hos, j2.gens.trans hgs, (j2.rs (d, o2) (.head _)).2.1⟩
      have := j2.frz b x e
      rw [z0, h0] at this
      exact this
    obtain ⟨p1, p2, p3, p4, p5, p6, p7, p8, p9⟩ := post
    cases fl <;> cases a <;> first
      | exact fr.elim
      | exact ⟨o2, z2, .none, p1, p2, p3, p4, p5, p6, p7, p8, p9, rfl, q⟩
      | exact ⟨o2, z2, _, p1, p2, p3, p4, p5, p6, p7, p8, p9, fr, q⟩
end Fil
namespace Fil
section
variable {w : World} {V G : List Str} {F : Fm V G} {res : List (Addr × Obj)} {n : Nat} {z z' : Heap} {σ σ' σ1 σ2 : St} {s s' : Shared} {d : Addr}
noncomputable def EvD (w : World) {V G : List Str} (F : Fm V G) (res : List (Addr × Obj)) (d : Addr) (n : Nat) (e : Expr) (σ : St) (P : AV → St → Prop) : Prop :=
  ∀ z A s o, Room n A → DeckO o → J w F ((d, o) :: res) z σ s → wpAny (MM w) A (eval e F.env) (fun v s' => ∃ o' z' σ', DeckO o' ∧ Le z z' ∧ J w F ((d, o') :: res) z' σ' s' ∧ ∃ a, Rep z' v a ∧ P a σ') NoE s
/-- what a deck's call leaves -/
theorem J.turn {o o' : Obj} (j : J w F ((d, o) :: res) z σ s) (hk : ∀ b x, b ≠ d → s.heap.get? b = some x → s'.heap.get? b = some x) (hf : o'.isFreed = false) (hd : s'.heap.get? d = some o') (hz : Le z z') (hs : Le z' s'.heap)
    (hn : ∀ b x, z'.get? b = some x → z.get? b = some x ∨ s.heap.get? b = none) (os : s'.os = s.os) (gs : s'.gens = s.gens) : J w F ((d, o') :: res) z' σ s' := by
  have h0 := (j.rs (d, o) (.head _)).1
  have hself : (s.heap.update d fun _ => o').get? d = some o' := Heap.get?_update_self _ h0 hf
  have hoth : ∀ b, b ≠ d → (s.heap.update d fun _ => o').get? b = s.heap.get? b := fun b hb => Heap.get?_update_other _ _ (Ne.symm hb)
  have j1 := J.updRes (h' := s.heap.update d fun _ => o') (tk := s.toks) j (fun b x hb e => (hoth b hb).trans e) hself
  refine J.grow (s' := s') j1 (fun b x e => ?_) hz hs (fun b x e => ?_) os gs
  · by_cases hb : b = d
    · subst hb
      have e : (s.heap.update b fun _ => o').get? b = some x := e
      rw [hself] at e; cases e; exact hd
    · exact hk b x hb ((hoth b hb).symm.trans e)
  · rcases hn b x e with h | h
    · exact .inl h
    · refine .inr ?_
      have hb : b ≠ d := fun q => by rw [q] at h; rw [h] at h0; cases h0
      exact (hoth b hb).trans h
theorem DeckO.notFreed {o : Obj} (h : DeckO o) : o.isFreed = false := by obtain ⟨vs, k, rfl, _⟩ := h; rfl
theorem EvD.lift {e : Expr} {P : AV → St → Prop} (h : ∀ vs k, DeckV vs → Ev w F ((d, lOf vs k) :: res) n e σ P) : EvD w F res d n e σ P := fun z A s o r ⟨vs, k, e, hv⟩ j => by
  subst e
  exact wpAny_mono (h vs k hv z A s r j) (fun f s' ⟨z', σ', l, j', a, q⟩ => ⟨_, z', σ', ⟨vs, k, rfl, hv⟩, l, j', a, q⟩) fun _ _ e => e
/-- a call that writes the deck -/
theorem EvD.call {x : Str} {f : Addr} {en e : Expr} {p pos : Pos} {P : AV → St → Prop} (hg : x ∈ F.globs) (hb : GlobD w x f)
    (hn : ∀ vs k z, DeckV vs → Wp w F ((d, lOf vs k) :: res) n z σ (eval en F.env) fun _ v σ' => v = .ref d ∧ σ' = σ)
    (h : ∀ vs k, DeckV vs → Ev w F ((d, lOf vs k) :: res) n e σ fun a σ1 => ClD w n f d [a] fun r => P r σ1)
    (he : starEach [en, e] F.env = [(false, eval en F.env), (false, eval e F.env)] := by rfl) :
    EvD w F res d n (.Call (.Name x p) [en, e] [] pos) σ P := fun z A s o r ⟨vs, k, eo, hv⟩ j => by
  subst eo
  obtain ⟨hb, oc, od, fd, osl, hk⟩ := hb
  refine Eq.mpr (congrArg (fun m => wpAny (MM w) A m _ NoE s) (arm_eval_Call_Name' ..)) (wpAny_bind (loadG j hg hb ?_))
  rw [show backTo pos (starEach [en, e] F.env) = [(false, eval en F.env), (false, eval e F.env)] by rw [he]; rfl]
  refine Calls.callWith_function (o := ⟨oc, od, .func fd, osl⟩) (fd := fd) (Calls.evalArgs_plain (Calls.spliced_cons (wpAny_mono (hn vs k z hv A s r j) (fun v s1 hh => ?_) fun _ _ e => e)))
  obtain ⟨z1, σ1, l1, j1, rfl, rfl⟩ := hh
  refine Calls.spliced_cons (wpAny_mono (h vs k hv z1 A s1 r j1) (fun v s2 hh => Calls.spliced_nil ?_) fun _ _ e => e)
  obtain ⟨z2, σ2, l2, j2, a, ra, hc⟩ := hh
  obtain ⟨h1, h2, _, _⟩ := j2.rs (d, lOf vs k) (.head _)
  refine ⟨⟨j2.cxh.k _ _ hk, rfl⟩, wpAny_mono (hc A s2 z2 [v] _ r j2.cx j2.sub h2 h1 ⟨vs, k, rfl, hv⟩ (.one ra)) (fun v s3 hh => ?_) fun _ _ e => e⟩
  obtain ⟨o', z3, b, p1, p2, p3, p4, p5, p6, p7, p8, p9, p10, p11⟩ := hh
  exact ⟨o', z3, σ2, p1, (l1.trans l2).trans p4, j2.turn p3 p1.notFreed p2 p4 p5 p6 p7 p8, b, p10, p11⟩
/-- an item, at an index that writes the deck -/
theorem EvD.index {value slice : Expr} {pos : Pos} {P : AV → St → Prop} (h : ∀ vs k, DeckV vs → Ev w F ((d, lOf vs k) :: res) n value σ fun a σ1 => EvD w F res d n slice σ1 fun b σ2 => ∃ c, IdxV a b c ∧ P c σ2)
    (hs : ∀ o i, subscripted slice false o i = PySem.operate [o, i] (getItem o i) := by intro _ _; rfl) : EvD w F res d n (.Subscript value slice pos) σ P := fun z A s o r ⟨vs, k, eo, hv⟩ j => by
  subst eo
  show wpAny (MM w) A (do let o ← eval value F.env; let i ← PySem.holding [o] (eval slice F.env); standAt pos; subscriptTail value slice o i) _ NoE s
  refine wpAny_bind (wpAny_mono (h vs k hv z A s r j) (fun v s1 hh => ?_) fun _ _ e => e)
  obtain ⟨z1, σ1, l1, j1, a, ra, h2⟩ := hh
  refine wpAny_bind (wpAny_holding (wpAny_mono (h2 z1 A s1 _ r ⟨vs, k, rfl, hv⟩ j1) (fun i s2 hh => ?_) fun _ _ e => e))
  obtain ⟨o2, z2, σ2, ho2, l2, j2, b, rb, c, hc, hp⟩ := hh
  refine wpAny_bind (wpAny_standAt (wpAny_mono (hc w V G F ((d, o2) :: res) n z2 σ2 value slice _ _ (fun z' v σ' => ∃ a, Rep z' v a ∧ P a σ') (Rep.mono l2 _ ra) rb hs (fun _ _ _ rc => ⟨c, rc, hp⟩) A _ r j2) (fun v s3 hh => ?_) fun _ _ e => e))
  obtain ⟨z3, σ3, l3, j3, q⟩ := hh
  exact ⟨o2, z3, σ3, ho2, (l1.trans l2).trans l3, j3, q⟩
theorem XD.ret {e : Expr} {pos : Pos} {P : Fl → St → Prop} (h : EvD w F res d n e σ fun a σ1 => P (.ret a) σ1) : XD w F res d n (.Return (some e) pos) σ P := fun z A s o r ho j => by
  show wpAny (MM w) A (do standAt pos; let v ← eval e F.env; pure (Flow.ret v)) _ NoE s
  refine wpAny_bind (wpAny_standAt (wpAny_bind (wpAny_mono (h z A s o r ho j) (fun v s1 hh => ?_) fun _ _ e => e)))
  obtain ⟨o1, z1, σ1, ho1, l1, j1, a, ra, q⟩ := hh
  exact wpAny_pure ⟨o1, z1, σ1, ho1, l1, j1, .ret a, ra, q⟩
end
end Fil
namespace Fil
theorem BinV.pow {i k : Int} (h : 0 ≤ k ∧ k ≤ 1000 ∧ i.natAbs < 2 ^ 64) : BinV .Pow (.int i) (.int k) (.int (i ^ k.toNat)) := fun _ _ _ _ _ _ z _ _ _ _ ⟨_, e⟩ ⟨_, e'⟩ hq _ _ _ j => by
  subst e e'; exact pow_int_small h.1 (by omega) h.2.2 (.toks j (hq z _ (.refl z) ⟨_, rfl⟩) _)
/-- a def that hands back a deck of its own -/
noncomputable def ClN (w : World) (n : Nat) (f : Addr) (args : List AV) : Prop :=
  ∀ A s z vs, Room n A → Cx w z → Le z s.heap → Reps z vs args → wpAny (MM w) A (call (.ref f) vs) (fun v s' => ∃ d vs' k z', v = .ref d ∧ s.heap.get? d = none ∧ s'.heap.get? d = some (lOf vs' k) ∧ DeckV vs' ∧ Le s.heap s'.heap ∧ Le z z' ∧ Le z' s'.heap ∧
    z'.get? d = none ∧ (∀ b x, z'.get? b = some x → z.get? b = some x ∨ s.heap.get? b = none) ∧ s'.os = s.os ∧ s'.gens = s.gens) NoE s
section
variable {w : World} {V G : List Str} {F : Fm V G} {res : List (Addr × Obj)} {n : Nat} {z z' : Heap} {σ σ' σ1 σ2 : St} {s s' : Shared}
theorem execsStep {A : Around} {st : Stmt} {rest : List Stmt} {R : St → Prop} {Q : Flow → Shared → Prop} (r : Room n A) (j : J w F res z σ s) (h : Ex w F res n st σ (fun f σ' => f = .next ∧ R σ'))
    (h2 : ∀ z' σ' s', Le z z' → R σ' → J w F res z' σ' s' → wpAny (MM w) A (execs rest F.env) Q NoE s') : wpAny (MM w) A (execs (st :: rest) F.env) Q NoE s := by
  refine Eq.mpr (congrArg (fun m => wpAny (MM w) A m _ NoE s) (execs_cons ..)) (wpAny_bind (wpAny_mono (h z A s r j) (fun f s1 hh => ?_) fun _ _ e => e))
  obtain ⟨z1, σ1, l1, j1, a, fr, rfl, q⟩ := hh
  cases f <;> first
    | exact fr.elim
    | exact h2 z1 σ1 s1 l1 q j1
theorem deckV_of {vs : Array Value} {l : List AV} (rs : Reps z vs.toList l) (h1 : 1 ≤ l.length) (h2 : l.length ≤ 64) (h : ∀ a ∈ l, ∃ i, a = .int i) : DeckV vs := by
  have hl := rs.length
  rw [Array.length_toList] at hl
  refine ⟨by omega, by omega, fun v hv => ?_⟩
  obtain ⟨i, hi⟩ := List.mem_iff_getElem?.mp hv
  obtain ⟨a, ha, ra⟩ := rs.get' i v hi
  obtain ⟨k, rfl⟩ := h a (List.mem_of_getElem? ha)
  obtain ⟨t, rfl⟩ := ra
  exact ⟨k, t, rfl⟩
theorem execsRetO {A : Around} {e : Expr} {pos : Pos} {P : List AV → Prop} {Q : Flow → Shared → Prop} (r : Room n A) (j : J w F res z σ s) (h : EvO w F res n e σ fun l _ => P l)
    (h2 : ∀ z' σ' s' d vs k l, Le z z' → J w F ((d, lOf vs k) :: res) z' σ' s' → Reps z' vs.toList l → P l → Q (.ret (.ref d)) s') : wpAny (MM w) A (execs [.Return (some e) pos] F.env) Q NoE s := by
  refine Eq.mpr (congrArg (fun m => wpAny (MM w) A m _ NoE s) (execs_cons ..)) (wpAny_bind ?_)
  show wpAny (MM w) A (do standAt pos; let v ← eval e F.env; pure (Flow.ret v)) _ NoE s
  refine wpAny_bind (wpAny_standAt (wpAny_bind (wpAny_mono (h z A s r j) (fun v s1 hh => ?_) fun _ _ e => e)))
  obtain ⟨z1, σ1, d, vs, k, l, l1, rfl, j1, rs, p⟩ := hh
  exact wpAny_pure (wpAny_pure (h2 z1 σ1 s1 d vs k l l1 j1 rs p))
end
end Fil
namespace Fil
/-- the state at the start of a frame that the head has made -/
theorem J.start {w : World} {V G : List Str} {env : Env} {h0 : Heap} {s : Shared} {m : Str → Option Value} {σ : St} {news : List (Addr × Obj)} (cx : Cx w h0) (hk : env.scope.kind = .function) (gl : env.globals = mainGlobals) (bl : env.builtins = builtinsNs)
    (nod : V.Nodup) (loc : ∀ x ∈ V, env.kindOf x = some .local ∧ (x == ("__debug__" : Str)) = false) (glo : ∀ x ∈ G, env.kindOf x = some .globalImplicit ∧ (x == ("__debug__" : Str)) = false ∧ x ≠ "__name__")
    (F : Fr h0 env.locals s.heap m) (N : News h0 env.locals s.heap news) (nn : (news.map (·.1)).Nodup) (len : σ.length = V.length)
    (hσ : ∀ (i : Nat) x sl, V[i]? = some x → σ[i]? = some (some sl) → ∃ v a, m x = some v ∧ sl = .v a ∧ Rep h0 v a) :
    J w (⟨env, h0, h0, [], s.os, s.gens⟩ : Fm V G) news h0 σ s := by
  have new : h0.get? env.locals = none := by
    cases q : h0.get? env.locals with
    | none => rfl
    | some x => exact absurd (Nat.lt_of_lt_of_le (Heap.lt_size q) F.above) (Nat.lt_irrefl _)
  refine ⟨⟨cx, .refl _, hk, gl, bl, nod, loc, glo, new, fun d hd => nomatch hd⟩, fun b o _ e => F.keep b o e, (fun b hb => nomatch hb), .refl _, F.keep, fun b o e => .inl e, new, fun p hp => ?_, nn,
    ⟨m, fun i => ((V[i]?).bind m).getD .none, F.ns, ⟨fun i x sl hi hs => ?_, fun i k l l' _ hi _ => ?_, len⟩⟩, rfl, rfl⟩
  · obtain ⟨a, b, c⟩ := N p hp
    exact ⟨a, c, b, .inl c⟩
  · obtain ⟨v, a, e, rfl, ra⟩ := hσ i x sl hi hs
    have hi : V[i]? = some x := hi
    refine ⟨by rw [e, hi]; simp [e], ?_⟩
    show Rep h0 _ a
    rw [hi]
    simpa [e] using ra
  · have hi : σ[i]? = some (some (.o l)) := hi
    have hlt : i < V.length := by
      have := (List.getElem?_eq_some_iff.mp hi).1
      omega
    obtain ⟨v, a, _, e, _⟩ := hσ i V[i] (.o l) (List.getElem?_eq_getElem hlt) hi
    cases e
section
variable {w : World} {V G : List Str} {F : Fm V G} {res : List (Addr × Obj)} {n : Nat} {z z' : Heap} {σ σ' σ1 σ2 : St} {s s' : Shared} {d : Addr}
theorem EvD.mono {e : Expr} {P P' : AV → St → Prop} (h : EvD w F res d n e σ P) (hp : ∀ a σ', P a σ' → P' a σ') : EvD w F res d n e σ P' := fun z A s o r ho j =>
  wpAny_mono (h z A s o r ho j) (fun v s' ⟨o', z', σ', p1, p2, p3, a, p4, p5⟩ => ⟨o', z', σ', p1, p2, p3, a, p4, hp _ _ p5⟩) fun _ _ e => e
/-- a sum whose right part writes the deck -/
theorem EvD.bin {l r : Expr} {op : Operator} {pos : Pos} {P : AV → St → Prop} (h : EvD w F res d n l σ fun a σ1 => EvD w F res d n r σ1 fun b σ2 => ∃ c, BinV op a b c ∧ P c σ2) : EvD w F res d n (.BinOp l op r pos) σ P := fun z A s o rm ho j => by
  refine wpAny_BinOp (wpAny_mono (h z A s o rm ho j) (fun v s1 hh => ?_) fun _ _ e => e)
  obtain ⟨o1, z1, σ1, ho1, l1, j1, a, ra, h2⟩ := hh
  refine wpAny_mono (h2 z1 A s1 o1 rm ho1 j1) (fun v2 s2 hh => ?_) fun _ _ e => e
  obtain ⟨o2, z2, σ2, ho2, l2, j2, b, rb, c, hc, hp⟩ := hh
  refine wpAny_mono (hc w V G F ((d, o2) :: res) n z2 σ2 _ _ (fun z' v σ' => ∃ a, Rep z' v a ∧ P a σ') (Rep.mono l2 _ ra) rb (fun _ _ _ rc => ⟨c, rc, hp⟩) A _ rm j2) (fun v3 s3 hh => ?_) fun _ _ e => e
  obtain ⟨z3, σ3, l3, j3, q⟩ := hh
  exact ⟨o2, z3, σ3, ho2, (l1.trans l2).trans l3, j3, q⟩
theorem XD.assign {x : Str} {e : Expr} {p pos : Pos} {P : Fl → St → Prop} (h : EvD w F res d n e σ fun a σ1 => ∃ σ2, Put F.vars σ1 x (.v a) σ2 ∧ P .next σ2)
    (hs : swapsWith e (some (.Name x p)) pos.line F.env = pure false := by rfl) : XD w F res d n (.Assign [.Name x p] e pos) σ P := fun z A s o r ho j => by
  refine wpAny_Assign_Name (wpAny_mono (h z A s o r ho j) (fun v s1 hh => ?_) fun _ _ e => e) hs
  obtain ⟨o1, z1, σ1, ho1, l1, j1, a, ra, σ2, hp, q⟩ := hh
  exact J.storeName j1 hp ra (fun _ e => by cases e) fun s' j' => ⟨o1, z1, σ2, ho1, l1, j', .next, trivial, q⟩
end
end Fil
namespace Fil
section
variable {w : World} {V G : List Str} {F : Fm V G} {res : List (Addr × Obj)} {n : Nat} {z z' : Heap} {σ σ' σ1 σ2 : St} {s s' : Shared} {d : Addr}
/-- a for whose turns write the deck -/
theorem forWalkD {A : Around} {I : Addr} {fp : List Addr} {N : Nat} {Pv : Nat → Value → Prop} {S : Nat → Heap → Prop} {target : Expr} {body : List Stmt} {o od : Obj} {z₀ : Heap} {P : Fl → St → Prop} (r : Room n A)
    (W : Walks PySem.Challenge.rw_on0065_01.row.prog w A I fp [I] N Pv S) (hfp : ∀ b ∈ fp, b = I) (hS : ∀ i h, S i h → ∃ o, h.get? I = some o) (hod : DeckO od)
    (j : J w F ((I, o) :: (d, od) :: res) z σ s) (hs0 : S 0 s.heap) (hz : Le z₀ z) (Inv : Nat → St → Prop) (h0 : Inv 0 σ) (al : Nat → AV) (hv : ∀ i z v, Pv i v → Rep z v (al i))
    (turn : ∀ i σ p o, i < N → Inv i σ → As w F ((d, o) :: p :: res) n target (al i) σ fun σ1 => XsD w F (p :: res) d n body σ1 (Lp (Inv (i + 1)) P))
    (fin : ∀ σ, Inv N σ → P .next σ) (ht : ∀ v, letOwnedTupleGo target (.ref I) v = pure ()) (hIm : I ∉ F.mt) :
    codeAny (MM w) A (.forLoop target (.ref I) body [] F.env) (fun r s' => match r with | .ok f => (∃ o' z' σ', DeckO o' ∧ Le z₀ z' ∧ J w F ((d, o') :: res) z' σ' s' ∧ ∃ a, FlRep z' f a ∧ P a σ') | .error e => cameBackBy (MM w) A F.env NoE e s') s := by
  refine codeAny_forLoop (fun k s' => ∃ i z' σ' o' od', i ≤ N ∧ k = N - i ∧ Le z z' ∧ DeckO od' ∧ J w F ((I, o') :: (d, od') :: res) z' σ' s' ∧ S i s'.heap ∧ Inv i σ') (fun k s' hI => ?_) N ⟨0, z, σ, o, od, Nat.zero_le _, rfl, .refl z, hod, j, hs0, h0⟩ ht
  obtain ⟨i, z1, σ1, o1, od1, hi, rfl, l1, hod1, j1, hS1, hv1⟩ := hI
  by_cases hlt : i < N
  · refine W.item i s' _ _ hlt hS1 fun v h' tk hP hS2 hk => ?_
    obtain ⟨o2, ho2⟩ := hS _ _ hS2
    have j2 := J.swapRes (j1.updRes (tk := tk) (fun b x hb e => hk b x (by simpa using hb) e) ho2)
    refine wpAny_mono (turn i σ1 (I, o2) od1 hlt hv1 z1 v (hv i z1 v hP) A _ r j2) (fun _ s3 hh => ?_) fun _ _ e => e.elim
    obtain ⟨z3, σ3, l3, j3, q⟩ := hh
    refine wpAny_mono (q z3 A s3 od1 r hod1 j3) (fun f s4 hh => ?_) fun _ _ e => e.elim
    obtain ⟨od4, z4, σ4, hod4, l4, j4, a, fr, q⟩ := hh
    have l := (l1.trans l3).trans l4
    have hS4 : S (i + 1) s4.heap := W.frame _ _ _ hS2 fun b hb x e => by
      rw [hfp b hb] at e ⊢
      have e : h'.get? I = some x := e
      rw [ho2] at e; cases e
      exact (j4.rs (I, o2) (.tail _ (.head _))).1
    cases f <;> cases a <;> first
      | exact fr.elim
      | exact ⟨N - (i + 1), by omega, i + 1, z4, σ4, o2, od4, hlt, rfl, l, hod4, j4.swapRes, hS4, q⟩
      | exact ⟨od4, z4, σ4, hod4, hz.trans l, j4.swapRes.dropRes, .next, trivial, q⟩
      | exact ⟨od4, z4, σ4, hod4, hz.trans l, j4.swapRes.dropRes, _, fr, q⟩
  · have hin : i = N := by omega
    subst hin
    refine W.done s' _ _ hS1 fun h' tk hk => ?_
    have keep : ∀ b x, b ≠ I → s'.heap.get? b = some x → h'.get? b = some x := fun b x hb e => hk b x (by simpa using hb) e
    have j5 : J w F ((d, od1) :: res) z1 σ1 { s' with heap := h', toks := tk } := j1.loseRes keep hIm
    exact wpAny_execs_nil ⟨od1, z1, σ1, hod1, hz.trans l1, j5, .next, trivial, fin _ hv1⟩
theorem XD.forRange {target e : Expr} {p rpos : Pos} {body : List Stmt} {pos : Pos} {P : Fl → St → Prop} (hg : ("range" : Str) ∈ F.globs) (hb : GlobB w "range" (.type "range"))
    (h : EvD w F res d n e σ fun a σ1 => ∃ N : Nat, a = .int N ∧ N ≤ 2 ^ 30 ∧ ∃ Inv : Nat → St → Prop, Inv 0 σ1 ∧ (∀ i σ p o, i < N → Inv i σ → As w F ((d, o) :: p :: res) n target (.int i) σ fun σ1 => XsD w F (p :: res) d n body σ1 (Lp (Inv (i + 1)) P)) ∧ ∀ σ, Inv N σ → P .next σ)
    (he : starEach [e] F.env = [(false, eval e F.env)] := by rfl)
    (ht : ∀ it v, letOwnedTupleGo target it v = pure () := by intro _ _; rfl) : XD w F res d n (.For target (.Call (.Name "range" p) [e] [] rpos) body [] pos) σ P := fun z A s o r ho j => by
  refine wpAny_For ?_ (fun _ => rfl)
  refine wpAny_Call_Name_kw (loadB j hg hb ?_)
  rw [show backTo rpos (starEach [e] F.env) = [(false, eval e F.env)] by rw [he]; rfl]
  refine PyProof.Rows.callWith_type rfl (Calls.evalArgs_plain (Calls.spliced_cons (wpAny_mono (h z A s o r ho j) (fun v s1 hh => Calls.spliced_nil ?_) fun _ _ e => e)))
  obtain ⟨o1, z1, σ1, ho1, l1, j1, a, ra, N, rfl, hN, Inv, h0, turn, fin⟩ := hh
  obtain ⟨t, rfl⟩ := ra
  refine call_range_1 ?_
  refine wpAny_pyIter_range (IsRange.new ..) (small_one (by decide) (by decide) (by omega) (by omega)) ?_
  obtain ⟨z2, l2, j2, _⟩ := (j1.toks (s1.toks + 1 + 1)).push { cls := .type "range", data := .fields #[.int 0 s1.toks, .int N t, .int 1 (s1.toks + 1)] } rfl
  have hsz : Builtin.Range.rangeSize 0 N 1 = (N : Int) := by rw [rangeSize_one]; split <;> omega
  refine forWalkD r (Walks.range r.hd _ 0 1 N) (fun b hb => by simpa using hb) (fun i h hS => ⟨_, hS⟩) ho1 (j2.pushRes _ rfl) ?_ (l1.trans l2) Inv h0 (fun i => .int i) (fun i z v ⟨t, e⟩ => ⟨t, by rw [e]; simp⟩) turn fin (ht _) j2.newNotMt
  have e1 : (0 + ((0 : Nat) : Int) * 1) = 0 := by simp
  have e2 : ((N : Int) - ((0 : Nat) : Int)) = Builtin.Range.rangeSize 0 N 1 := by rw [hsz]; simp
  rw [e1, e2]
  exact Heap.get?_push_size _ rfl
end
end Fil
namespace Fil
section
variable {w : World} {V G : List Str} {F : Fm V G} {res : List (Addr × Obj)} {n : Nat} {z z' : Heap} {σ σ' σ1 σ2 : St} {s s' : Shared} {d : Addr}
/-- the name of a cell -/
theorem Wp.nameC {x : Str} {pos : Pos} {c : Addr} {o : Obj} (hk : F.env.kindOf x = some .cell) (hdb : (x == ("__debug__" : Str)) = false) (hc : F.env.cells.lookup x = some c) (hm : (c, o) ∈ res) (hd : o.data = .cell (some (.ref d))) :
    Wp w F res n z σ (eval (.Name x pos) F.env) fun _ v σ' => v = .ref d ∧ σ' = σ := fun A s r j =>
  wpAny_Name (wpAny_loadName_cell j.ok.kind hk hc ⟨o, (j.rs _ hm).1, hd⟩ (.here j ⟨rfl, rfl⟩)) hdb
/-- what a call has made is reserved -/
theorem J.growN {o : Obj} (j : J w F res z σ s) (hm : F.mt = []) (hk : Le s.heap s'.heap) (hz : Le z z') (hs : Le z' s'.heap) (hn : ∀ b x, z'.get? b = some x → z.get? b = some x ∨ s.heap.get? b = none) (os : s'.os = s.os) (gs : s'.gens = s.gens)
    (hd0 : s.heap.get? d = none) (hd : s'.heap.get? d = some o) (hzd : z'.get? d = none) : J w F ((d, o) :: res) z' σ s' := by
  have j1 := j.grow (s' := s') hk hz hs hn os gs
  have dL : d ≠ F.env.locals := fun e => by
    obtain ⟨m, val, ⟨x, _, _, hx, _⟩, _⟩ := j.loc
    rw [← e, hd0] at hx; cases hx
  have h00 : F.h0.get? d = none := by
    cases q : F.h0.get? d with
    | none => rfl
    | some x => have := j.kp d x (by rw [hm]; exact List.not_mem_nil) q; rw [hd0] at this; cases this
  obtain ⟨m0, val0, hns0, hl0⟩ := j.loc
  have hold : ∀ (i : Nat) x l, F.vars[i]? = some x → σ[i]? = some (some (.o l)) → val0 i ≠ .ref d := fun i x l hi hs e => by
    obtain ⟨_, d', vs, k, e1, e2, _⟩ := hl0.at_ i x _ hi hs
    rw [e1] at e; cases e
    have e2 : s.heap.get? d = some _ := e2
    rw [hd0] at e2; cases e2
  have hLn : s'.heap.Ns F.env.locals m0 := hns0.keeps hk
  refine ⟨j1.ok, j1.kp, j1.mte, j1.z0, j1.sub, j1.frz, j1.zL, fun p hp => ?_, ?_, ⟨m0, val0, hLn, ⟨fun i x sl hi hs => ?_, hl0.apart, hl0.len⟩⟩, j1.os, j1.gens⟩
  · rcases List.mem_cons.mp hp with rfl | hp
    · exact ⟨hd, hzd, dL, .inl h00⟩
    · exact j1.rs p hp
  · refine List.nodup_cons.mpr ⟨fun h => ?_, j1.rnd⟩
    obtain ⟨p, hp, e⟩ := List.mem_map.mp h
    have := (j.rs p hp).1
    rw [e, hd0] at this; cases this
  · obtain ⟨e, q⟩ := hl0.at_ i x sl hi hs
    refine ⟨e, ?_⟩
    cases sl with
    | v a => exact Rep.mono hz a q
    | o l =>
      obtain ⟨d', vs, k, e1, e2, e3, e4, e5, e6, e7⟩ := q
      have e2 : s.heap.get? d' = some (lOf vs k) := e2
      have hne : d' ≠ d := fun h => by rw [h, hd0] at e2; cases e2
      refine ⟨d', vs, k, e1, hk _ _ e2, Reps.mono hz l e3, ?_, e5, fun p hp => ?_, e7⟩
      · cases q2 : z'.get? d' with
        | none => rfl
        | some x =>
          rcases hn _ _ q2 with h | h
          · rw [e4] at h; cases h
          · rw [e2] at h; cases h
      · rcases List.mem_cons.mp hp with rfl | hp
        · exact Ne.symm hne
        · exact e6 p hp
    | r d' => exact q
/-- the deck is made and goes into its cell -/
theorem deckAssign {A : Around} {x f y : Str} {fa c : Addr} {o : Obj} {v0 : Option Value} {p pf q cpos pos : Pos} {ns : List Int} {Q : Flow → Shared → Prop} (r : Room n A) (j : J w F ((c, o) :: res) z σ s) (hmt : F.mt = [])
    (ho : o.data = .cell v0) (hk : F.env.kindOf x = some .cell) (hc : F.env.cells.lookup x = some c) (hg : f ∈ F.globs) (hb : GlobD w f fa) (hy : Look F.vars σ y (.v (iL ns))) (hN : ClN w n fa [iL ns])
    (h : ∀ z' s' d vs k o', Le z z' → DeckV vs → o'.data = .cell (some (.ref d)) → J w F ((d, lOf vs k) :: (c, o') :: res) z' σ s' → Q .next s')
    (he : starEach [Expr.Name y q] F.env = [(false, eval (.Name y q) F.env)] := by rfl)
    (hs : swapsWith (.Call (.Name f pf) [.Name y q] [] cpos) (some (.Name x p)) pos.line F.env = pure false := by rfl) :
    wpAny (MM w) A (exec (.Assign [.Name x p] (.Call (.Name f pf) [.Name y q] [] cpos) pos) F.env) Q NoE s := by
  obtain ⟨hb, oc, od, fd, osl, hkf⟩ := hb
  refine wpAny_Assign_Name ?_ hs
  refine Eq.mpr (congrArg (fun m => wpAny (MM w) A m _ NoE s) (arm_eval_Call_Name' ..)) (wpAny_bind (loadG j hg hb ?_))
  rw [show backTo cpos (starEach [Expr.Name y q] F.env) = [(false, eval (.Name y q) F.env)] by rw [he]; rfl]
  refine Calls.callWith_function (o := ⟨oc, od, .func fd, osl⟩) (fd := fd) (Calls.evalArgs_plain (Calls.spliced_cons (wpAny_mono (Ev.name (P := fun a σ' => a = iL ns ∧ σ' = σ) hy ⟨rfl, rfl⟩ z A s r j) (fun v s1 hh => Calls.spliced_nil ?_) fun _ _ e => e)))
  obtain ⟨z1, σ1, l1, j1, a, ra, rfl, rfl⟩ := hh
  refine ⟨⟨j1.cxh.k _ _ hkf, rfl⟩, wpAny_mono (hN A s1 z1 [v] r j1.cx j1.sub (.one ra)) (fun v s2 hh => ?_) fun _ _ e => e⟩
  obtain ⟨d, vs, k, z2, rfl, p1, p2, p3, p4, p5, p6, p7, p8, p9, p10⟩ := hh
  have j2 := (j1.growN (d := d) hmt p4 p5 p6 p8 p9 p10 p1 p2 p7).swapRes
  refine wpAny_storeName_cell j2.ok.kind hk hc ⟨o, (j2.rs (c, o) (.head _)).1, ho⟩ fun h' hcell hsb => ?_
  obtain ⟨o', ho', hdat⟩ := hcell
  have j3 := (J.updRes (tk := s2.toks) j2 (fun b x hb e => (hsb.2 b hb).trans e) ho').swapRes
  exact h z2 _ d vs k o' (l1.trans p5) p3 hdat j3
end
end Fil
namespace Fil
section
variable {w : World} {V G : List Str} {F : Fm V G} {res : List (Addr × Obj)} {n : Nat} {z z' : Heap} {σ σ' σ1 σ2 : St} {s s' : Shared} {d : Addr}
theorem eraseDups_three {x y u : Str} (h1 : x ≠ y) (h2 : x ≠ u) (h3 : y ≠ u) : [x, y, u].eraseDups.length = 3 := by
  have a : (y == x) = false := by simpa using Ne.symm h1
  have b : (u == x) = false := by simpa using Ne.symm h2
  have c : (u == y) = false := by simpa using Ne.symm h3
  simp [List.eraseDups, List.eraseDupsBy, List.eraseDupsBy.loop, a, b, c]
theorem swapped_three {env : Env} {x y u : Str} {p q q3 tp vp : Pos} {k k2 : Nat} {e1 e2 e3 : Expr} (hk : env.scope.kind = .function) (hx : env.kindOf x = some .local) (hy : env.kindOf y = some .local) (hu : env.kindOf u = some .local) (h12 : x ≠ y) (h13 : x ≠ u) (h23 : y ≠ u) (hl : p.line = q.line) (hl2 : p.line = q3.line)
    (h1 : ∀ v p, e1 ≠ .Starred v p) (h1' : ∀ v p, e2 ≠ .Starred v p) (h1'' : ∀ v p, e3 ≠ .Starred v p) (h2 : [e1, e2, e3].all (foldedForSure 8) = false) (h3 : [e1, e2, e3].all (constantsAlone 8) = false) :
    swappedStores [.Tuple [.Name x p, .Name y q, .Name u q3] k tp] (.Tuple [e1, e2, e3] k2 vp) env = pure (some [x, y, u]) := by
  unfold swappedStores
  have hb : env.blockKind = .function := by unfold Env.blockKind; rw [hk]; rfl
  have he := eraseDups_three h12 h13 h23
  have hl3 : q.line = q3.line := by rw [← hl, hl2]
  simp [hb, hx, hy, hu, hl, hl3, h2, h3, List.filterMap, Expr.pos, he]
/-- two values and a new list, for three names -/
theorem XD.three {x y u : Str} {p q q3 tp vp lp pos : Pos} {k k2 : Nat} {e1 e2 : Expr} {P : Fl → St → Prop}
    (h : EvD w F res d n e1 σ fun a σ1 => EvD w F res d n e2 σ1 fun b σ2 => ∃ σ3 σ4 σ5, Put F.vars σ2 u (.o []) σ3 ∧ Put F.vars σ3 y (.v b) σ4 ∧ Put F.vars σ4 x (.v a) σ5 ∧ P .next σ5)
    (mx : x ∈ F.vars) (my : y ∈ F.vars) (mu : u ∈ F.vars) (h12 : x ≠ y) (h13 : x ≠ u) (h23 : y ≠ u)
    (h1 : ∀ v p, e1 ≠ .Starred v p) (h1' : ∀ v p, e2 ≠ .Starred v p) (hf : [e1, e2, .List [] lp].all (foldedForSure 8) = false) (hcs : [e1, e2, .List [] lp].all (constantsAlone 8) = false)
    (hl : p.line = q.line := by rfl) (hl2 : p.line = q3.line := by rfl)
    (hsl : starEach [e1, e2, .List [] lp] F.env = [(false, eval e1 F.env), (false, eval e2 F.env), (false, eval (.List [] lp) F.env)] := by rfl) :
    XD w F res d n (.Assign [.Tuple [.Name x p, .Name y q, .Name u q3] k tp] (.Tuple [e1, e2, .List [] lp] k2 vp) pos) σ P := fun z A s o r ho j => by
  refine PyProof.Rows.Assign_Tuple_swapped ?_ rfl (swapped_three j.ok.kind (j.ok.loc x mx).1 (j.ok.loc y my).1 (j.ok.loc u mu).1 h12 h13 h23 hl hl2 h1 h1' (fun _ _ e => by cases e) hf hcs)
  show wpAny _ _ (do standAt vp; PySem.newTuple (← spliced (backTo vp (starEach [e1, e2, .List [] lp] F.env)))) _ _ _
  rw [show backTo vp (starEach [e1, e2, .List [] lp] F.env) = [(false, eval e1 F.env), (false, eval e2 F.env), (false, eval (.List [] lp) F.env)] by rw [hsl]; rfl]
  refine wpAny_bind (wpAny_standAt (wpAny_bind (Calls.spliced_cons (wpAny_mono (h z A s o r ho j) (fun v1 s1 hh => ?_) fun _ _ e => e))))
  obtain ⟨o1, z1, σ1, ho1, l1, j1, a, ra, hh⟩ := hh
  refine Calls.spliced_cons (wpAny_mono (hh z1 A s1 o1 r ho1 j1) (fun v2 s2 hh => ?_) fun _ _ e => e)
  obtain ⟨o2, z2, σ2, ho2, l2, j2, b, rb, σ3, σ4, σ5, p3, p4, p5, hp⟩ := hh
  refine Calls.spliced_cons ?_
  show wpAny _ _ (do standAt lp; PySem.newList (← spliced [])) _ _ _
  refine wpAny_bind (wpAny_standAt (wpAny_bind (Calls.spliced_nil (wpAny_newList ?_ (Nat.zero_le _)))))
  refine Calls.spliced_nil ?_
  have j3 := j2.pushRes (lOf #[] 0) rfl
  refine wpAny_newTuple ?_ (by rw [sizeLine_eq]; simp)
  obtain ⟨z3, l3, j4, e3⟩ := j3.push (tupOf #[v1, v2, .ref s2.heap.objs.size] 0) rfl
  refine unpackItems_tuple (items := #[v1, v2, .ref s2.heap.objs.size]) r.hd ⟨_, Heap.get?_push_size _ rfl, rfl, 0, rfl⟩ fun h' he => ?_
  have j5 := j4.extBut (tk := s2.toks) he
  show wpAny _ _ (assignInOrder [bindName F.env u, bindName F.env y, bindName F.env x] [.ref s2.heap.objs.size, v2, v1]) _ _ _
  refine assignInOrder_cons (wpAny_bindName ?_)
  obtain ⟨i3, a3, b3⟩ := p3.at
  obtain ⟨m5, val5, hn5, hl5⟩ := j5.loc
  have hi3 : i3 < σ2.length := by rw [hl5.len]; exact (List.getElem?_eq_some_iff.mp a3).1
  refine wpAny_storeName_local (j.ok.loc u mu).1 hn5 (fun h6 hn6 hs6 => ?_) (by rw [j.ok.kind]; rfl)
  have j6 := j5.store (tk := s2.toks + 1) (sl := .r s2.heap.objs.size) hl5 a3 hn6 hs6 rfl fun k l l' _ e => by cases e
  have j7 : J w F ((d, o2) :: res) z3 σ3 _ := j6.giveAt (l := []) a3 (List.getElem?_set_self hi3) (by rw [b3, List.set_set]) rfl
  refine assignInOrder_cons (wpAny_bindName (J.storeName j7 p4 (Rep.mono l3 _ rb) (fun _ e => by cases e) fun s8 j8 => ?_))
  refine assignInOrder_cons (wpAny_bindName (J.storeName j8 p5 (Rep.mono (l2.trans l3) _ ra) (fun _ e => by cases e) fun s9 j9 => ?_))
  exact assignInOrder_nil ⟨o2, z3, σ5, ho2, (l1.trans l2).trans l3, j9, .next, trivial, hp⟩
end
end Fil
namespace Fil
section
variable {w : World} {V G : List Str} {F : Fm V G} {res : List (Addr × Obj)} {n : Nat} {z z' : Heap} {σ σ' σ1 σ2 : St} {s s' : Shared} {d : Addr}
theorem XD.append {x : Str} {e : Expr} {px apos cpos epos : Pos} {l : List AV} {P : Fl → St → Prop} (hl : Look F.vars σ x (.o l))
    (h : ∀ dl o, ∃ σr, Put F.vars σ x (.r dl) σr ∧ EvD w F ((dl, o) :: res) d n e σr fun a σ1 => Look F.vars σ1 x (.r dl) ∧ l.length < 2 ^ 23 ∧ ∃ σ2, Put F.vars σ1 x (.o (l ++ [a])) σ2 ∧ P .next σ2)
    (he : starEach [e] F.env = [(false, eval e F.env)] := by rfl) (hline : (apos.endLine == cpos.line) = true := by rfl) :
    XD w F res d n (.Expr (.Call (.Attribute (.Name x px) "append" apos) [e] [] cpos) epos) σ P := fun z A s o r ho j => by
  obtain ⟨dl, vs, k, rs, ⟨m, hn, hm⟩, hd, take⟩ := j.takeO hl
  obtain ⟨σr, hp, h⟩ := h dl (lOf vs k)
  have j1 := (take σr hp).swapRes
  refine listMeth j.ok.kind (j.ok.loc x hl.mem).1 (j.ok.loc x hl.mem).2 hn hm hd PySem.F.slot_list_append PySem.F.type_list_append ?_ hline (by rw [he]; rfl)
  rw [show backTo cpos (starEach [e] F.env) = [(false, eval e F.env)] by rw [he]; rfl]
  refine Calls.callWith_builtin rfl (Calls.evalArgs_plain (Calls.spliced_cons (wpAny_mono (h z A s o r ho j1) (fun v s1 hh => Calls.spliced_nil ?_) fun _ _ e => e)))
  obtain ⟨o1, z1, σ1, ho1, l1, j2, a, ra, hr, hlt, σ2, hp2, q⟩ := hh
  have hsz : vs.size = l.length := by have := rs.length; rwa [Array.length_toList] at this
  have j2' := j2.swapRes
  refine append_at (j2'.rs (dl, lOf vs k) (.head _)).1 (fun h' hs hd' => ⟨rfl, ?_⟩) (by rw [sizeLine_eq]; omega)
  have j3 := j2'.updRes (tk := s1.toks) (fun b o hb e => (hs.2 b hb).trans e) hd'
  exact ⟨o1, z1, σ2, ho1, l1, j3.giveO hr hp2 (by rw [Array.toList_push]; exact (Reps.mono l1 _ rs).append (.one ra)), .next, trivial, q⟩
end
end Fil
namespace Fil
section
variable {w : World} {V G : List Str} {F : Fm V G} {res : List (Addr × Obj)} {n : Nat} {z z' : Heap} {σ σ' σ1 σ2 : St} {s s' : Shared} {d : Addr}
theorem perm3 {α} (a b c : α) (l : List α) : (c :: a :: b :: l).Perm (a :: b :: c :: l) := (List.Perm.swap a c (b :: l)).trans (List.Perm.cons a (List.Perm.swap b c l))
/-- a comprehension's walk whose turns write the deck -/
theorem compWalkD {A : Around} {I D : Addr} {fp : List Addr} {N : Nat} {Pv : Nat → Value → Prop} {S : Nat → Heap → Prop} {elt target iter : Expr} {scope : Scope} {pos : Pos} {o od : Obj} {R : Result → Shared → Prop} (r : Room n A) (Pe : AV → Prop)
    (W : Walks PySem.Challenge.rw_on0065_01.row.prog w A I fp [I] N Pv S) (hfp : ∀ b ∈ fp, b = I) (hS : ∀ i h, S i h → ∃ o, h.get? I = some o) (hN : N ≤ 2 ^ 23) (hod : DeckO od)
    (j : J w F ((I, o) :: (D, lOf #[] 0) :: (d, od) :: res) z σ s) (hs0 : S 0 s.heap) (al : Nat → AV) (hv : ∀ i z v, Pv i v → Rep z v (al i))
    (turn : ∀ i p q o, i < N → As w F ((d, o) :: p :: q :: res) n target (al i) (List.replicate V.length none) fun σ1 => EvD w F (p :: q :: res) d n elt σ1 fun a _ => Pe a)
    (ht : ∀ i (s : Shared) v, S i s.heap → Pv (i - 1) v → ∀ E Q, Q () s → wpAny (MM w) A (letOwnedTupleGo target (.ref I) v) Q E s) (hIm : I ∉ F.mt)
    (fin : ∀ s' z' σ' vs k od' l, Le z z' → DeckO od' → J w F ((D, lOf vs k) :: (d, od') :: res) z' σ' s' → Reps z' vs.toList l → l.length = N → (∀ a ∈ l, Pe a) → R (.ok .next) s') :
    codeAny (MM w) A (.compLoop (.ListComp elt [⟨target, iter, [], 0⟩] scope pos) 0 (.ref I) (.ref D) F.env) R s := by
  refine compLoopG (fun k s' => ∃ i z' σ' o' vs kk od' l, i ≤ N ∧ k = N - i ∧ Le z z' ∧ DeckO od' ∧ J w F ((I, o') :: (D, lOf vs kk) :: (d, od') :: res) z' σ' s' ∧ S i s'.heap ∧ Reps z' vs.toList l ∧ l.length = i ∧ ∀ a ∈ l, Pe a) (fun k s' hI => ?_) N
    ⟨0, z, σ, o, #[], 0, od, [], Nat.zero_le _, rfl, .refl z, hod, j, hs0, rfl, rfl, fun _ h => nomatch h⟩
  obtain ⟨i, z1, σ1, o1, vs, kk, od1, l, hi, rfl, l1, hod1, j1, hS1, rs, hll, hpe⟩ := hI
  by_cases hlt : i < N
  · refine W.item i s' _ _ hlt hS1 fun v h' tk hP hS2 hk => ?_
    obtain ⟨o2, ho2⟩ := hS _ _ hS2
    have j2 := ((j1.updRes (tk := tk) (fun b x hb e => hk b x (by simpa using hb) e) ho2).forget).perm (perm3 (I, o2) (D, lOf vs kk) (d, od1) res)
    refine ht (i + 1) _ v hS2 hP _ _ ?_
    refine wpAny_mono (turn i (I, o2) (D, lOf vs kk) od1 hlt z1 v (hv i z1 v hP) A _ r j2) (fun _ s3 hh => ?_) fun _ _ e => e
    obtain ⟨z3, σ3, l3, j3, q⟩ := hh
    refine wpAny_tests_nil ?_
    refine wpAny_mono (q z3 A s3 od1 r hod1 j3) (fun x s5 hh => ?_) fun _ _ e => e
    obtain ⟨od5, z5, σ5, hod5, l5, j5, a, ra, hpa⟩ := hh
    have hsz : vs.size = l.length := by have := rs.length; rwa [Array.length_toList] at this
    have j5' : J w F ((D, lOf vs kk) :: (I, o2) :: (d, od5) :: res) z5 σ5 s5 := (j5.perm (perm3 (I, o2) (D, lOf vs kk) (d, od5) res).symm).swapRes
    refine append_at (j5'.rs (D, lOf vs kk) (.head _)).1 (fun h6 hs6 hd6 => ?_) (by rw [sizeLine_eq]; omega)
    have j6 := (j5'.updRes (tk := s5.toks) (fun b o hb e => (hs6.2 b hb).trans e) hd6).swapRes
    refine ⟨N - (i + 1), by omega, i + 1, z5, σ5, o2, _, _, od5, l ++ [a], hlt, rfl, (l1.trans l3).trans l5, hod5, j6, W.frame _ _ _ hS2 fun b hb x e => ?_, ?_, by simp [hll], fun c hc => ?_⟩
    · rw [hfp b hb] at e ⊢
      have e : h'.get? I = some x := e
      rw [ho2] at e; cases e
      exact (j6.rs (I, o2) (.head _)).1
    · rw [Array.toList_push]; exact (Reps.mono (l3.trans l5) _ rs).append (.one ra)
    · rcases List.mem_append.mp hc with h | h
      · exact hpe c h
      · rw [List.mem_singleton.mp h]; exact hpa
  · have hin : i = N := by omega
    refine W.done s' _ _ (hin ▸ hS1) fun h' tk hk => ?_
    exact fin _ z1 σ1 vs kk od1 l l1 hod1 (j1.loseRes (fun b x hb e => hk b x (by simpa using hb) e) hIm) rs (by omega) hpe
end
end Fil
namespace Fil
section
variable {w : World} {V G : List Str} {F : Fm V G} {res : List (Addr × Obj)} {n : Nat} {z z' : Heap} {σ σ' σ1 σ2 : St} {s s' : Shared} {d : Addr}
/-- a namespace of another frame's changes -/
theorem J.other {C : Addr} {h' : Heap} {m : Str → Option Value} (j : J w F res z σ s) (hs : Heap.SameBut C s.heap h') (hC : s.heap.Ns C m) (h0 : F.h0.get? C = none) (hz : z.get? C = none) (hL : C ≠ F.env.locals) (hr : ∀ p ∈ res, p.1 ≠ C) (hm : C ∉ F.mt) :
    J w F res z σ { s with heap := h' } := by
  have keep : ∀ b o, b ≠ C → s.heap.get? b = some o → h'.get? b = some o := fun b o hb e => (hs.2 b hb).trans e
  obtain ⟨mm, val, hn, hl⟩ := j.loc
  refine ⟨j.ok, fun b o hb e => keep b o (fun q => by rw [q] at e; rw [h0] at e; cases e) (j.kp b o hb e), fun b hb => (let ⟨o, e⟩ := j.mte b hb; ⟨o, keep b o (fun q => hm (q ▸ hb)) e⟩), j.z0, fun b o e => keep b o (fun q => by rw [q, hz] at e; cases e) (j.sub b o e), j.frz, j.zL, fun p hp => ?_, j.rnd,
    ⟨mm, val, hn.at' fun o e => keep _ o (Ne.symm hL) e, ⟨fun i x sl hi hsl => ?_, hl.apart, hl.len⟩⟩, j.os, j.gens⟩
  · obtain ⟨a, b, c, e⟩ := j.rs p hp
    exact ⟨keep _ _ (hr p hp) a, b, c, e⟩
  · obtain ⟨e, q⟩ := hl.at_ i x sl hi hsl
    refine ⟨e, ?_⟩
    cases sl with
    | v a => exact q
    | o l =>
      obtain ⟨d', vs, k, e1, e2, e3, e4, e5, e6, e7⟩ := q
      refine ⟨d', vs, k, e1, keep _ _ (fun q => ?_) e2, e3, e4, e5, e6, e7⟩
      obtain ⟨o, es, ep, ho, hd, _⟩ := hC
      have e2 : s.heap.get? d' = some (lOf vs k) := e2
      rw [q, ho] at e2
      cases e2
      cases hd
    | r d' => exact q
end
end Fil
namespace Fil
section
variable {w : World} {V G : List Str} {F : Fm V G} {res : List (Addr × Obj)} {n : Nat} {z z' : Heap} {σ σ' σ1 σ2 : St} {s s' : Shared} {d : Addr}
/-- a comprehension over a range, straight to a name; its turns write the deck -/
theorem XD.assignComp {x y : Str} {px py p rpos pos spos : Pos} {elt e : Expr} {scope : Scope} {cl : List (Str × Addr)} {V' G' : List Str} {c : Addr} {oc : Obj} {Pe : AV → Prop} {P : Fl → St → Prop} {N0 : Nat}
    (hsw : swapsWith (.ListComp elt [⟨.Name x px, .Call (.Name "range" p) [e] [] rpos, [], 0⟩] scope pos) (some (.Name y py)) spos.line F.env = pure true)
    (hclos : closureFor scope F.env = pure cl) (hcell : ∀ z ∈ scope.names, z.2 ≠ .cell) (hkind : scope.kind = .function) (hnames : ∀ z ∈ scope.names, z.2 = .local → scope.names.lookup z.1 = some .local)
    (nod : V'.Nodup) (loc' : ∀ x ∈ V', List.lookup x (relabel scope F.env).names = some .local ∧ (x == ("__debug__" : Str)) = false)
    (glo' : ∀ x ∈ G', List.lookup x (relabel scope F.env).names = some .globalImplicit ∧ (x == ("__debug__" : Str)) = false ∧ x ≠ "__name__")
    (hmt : F.mt = []) (hcr : (c, oc) ∈ res) (hg : ("range" : Str) ∈ F.globs) (hb : GlobB w "range" (.type "range"))
    (he : EvD w F res d n e σ fun a σ1 => ∃ N : Nat, a = .int N ∧ N ≤ N0 ∧ σ1 = σ) (hN0 : N0 ≤ 2 ^ 20)
    (turn : ∀ (F' : Fm V' G'), F'.env.cells = cl → F'.env.scope = relabel scope F.env → ∀ i p q o, As w F' [(d, o), p, q, (c, oc)] n (.Name x px) (.int i) (List.replicate V'.length none) fun σ1 => EvD w F' [p, q, (c, oc)] d n elt σ1 fun a _ => Pe a)
    (my : y ∈ F.vars) (h : ∀ l : List AV, l.length ≤ N0 → (∀ a ∈ l, Pe a) → ∃ σ2, Put F.vars σ y (.v (.list l)) σ2 ∧ P .next σ2)
    (hse : starEach [e] F.env = [(false, eval e F.env)] := by rfl) :
    XD w F res d n (.Assign [.Name y py] (.ListComp elt [⟨.Name x px, .Call (.Name "range" p) [e] [] rpos, [], 0⟩] scope pos) spos) σ P := fun z A s o r ho j => by
  rw [exec_Assign_Name_used _ _ _ _ hsw]
  refine wpAny_bind (wpAny_standAt (wpAny_bind ?_))
  show wpAny _ A (do let _ ← comprehension (.ListComp elt [⟨.Name x px, .Call (.Name "range" p) [e] [] rpos, [], 0⟩] scope pos) scope F.env _ (PySem.newList []) false (eval (.Call (.Name "range" p) [e] [] rpos) F.env) (some (PySem.assign (.Name y py) F.env))) _ _ s
  refine wpAny_bind (wpAny_mono (wpAny_comprehension_free (use := some (PySem.assign (.Name y py) F.env)) (Q := fun _ s' => ∃ o' z' σ', DeckO o' ∧ Le z z' ∧ J w F ((d, o') :: res) z' σ' s' ∧ P .next σ') rfl (fun _ => rfl) hclos hkind hnames ?_)
    (fun _ s' ⟨o', z', σ', q1, q2, q3, q4⟩ => wpAny_pure (wpAny_pure ⟨o', z', σ', q1, q2, q3, .next, trivial, q4⟩)) fun _ _ e => e)
  refine wpAny_Call_Name_kw (loadB j hg hb ?_)
  rw [show backTo rpos (starEach [e] F.env) = [(false, eval e F.env)] by rw [hse]; rfl]
  refine PyProof.Rows.callWith_type rfl (Calls.evalArgs_plain (Calls.spliced_cons (wpAny_mono (he z A s o r ho j) (fun v s1 hh => Calls.spliced_nil ?_) fun _ _ e => e)))
  obtain ⟨o1, z1, σ1, ho1, l1, j1, a, ra, N, rfl, hN, rfl⟩ := hh
  obtain ⟨t, rfl⟩ := ra
  refine call_range_1 ?_
  refine wpAny_pyIter_range (IsRange.new ..) (small_one (by decide) (by decide) (by omega) (by omega)) ?_
  obtain ⟨z2, l2, j2, _⟩ := (j1.toks (s1.toks + 1 + 1)).push { cls := .type "range", data := .fields #[.int 0 s1.toks, .int N t, .int 1 (s1.toks + 1)] } rfl
  have hsz : Builtin.Range.rangeSize 0 N 1 = (N : Int) := by rw [rangeSize_one]; split <;> omega
  generalize hsB : ({ heap := s1.heap.push { cls := .type "range", data := .fields #[.int 0 s1.toks, .int N t, .int 1 (s1.toks + 1)] }, gens := s1.gens, drawn := s1.drawn, toks := s1.toks + 1 + 1, os := s1.os } : Shared) = sB at *
  have e1 : (0 + ((0 : Nat) : Int) * 1) = 0 := by simp
  have e2 : ((N : Int) - ((0 : Nat) : Int)) = Builtin.Range.rangeSize 0 N 1 := by rw [hsz]; simp
  refine wpAny_newList ?_ (Nat.zero_le _)
  refine wpAny_newFunctionEnv hcell (fun x hx => by cases hx) (fun h4 hns hsb => ?_) hkind
  dsimp only at hns hsb ⊢
  obtain ⟨it, hit⟩ : ∃ it : Obj, it = { cls := Value.type "range_iterator", data := Data.fields #[rawInt 0, rawInt (Builtin.Range.rangeSize 0 (↑N) 1), rawInt 1] } := ⟨_, rfl⟩
  have hif : it.isFreed = false := by rw [hit]; rfl
  rw [← hit] at hns hsb ⊢
  have none_ : ∀ (h : Heap) (b : Addr), h.objs.size ≤ b → h.get? b = none := fun h b hb => by
    cases q : h.get? b with
    | none => rfl
    | some _ => exact absurd (Heap.lt_size q) (Nat.not_lt.mpr hb)
  have szD : (sB.heap.push it).objs.size = sB.heap.objs.size + 1 := Heap.size_push _ _
  have szC : ((sB.heap.push it).push { cls := .type "list", data := .seq #[] }).objs.size = sB.heap.objs.size + 2 := by rw [Heap.size_push, Heap.size_push]
  generalize hC : ((sB.heap.push it).push { cls := .type "list", data := .seq #[] }).objs.size = C at hns hsb szC ⊢
  have up : ∀ b o, b ≠ C → ((sB.heap.push it).push { cls := .type "list", data := .seq #[] }).get? b = some o → h4.get? b = some o := fun b o hb e => hsb.extBut b o hb (Heap.get?_push_of_some _ e)
  have hC2 : sB.heap.objs.size < C := by rw [szC]; exact Nat.lt_add_of_pos_right (by decide)
  have hC1 : (sB.heap.push it).objs.size < C := by rw [szC, szD]; exact Nat.lt_succ_self _
  have hC0 : sB.heap.objs.size < (sB.heap.push it).objs.size := by rw [szD]; exact Nat.lt_succ_self _
  have nC0 : ∀ b o, sB.heap.get? b = some o → b ≠ C := fun b o e => Nat.ne_of_lt (Nat.lt_trans (Heap.lt_size e) hC2)
  have old : ∀ b o, sB.heap.get? b = some o → h4.get? b = some o := fun b o e => up b o (nC0 b o e) (Heap.get?_push_of_some _ (Heap.get?_push_of_some _ e))
  have gI : h4.get? sB.heap.objs.size = some it := up _ _ (Nat.ne_of_lt hC2) (Heap.get?_push_of_some _ (Heap.get?_push_size _ hif))
  have gD : h4.get? (sB.heap.push it).objs.size = some (lOf #[] 0) := up _ _ (Nat.ne_of_lt hC1) (Heap.get?_push_size _ rfl)
  obtain ⟨rd1, rd2, rd3, rd4⟩ := j2.rs (d, o1) (.head _)
  obtain ⟨rc1, rc2, rc3, rc4⟩ := j2.rs (c, oc) (.tail _ hcr)
  have hdc : d ≠ c := fun e => (List.nodup_cons.mp j2.rnd).1 (List.mem_map.mpr ⟨(c, oc), hcr, e.symm⟩)
  let F' : Fm V' G' := ⟨{ newEnv scope C F.env.globals cl F.env.qual none .none (some F.env) builtinsNs with scope := relabel scope F.env }, sB.heap, z2, [d, c], sB.os, sB.gens⟩
  have ok : FmOk w F' := ⟨j2.cx, j2.sub, hkind, j2.ok.gl, j2.ok.bl, nod, loc', glo', none_ _ _ (Nat.le_of_lt hC2), fun b hb => by
    rcases List.mem_cons.mp hb with rfl | hb
    · exact ⟨rd2, _, rd1⟩
    · rw [List.mem_singleton.mp hb]; exact ⟨rc2, _, rc1⟩⟩
  have zn : ∀ b, sB.heap.objs.size ≤ b → z2.get? b = none := fun b hb => by
    cases q : z2.get? b with
    | none => rfl
    | some x => have := j2.sub _ _ q; rw [none_ _ _ hb] at this; cases this
  have j' : J w F' [(sB.heap.objs.size, it), ((sB.heap.push it).objs.size, lOf #[] 0), (d, o1), (c, oc)] z2 (List.replicate V'.length none) { sB with heap := h4, toks := sB.toks + ([] : List (Str × Value)).length } := by
    have nI : ∀ b o, sB.heap.get? b = some o → b ≠ sB.heap.objs.size := fun b o e q => by rw [q, none_ _ _ (Nat.le_refl _)] at e; cases e
    have nD : ∀ b o, sB.heap.get? b = some o → b ≠ (sB.heap.push it).objs.size := fun b o e q => by rw [q, none_ _ _ (Nat.le_of_lt hC0)] at e; cases e
    refine ⟨ok, fun b o _ e => old b o e, (fun b hb => let ⟨_, o, e⟩ := ok.muz b hb; ⟨o, old _ _ e⟩), .refl _, fun b o e => old _ _ (j2.sub _ _ e), fun b o e => .inl e, zn _ (Nat.le_of_lt hC2), fun q hq => ?_, ?_, ⟨_, fun _ => .none, hns, ⟨fun i y sl _ hs => ?_, fun i k l l' _ hi => ?_, by simp⟩⟩, rfl, rfl⟩
    · simp only [List.mem_cons, List.not_mem_nil, or_false] at hq
      rcases hq with rfl | rfl | rfl | rfl
      · exact ⟨gI, zn _ (Nat.le_refl _), Nat.ne_of_lt hC2, .inl (none_ _ _ (Nat.le_refl _))⟩
      · exact ⟨gD, zn _ (Nat.le_of_lt hC0), Nat.ne_of_lt hC1, .inl (none_ _ _ (Nat.le_of_lt hC0))⟩
      · exact ⟨old _ _ rd1, rd2, nC0 _ _ rd1, .inr (.head _)⟩
      · exact ⟨old _ _ rc1, rc2, nC0 _ _ rc1, .inr (.tail _ (.head _))⟩
    · simp only [List.map_cons, List.map_nil, List.nodup_cons, List.mem_cons, List.not_mem_nil, or_false, not_or, not_false_eq_true, List.nodup_nil, and_true]
      exact ⟨⟨Nat.ne_of_lt hC0, (nI _ _ rd1).symm, (nI _ _ rc1).symm⟩, ⟨(nD _ _ rd1).symm, (nD _ _ rc1).symm⟩, hdc⟩
    · rw [List.getElem?_replicate] at hs; split at hs <;> cases hs
    · rw [List.getElem?_replicate] at hi; split at hi <;> cases hi
  have W := Walks.range (prog := PySem.Challenge.rw_on0065_01.row.prog) (w := w) r.hd sB.heap.objs.size 0 1 N
  have hI4 : h4.get? sB.heap.objs.size = some { cls := Value.type "range_iterator", data := Data.fields #[rawInt (0 + ((0 : Nat) : Int) * 1), rawInt ((N : Int) - ((0 : Nat) : Int)), rawInt 1] } := by
    rw [e1, e2, ← hit]; exact gI
  have loop : codeAny (MM w) A (.compLoop (.ListComp elt [⟨.Name x px, .Call (.Name "range" p) [e] [] rpos, [], 0⟩] scope pos) 0 (.ref sB.heap.objs.size) (.ref (sB.heap.push it).objs.size) F'.env)
      (compPost (MM w) A NoE (some (PySem.assign (Expr.Name y py) F.env)) (fun x s' => ∃ o' z' σ', DeckO o' ∧ Le z z' ∧ J w F ((d, o') :: res) z' σ' s' ∧ P Fl.next σ') (.ref (sB.heap.push it).objs.size) C)
      { sB with heap := h4, toks := sB.toks + ([] : List (Str × Value)).length } := by
    refine compWalkD r Pe W (fun b hb => by simpa using hb) (fun i h hS => ⟨_, hS⟩) (by omega) ho1 j' hI4 (fun i => .int i) (fun i z v ⟨t, e⟩ => ⟨t, by rw [e]; simp⟩) (fun i p q o _ => turn F' rfl rfl i p q o) (fun i s' v hs hp E Q hQ => wpAny_pure hQ) ?_ ?_
    · intro hb
      rcases List.mem_cons.mp hb with hb | hb
      · rw [← hb, none_ _ _ (Nat.le_refl _)] at rd1; cases rd1
      · rw [← List.mem_singleton.mp hb, none_ _ _ (Nat.le_refl _)] at rc1; cases rc1
    · intro s' z' σ' vs k od' l l' hod' j3 rs hll hpe
      obtain ⟨m2, val2, hn2, _⟩ := j3.loc
      have hn2 : s'.heap.Ns C m2 := hn2
      obtain ⟨g1, g2, g3, g4⟩ := j3.rs ((sB.heap.push it).objs.size, lOf vs k) (.head _)
      obtain ⟨d1, d2, d3, d4⟩ := j3.rs (d, od') (.tail _ (.head _))
      obtain ⟨c1, c2, c3, c4⟩ := j3.rs (c, oc) (.tail _ (.tail _ (.head _)))
      have back : ∀ b x, (cut s'.heap fun b => (∃ x, z'.get? b = some x) ∨ b = (sB.heap.push it).objs.size).get? b = some x → z'.get? b = some x ∨ b = (sB.heap.push it).objs.size := fun b x q => by
        by_cases hb : (∃ x, z'.get? b = some x) ∨ b = (sB.heap.push it).objs.size
        · rcases hb with ⟨y, hy⟩ | hb
          · rw [get_cut_pos (.inl ⟨y, hy⟩), j3.sub _ _ hy] at q; cases q; exact .inl hy
          · exact .inr hb
        · rw [get_cut_neg hb] at q; cases q
      have lz3 : Le z' (cut s'.heap fun b => (∃ x, z'.get? b = some x) ∨ b = (sB.heap.push it).objs.size) := fun b x q => by rw [get_cut_pos (.inl ⟨x, q⟩)]; exact j3.sub _ _ q
      have gD3 : (cut s'.heap fun b => (∃ x, z'.get? b = some x) ∨ b = (sB.heap.push it).objs.size).get? (sB.heap.push it).objs.size = some (lOf vs k) := by rw [get_cut_pos (.inr rfl)]; exact g1
      have sub3 : Le (cut s'.heap fun b => (∃ x, z'.get? b = some x) ∨ b = (sB.heap.push it).objs.size) s'.heap := cut_le _ _
      generalize (cut s'.heap fun b => (∃ x, z'.get? b = some x) ∨ b = (sB.heap.push it).objs.size) = z3 at *
      have j4 : J w F ((d, od') :: res) z3 σ1 s' := by
        refine J.turn j2 (fun b x hb e => ?_) hod'.notFreed d1 (l'.trans lz3) sub3 (fun b x e => ?_) j3.os j3.gens
        · by_cases hbc : b = c
          · subst hbc; rw [rc1] at e; cases e; exact c1
          · exact j3.kp b x (fun h => by rcases List.mem_cons.mp h with h | h; exact hb h; exact hbc (List.mem_singleton.mp h)) e
        · rcases back b x e with q | q
          · exact j3.frz b x q
          · exact .inr (q ▸ none_ _ _ (Nat.le_of_lt hC0))
      obtain ⟨σ2, hp, hq⟩ := h l (by omega) hpe
      obtain ⟨iy, a1, b1⟩ := hp.at
      obtain ⟨m4, val4, hn4, hl4⟩ := j4.loc
      have hLC : C ≠ F.env.locals := fun q => by
        obtain ⟨mm, vv, ⟨ol, _, _, el, _⟩, _⟩ := j2.loc
        rw [← q] at el
        exact nC0 _ _ el rfl
      have hrep : Rep z3 (.ref (sB.heap.push it).objs.size) (.list l) := ⟨_, vs, k, rfl, gD3, Reps.mono lz3 _ rs⟩
      refine wpAny_assign_Name (wpAny_storeName_local (j4.ok.loc y my).1 hn4 (fun h5 hn5 hs5 => ?_) (by rw [j4.ok.kind]; rfl))
      have j5 := j4.store (tk := s'.toks + 1) (sl := .v (.list l)) hl4 a1 hn5 hs5 hrep fun k l l' _ e => by cases e
      rw [← b1] at j5
      refine ⟨m2, hn2.sameBut hs5 hLC, fun h6 hs6 => ?_⟩
      have hz3C : z3.get? C = none := by
        cases q : z3.get? C with
        | none => rfl
        | some x =>
          rcases back C x q with q2 | q2
          · have := j3.zL
            rw [show z'.get? C = none from this] at q2; cases q2
          · exact absurd q2 (Nat.ne_of_gt hC1)
      have hCn : sB.heap.get? C = none := none_ _ _ (Nat.le_of_lt hC2)
      have h0C : F.h0.get? C = none := by
        cases q : F.h0.get? C with
        | none => rfl
        | some x => have := j2.kp C x (by rw [hmt]; exact List.not_mem_nil) q; rw [hCn] at this; cases this
      refine ⟨od', z3, σ2, hod', ((l1.trans l2).trans l').trans lz3, J.other j5 hs6 (hn2.sameBut hs5 hLC) h0C hz3C hLC (fun q hq e => ?_) (by rw [hmt]; exact List.not_mem_nil), hq⟩
      rcases List.mem_cons.mp hq with rfl | hq
      · exact nC0 _ _ rd1 e
      · exact nC0 _ _ (j2.rs q (.tail _ hq)).1 e
  exact codeAny_compStart_list loop (W.self 0 _ _ _ hI4 loop)
end
end Fil
namespace Fil
section
variable {w : World} {V G : List Str} {F : Fm V G} {res : List (Addr × Obj)} {n : Nat} {z z' : Heap} {σ σ' σ1 σ2 : St} {s s' : Shared}
/-- two values, for two names -/
theorem Ex.pairV {x y : Str} {p q tp vp pos : Pos} {k k2 : Nat} {e1 e2 : Expr} {P : Fl → St → Prop}
    (h : Ev w F res n e1 σ fun a σ1 => Ev w F res n e2 σ1 fun b σ2 => ∃ σ3 σ4, Put F.vars σ2 y (.v b) σ3 ∧ Put F.vars σ3 x (.v a) σ4 ∧ P .next σ4)
    (mx : x ∈ F.vars) (my : y ∈ F.vars) (hxy : x ≠ y) (h1 : ∀ v p, e1 ≠ .Starred v p) (h1' : ∀ v p, e2 ≠ .Starred v p) (hf : [e1, e2].all (foldedForSure 8) = false) (hcs : [e1, e2].all (constantsAlone 8) = false)
    (hl : p.line = q.line := by rfl) (hsl : starEach [e1, e2] F.env = [(false, eval e1 F.env), (false, eval e2 F.env)] := by rfl) :
    Ex w F res n (.Assign [.Tuple [.Name x p, .Name y q] k tp] (.Tuple [e1, e2] k2 vp) pos) σ P := fun z A s r j => by
  refine PyProof.Rows.Assign_Tuple_swapped ?_ rfl (swapped_two j.ok.kind (j.ok.loc x mx).1 (j.ok.loc y my).1 hxy hl h1 h1' hf hcs)
  show wpAny _ _ (do standAt vp; PySem.newTuple (← spliced (backTo vp (starEach [e1, e2] F.env)))) _ _ _
  rw [show backTo vp (starEach [e1, e2] F.env) = [(false, eval e1 F.env), (false, eval e2 F.env)] by rw [hsl]; rfl]
  refine wpAny_bind (wpAny_standAt (wpAny_bind (Calls.spliced_cons (wpAny_mono (h z A s r j) (fun v1 s1 hh => ?_) fun _ _ e => e))))
  obtain ⟨z1, σ1, l1, j1, a, ra, hh⟩ := hh
  refine Calls.spliced_cons (wpAny_mono (hh z1 A s1 r j1) (fun v2 s2 hh => ?_) fun _ _ e => e)
  obtain ⟨z2, σ2, l2, j2, b, rb, σ3, σ4, p3, p4, hp⟩ := hh
  refine Calls.spliced_nil ?_
  refine wpAny_newTuple ?_ (by rw [sizeLine_eq]; simp)
  obtain ⟨z3, l3, j3, e3⟩ := j2.push (tupOf #[v1, v2] 0) rfl
  refine unpackItems_tuple (items := #[v1, v2]) r.hd ⟨_, Heap.get?_push_size _ rfl, rfl, 0, rfl⟩ fun h' he => ?_
  have j4 := j3.extBut (tk := s2.toks) he
  show wpAny _ _ (assignInOrder [bindName F.env y, bindName F.env x] [v2, v1]) _ _ _
  refine assignInOrder_cons (wpAny_bindName (J.storeName j4 p3 (Rep.mono l3 _ rb) (fun _ e => by cases e) fun s5 j5 => ?_))
  refine assignInOrder_cons (wpAny_bindName (J.storeName j5 p4 (Rep.mono (l2.trans l3) _ ra) (fun _ e => by cases e) fun s6 j6 => ?_))
  exact assignInOrder_nil ⟨z3, σ4, (l1.trans l2).trans l3, j6, .next, trivial, hp⟩
/-- a comprehension over the signs of a text, straight to a name -/
theorem Ex.assignCompStr {x y : Str} {px py pos spos cpos : Pos} {elt : Expr} {scope : Scope} {k0 : Nat} {txt : Str} {V' G' : List Str} {f : AV → AV} {P : Fl → St → Prop}
    (hsw : swapsWith (.ListComp elt [⟨.Name x px, .Constant (.str txt) k0 cpos, [], 0⟩] scope pos) (some (.Name y py)) spos.line F.env = pure true)
    (hc : CompOk scope V' G') (ha : txt.cps.all (· < 128) = true) (hlen : txt.length ≤ 2 ^ 20) (hmt : F.mt = [])
    (turn : ∀ c ∈ txt.cps.toList, Turn w V' G' n (.Name x px) [] elt (.str ⟨#[c]⟩) true (f (.str ⟨#[c]⟩)))
    (my : y ∈ F.vars) (h : ∃ σ2, Put F.vars σ y (.v (.list ((txt.cps.toList.map fun c => AV.str ⟨#[c]⟩).map f))) σ2 ∧ P .next σ2) :
    Ex w F res n (.Assign [.Name y py] (.ListComp elt [⟨.Name x px, .Constant (.str txt) k0 cpos, [], 0⟩] scope pos) spos) σ P := fun z A s r j => by
  have hfree0 := hc.free
  have hnm := hc.names
  simp only [List.all_eq_true, Bool.and_eq_true, decide_eq_true_eq] at hfree0 hnm
  rw [exec_Assign_Name_used _ _ _ _ hsw]
  refine wpAny_bind (wpAny_standAt (wpAny_bind ?_))
  show wpAny _ A (do let _ ← comprehension (.ListComp elt [⟨.Name x px, .Constant (.str txt) k0 cpos, [], 0⟩] scope pos) scope F.env _ (PySem.newList []) false (eval (.Constant (.str txt) k0 cpos) F.env) (some (PySem.assign (.Name y py) F.env))) _ _ s
  refine wpAny_bind (wpAny_mono (wpAny_comprehension_use (u := PySem.assign (.Name y py) F.env) (Q := fun _ s' => ∃ z' σ', Le z z' ∧ J w F res z' σ' s' ∧ P .next σ') rfl (fun _ => rfl) (fun x hx => (hfree0 x hx).1) hc.kind hnm ?_)
    (fun _ s' ⟨z', σ', q2, q3, q4⟩ => wpAny_pure (wpAny_pure ⟨z', σ', q2, q3, .next, trivial, q4⟩)) fun _ _ e => e)
  refine wpAny_mono (Ev.str (w := w) (F := F) (res := res) (n := n) (σ := σ) (x := txt) (P := fun a σ' => a = .str txt ∧ σ' = σ) ⟨rfl, rfl⟩ z A s r j) (fun v s1 hh => ?_) fun _ _ e => e
  obtain ⟨z1, σ1, l1, j1, a, ra, rfl, rfl⟩ := hh
  obtain ⟨t, rfl⟩ := ra
  refine wpAny_pyIter_ascii ha ?_
  obtain ⟨it, hit⟩ : ∃ it : Obj, it = { cls := .type "str_ascii_iterator", data := .fields #[.str txt t, .int 0 0] } := ⟨_, rfl⟩
  have hif : it.isFreed = false := by rw [hit]; rfl
  rw [← hit]
  have hfree := hc.free
  simp only [List.all_eq_true, Bool.and_eq_true, decide_eq_true_eq] at hfree
  have none_ : ∀ (h : Heap) (b : Addr), h.objs.size ≤ b → h.get? b = none := fun h b hb => by
    cases q : h.get? b with
    | none => rfl
    | some _ => exact absurd (Heap.lt_size q) (Nat.not_lt.mpr hb)
  refine wpAny_newList ?_ (Nat.zero_le _)
  refine wpAny_newFunctionEnv (fun x hx => (hfree x hx).2) (fun x hx => by cases hx) (fun h4 hns hsb => ?_) hc.kind
  dsimp only at hns hsb ⊢
  have szD : (s1.heap.push it).objs.size = s1.heap.objs.size + 1 := Heap.size_push _ _
  have szC : ((s1.heap.push it).push { cls := .type "list", data := .seq ([] : List Value).toArray }).objs.size = s1.heap.objs.size + 2 := by rw [Heap.size_push, Heap.size_push]
  generalize hC : ((s1.heap.push it).push { cls := .type "list", data := .seq ([] : List Value).toArray }).objs.size = C at hns hsb szC ⊢
  have up : ∀ b o, b ≠ C → ((s1.heap.push it).push { cls := .type "list", data := .seq ([] : List Value).toArray }).get? b = some o → h4.get? b = some o := fun b o hb e => hsb.extBut b o hb (Heap.get?_push_of_some _ e)
  have hC2 : s1.heap.objs.size < C := by rw [szC]; exact Nat.lt_add_of_pos_right (by decide)
  have hC1 : (s1.heap.push it).objs.size < C := by rw [szC, szD]; exact Nat.lt_succ_self _
  have hC0 : s1.heap.objs.size < (s1.heap.push it).objs.size := by rw [szD]; exact Nat.lt_succ_self _
  have nC0 : ∀ b o, s1.heap.get? b = some o → b ≠ C := fun b o e => Nat.ne_of_lt (Nat.lt_trans (Heap.lt_size e) hC2)
  have old : ∀ b o, s1.heap.get? b = some o → h4.get? b = some o := fun b o e => up b o (nC0 b o e) (Heap.get?_push_of_some _ (Heap.get?_push_of_some _ e))
  have gI : h4.get? s1.heap.objs.size = some it := up _ _ (Nat.ne_of_lt hC2) (Heap.get?_push_of_some _ (Heap.get?_push_size _ hif))
  have gD : h4.get? (s1.heap.push it).objs.size = some (lOf #[] 0) := up _ _ (Nat.ne_of_lt hC1) (Heap.get?_push_size _ rfl)
  have eqE : ({ newEnv scope C F.env.globals [] F.env.qual none .none (some F.env) builtinsNs with scope := scope } : Env).locals = C := rfl
  let F' : Fm V' G' := ⟨{ newEnv scope C F.env.globals [] F.env.qual none .none (some F.env) builtinsNs with scope := scope }, s1.heap, z1, [], s1.os, s1.gens⟩
  have hl := hc.loc
  have hg := hc.glo
  simp only [List.all_eq_true, Bool.and_eq_true, decide_eq_true_eq, Bool.not_eq_true'] at hl hg
  have ok : FmOk w F' := ⟨j1.cx, j1.sub, hc.kind, j1.ok.gl, j1.ok.bl, hc.nod, fun x hx => hl x hx, fun x hx => ⟨(hg x hx).1.1, (hg x hx).1.2, fun e => by have := (hg x hx).2; rw [e] at this; simp at this⟩, none_ _ _ (Nat.le_of_lt hC2), fun d hd => nomatch hd⟩
  have zn : ∀ b, s1.heap.objs.size ≤ b → z1.get? b = none := fun b hb => by
    cases q : z1.get? b with
    | none => rfl
    | some x => have := j1.sub _ _ q; rw [none_ _ _ hb] at this; cases this
  have j' : J w F' [(s1.heap.objs.size, it), ((s1.heap.push it).objs.size, lOf #[] 0)] z1 (List.replicate V'.length none) { s1 with heap := h4, toks := s1.toks + ([] : List (Str × Value)).length } := by
    refine ⟨ok, fun b o _ e => old b o e, (fun b hb => nomatch hb), .refl _, fun b o e => old _ _ (j1.sub _ _ e), fun b o e => .inl e, zn _ (Nat.le_of_lt hC2), fun p hp => ?_, ?_, ⟨_, fun _ => .none, hns, ⟨fun i y sl _ hs => ?_, fun i k l l' _ hi => ?_, by simp⟩⟩, rfl, rfl⟩
    · rcases List.mem_cons.mp hp with rfl | hp
      · exact ⟨gI, zn _ (Nat.le_refl _), Nat.ne_of_lt hC2, .inl (none_ _ _ (Nat.le_refl _))⟩
      · rcases List.mem_cons.mp hp with rfl | hp
        · exact ⟨gD, zn _ (Nat.le_of_lt hC0), Nat.ne_of_lt hC1, .inl (none_ _ _ (Nat.le_of_lt hC0))⟩
        · cases hp
    · simp only [List.map_cons, List.map_nil, List.nodup_cons, List.mem_singleton, List.not_mem_nil, not_false_eq_true, List.nodup_nil, and_true]
      exact Nat.ne_of_lt hC0
    · rw [List.getElem?_replicate] at hs; split at hs <;> cases hs
    · rw [List.getElem?_replicate] at hi; split at hi <;> cases hi
  have W := Walks.strAscii (prog := PySem.Challenge.rw_on0065_01.row.prog) (w := w) r.hd s1.heap.objs.size txt t
  have al0 : ∀ i v, SignAt txt i v → Rep z1 v ((txt.cps.toList.map fun c => AV.str ⟨#[c]⟩).getD i .none) := fun i v ⟨c, u, hc, e⟩ => by
    rw [List.getD_eq_getElem?_getD, List.getElem?_map, Array.getElem?_toList, hc]
    exact ⟨u, e⟩
  have hlen2 : (txt.cps.toList.map fun c => AV.str ⟨#[c]⟩).length = txt.cps.size := by simp
  have hturn : ∀ (F' : Fm V' G') i r1 r2, F'.mt = [] → i < txt.cps.size → _ := fun F' i r1 r2 hm hi => turnOf (w := w) (n := n) (p := fun _ => true) (f := f) (ifs := []) (elt := elt) (target := .Name x px) (l := txt.cps.toList.map fun c => AV.str ⟨#[c]⟩) (i := i) (by rw [hlen2]; exact hi) (by
    have : (txt.cps.toList.map fun c => AV.str ⟨#[c]⟩).getD i .none = .str ⟨#[txt.cps[i]]⟩ := by
      rw [List.getD_eq_getElem?_getD, List.getElem?_map, Array.getElem?_toList, Array.getElem?_eq_getElem hi]; rfl
    rw [this]
    exact turn _ (by simp)) F' r1 r2 hm
  have ho : ∀ i : Nat, ((((txt.cps.toList.map fun c => AV.str ⟨#[c]⟩).take i).filter fun _ => true).map f).length ≤ i := fun i => by
    rw [List.length_map]
    exact Nat.le_trans (List.length_filter_le _ _) (by rw [List.length_take]; omega)
  have hS0 : ∃ o, h4.get? s1.heap.objs.size = some o ∧ o.cls = .type "str_ascii_iterator" ∧ o.data = .fields #[.str txt t, .int 0 0] := ⟨it, gI, by rw [hit], by rw [hit]⟩
  have loop : codeAny (MM w) A (.compLoop (.ListComp elt [⟨.Name x px, .Constant (.str txt) k0 cpos, [], 0⟩] scope pos) 0 (.ref s1.heap.objs.size) (.ref (s1.heap.push it).objs.size) F'.env)
      (fun r s' => match r with
          | .ok _ => wpAny (MM w) A (PySem.assign (.Name y py) F.env (.ref (s1.heap.push it).objs.size)) (fun _ s'' => ∃ m, s''.heap.Ns C m ∧ ∀ h', Heap.SameBut C s''.heap h' → ∃ z' σ', Le z z' ∧ J w F res z' σ' { s'' with heap := h' } ∧ P .next σ') NoE s'
          | .error x => ∃ m, s'.heap.Ns C m ∧ ∀ h', Heap.SameBut C s'.heap h' → wpAny (MM w) A (passOn "comprehension.variables-let-go" x F'.env : Sem Value) (fun _ s' => ∃ z' σ', Le z z' ∧ J w F res z' σ' s' ∧ P .next σ') NoE { s' with heap := h' })
      { s1 with heap := h4, toks := s1.toks + ([] : List (Str × Value)).length } := by
    refine compWalk r W (fun b hb hne => absurd (by simpa using hb) hne) (fun i h hS => let ⟨o, e, _⟩ := hS; ⟨o, e⟩) (by have : txt.cps.size ≤ 2 ^ 20 := hlen; omega) j' hS0 (fun i => (txt.cps.toList.map fun c => AV.str ⟨#[c]⟩).getD i .none) al0
      (fun i => (((txt.cps.toList.map fun c => AV.str ⟨#[c]⟩).take i).filter fun _ => true).map f) (by simp) ho (fun i p q hi => hturn F' i p q rfl hi) (fun i s' v hs hp E Q hQ => wpAny_pure hQ) (fun h => nomatch h) fun s' z' σ' vs k l' j2 rs => ?_
    have rs : Reps z' vs.toList ((txt.cps.toList.map fun c => AV.str ⟨#[c]⟩).map f) := by
      have e : (((txt.cps.toList.map fun c => AV.str ⟨#[c]⟩).take txt.cps.size).filter fun _ => true) = txt.cps.toList.map fun c => AV.str ⟨#[c]⟩ := by rw [← hlen2, List.take_length]; simp
      rw [e] at rs; exact rs
    obtain ⟨m2, val2, hn2, _⟩ := j2.loc
    obtain ⟨z2, l2, gD2, sub2, back2, frz2⟩ := j2.reveal rfl
    have nC : ∀ b x, z2.get? b = some x → b ≠ C := fun b x q => by
      rcases back2 b x q with q | q
      · intro e; rw [e] at q; have := j2.zL; rw [show z'.get? C = none from this] at q; cases q
      · rw [q]; exact Nat.ne_of_lt hC1
    have j4 : J w F res z2 σ1 s' := j1.grow (s' := s') (fun b o e => j2.kp b o (fun h => nomatch h) e) (l'.trans l2) sub2 (fun b o e => frz2 b o e) j2.os j2.gens
    obtain ⟨σ2, hp, hq⟩ := h
    obtain ⟨iy, a1, b1⟩ := hp.at
    obtain ⟨m4, val4, hn4, hl4⟩ := j4.loc
    have hLC : C ≠ F.env.locals := fun q => by
      obtain ⟨mm, vv, ⟨ol, _, _, el, _⟩, _⟩ := j1.loc
      rw [← q] at el
      exact nC0 _ _ el rfl
    have hrep : Rep z2 (.ref (s1.heap.push it).objs.size) (.list ((txt.cps.toList.map fun c => AV.str ⟨#[c]⟩).map f)) := ⟨_, vs, k, rfl, gD2, Reps.mono l2 _ rs⟩
    refine wpAny_assign_Name (wpAny_storeName_local (j4.ok.loc y my).1 hn4 (fun h5 hn5 hs5 => ?_) (by rw [j4.ok.kind]; rfl))
    have j5 := j4.store (tk := s'.toks + 1) (sl := .v (.list ((txt.cps.toList.map fun c => AV.str ⟨#[c]⟩).map f))) hl4 a1 hn5 hs5 hrep fun k l l' _ e => by cases e
    rw [← b1] at j5
    have hn2 : s'.heap.Ns C m2 := hn2
    refine ⟨m2, hn2.sameBut hs5 hLC, fun h6 hs6 => ?_⟩
    have hz3C : z2.get? C = none := by
      cases q : z2.get? C with
      | none => rfl
      | some x => exact absurd rfl (nC C x q)
    have hCn : s1.heap.get? C = none := none_ _ _ (Nat.le_of_lt hC2)
    have h0C : F.h0.get? C = none := by
      cases q : F.h0.get? C with
      | none => rfl
      | some x => have := j1.kp C x (by rw [hmt]; exact List.not_mem_nil) q; rw [hCn] at this; cases this
    refine ⟨z2, σ2, (l1.trans l').trans l2, J.other j5 hs6 (hn2.sameBut hs5 hLC) h0C hz3C hLC (fun q hq e => ?_) (by rw [hmt]; exact List.not_mem_nil), hq⟩
    exact nC0 _ _ (j1.rs q hq).1 e
  exact codeAny_compStart_list loop (W.self 0 _ _ _ hS0 loop)
end
end Fil
namespace Fil
/-- one of an init's stores -/
theorem initStep {w : World} {A : Around} {s : Shared} {h₀ : Heap} {L x dx : Addr} {es es' : List DictEntry} {k k' : Nat} {m : Str → Option Value} {self name y : Str} {v : Value} {env : Env} {p1 p2 p3 p4 : Pos} {Q : Flow → Shared → Prop}
    (X₀ : (KK w).In h₀) (F : Fr h₀ L s.heap m) (N : News h₀ L s.heap [(x, instObj 134 dx), (dx, dictOf es k)]) (hxd : x ≠ dx) (hL : env.locals = L) (hk : env.scope.kind = .function)
    (k1 : env.kindOf self = some .local) (k2 : env.kindOf y = some .local) (d1 : (self == ("__debug__" : Str)) = false) (d2 : (y == ("__debug__" : Str)) = false) (m1 : m self = some (.ref x)) (m2 : m y = some v)
    (hs : findIn (KK w) (.ref 134) "__setattr__" = some (some (.builtin "object.__setattr__"))) (hp : plainOver (KK w) 134 = true) (ht : takerIn (KK w) 134 name = some none) (hh : hasDictIn (KK w) 134 = true) (hl : (getL name es).isSome = true)
    (e : (putL name (PyData.keyHash w.params name) (.str name (s.toks + 1)) v es, putN name es k) = (es', k')) (hz : es'.length ≤ 1000)
    (h : ∀ h' tk, Fr h₀ L h' m → News h₀ L h' [(x, instObj 134 dx), (dx, dictOf es' k')] → Q .next { s with heap := h', toks := tk }) :
    wpAny (MM w) A (exec (.Assign [.Attribute (.Name self p1) name p2] (.Name y p3) p4) env) Q NoE s := by
  subst hL
  refine plainObj_wpAny_Assign_Attribute (wpAny_Name (wpAny_loadName_local hk k2 F.ns m2 ?_) d2)
  refine wpAny_Name (wpAny_loadName_local hk k1 F.ns m1 ?_) d1
  exact set_dict F X₀ N (InstAt.of_news N (.head _) (.tail _ (.head _))) rfl hs hp ht hh hl e (.tail hxd (.head fun _ h => nomatch h)) hz fun h' F' N' => h h' _ F' N'
/-- an object of the class Filling -/
theorem makeFill {w : World} {n : Nat} {A : Around} {s : Shared} {z : Heap} {oc : Value} {od : Option Addr} {osl : Array (Option Value)} {qual : Str} {params : Arguments} {scope : Scope} {dV kV doc pm cdv ct : Value} {an : Option Addr}
    {p1 p2 p3 p4 q1 q2 q3 q4 r1 r2 r3 r4 t1 t2 t3 t4 : Pos} {v1 v2 v3 v4 : Value} {Q : Value → Shared → Prop}
    (hk : (KK w).lookup 131 = some ⟨oc, od, .func (fnOf "__init__" qual params [.Assign [.Attribute (.Name "self" p1) "column" p2] (.Name "column" p3) p4, .Assign [.Attribute (.Name "self" q1) "way" q2] (.Name "way" q3) q4,
      .Assign [.Attribute (.Name "self" r1) "leads" r2] (.Name "leads" r3) r4, .Assign [.Attribute (.Name "self" t1) "tab" t2] (.Name "tab" t3) t4] scope dV kV doc pm an cdv ct), osl⟩)
    (hcd : codeIn (KK w) cdv qual = true) (hbind : ∀ a b c d e : Value, bindArgs (fnOf "__init__" qual params [.Assign [.Attribute (.Name "self" p1) "column" p2] (.Name "column" p3) p4, .Assign [.Attribute (.Name "self" q1) "way" q2] (.Name "way" q3) q4,
      .Assign [.Attribute (.Name "self" r1) "leads" r2] (.Name "leads" r3) r4, .Assign [.Attribute (.Name "self" t1) "tab" t2] (.Name "tab" t3) t4] scope dV kV doc pm an cdv ct) ⟨[a, b, c, d, e], []⟩ = pure (([("self", a), ("column", b), ("way", c), ("leads", d), ("tab", e)] : List (Str × Value))))
    (hl : ((["self", "column", "way", "leads", "tab"] : List Str).all fun x => decide (scope.names.lookup x = some .local)) = true)
    (hco : scope.isCoroutine = false) (hgen : scope.isGenerator = false) (hkd : scope.kind = .function) (hcell : ∀ x ∈ scope.names, x.2 ≠ .cell)
    (hm : makesIn (KK w) 134 = true) (hi : findIn (KK w) (.ref 134) "__init__" = some (some (.ref 131))) (hf : typeIn (KK w) (.ref 131) = some (.type "function"))
    (hs : findIn (KK w) (.ref 134) "__setattr__" = some (some (.builtin "object.__setattr__"))) (hp : plainOver (KK w) 134 = true) (hh : hasDictIn (KK w) 134 = true)
    (ht1 : takerIn (KK w) 134 "column" = some none) (ht2 : takerIn (KK w) 134 "way" = some none) (ht3 : takerIn (KK w) 134 "leads" = some none) (ht4 : takerIn (KK w) 134 "tab" = some none)
    (rm : Room (n + 2) A) (cx : Cx w z) (sub : Le z s.heap)
    (h : ∀ x dx es k s', Le s.heap s'.heap → x ≠ dx → s.heap.get? x = none → s.heap.get? dx = none → s'.heap.get? x = some (instObj 134 dx) → s'.heap.get? dx = some (dictOf es k) →
      (getL "column" es = some (some v1) ∧ getL "way" es = some (some v2) ∧ getL "leads" es = some (some v3) ∧ getL "tab" es = some (some v4)) → s'.os = s.os → s'.gens = s.gens → Q (.ref x) s') :
    wpAny (MM w) A (call (.ref 134) [v1, v2, v3, v4]) Q NoE s := by
  have cxh := cx.mono sub
  obtain ⟨hh0, g, d, t, os⟩ := s
  refine wpAny_call (make_core (makes_of cxh.k hm) (looks_findIn cxh.k hi) (fun self => bind_fn cxh.k self hf) (.inl rfl) ?_)
  have kp : ∀ b o, hh0.get? b = some o → ((hh0.push emptyDict).push (instObj 134 hh0.objs.size)).get? b = some o := fun b o e => Heap.get?_push_of_some _ (Heap.get?_push_of_some _ e)
  have hdepth : (A.under (.builtin "type.__call__" ⟨[.ref 134, v1, v2, v3, v4], []⟩)).depth < recursionLimit := by have := rm.dp; show A.depth + 1 < 1000; omega
  have cx2 : Cx w ((hh0.push emptyDict).push (instObj 134 hh0.objs.size)) := cxh.mono kp
  refine codeAny_call_def (binds := [("self", .ref (hh0.objs.size + 1)), ("column", v1), ("way", v2), ("leads", v3), ("tab", v4)]) hdepth (cx2.k _ _ hk) rfl cx2.nl (codeRec_of cx2.k hcd) rfl (.of_eq (hbind _ _ _ _ _)) hcell (fun x hx => ?_) (fun h1 hns hk1 => ?_) hco hgen hkd
  · simp only [List.all_eq_true, decide_eq_true_eq] at hl
    refine hl x.1 ?_
    simp only [List.mem_cons, List.not_mem_nil, or_false] at hx ⊢
    rcases hx with rfl | rfl | rfl | rfl | rfl <;> simp
  · generalize hS : ((hh0.push emptyDict).push (instObj 134 hh0.objs.size)) = hp1 at *
    have gx : hp1.get? (hh0.objs.size + 1) = some (instObj 134 hh0.objs.size) := by
      rw [← hS]; have := Heap.get?_push_size (hh0.push emptyDict) (o := instObj 134 hh0.objs.size) rfl
      rwa [Heap.size_push] at this
    have gd : hp1.get? hh0.objs.size = some (dictOf [] 0) := by
      rw [← hS]; exact Heap.get?_push_of_some _ (Heap.get?_push_size _ rfl)
    have none_ : ∀ b, hh0.objs.size ≤ b → hh0.get? b = none := fun b hb => by
      cases q : hh0.get? b with
      | none => rfl
      | some _ => exact absurd (Heap.lt_size q) (Nat.not_lt.mpr hb)
    have sz : hp1.objs.size = hh0.objs.size + 2 := by rw [← hS, Heap.size_push, Heap.size_push]
    have hxd : hh0.objs.size + 1 ≠ hh0.objs.size := Nat.succ_ne_self _
    have F : Fr hh0 hp1.objs.size h1 (fun x => List.lookup x ([("self", .ref (hh0.objs.size + 1)), ("column", v1), ("way", v2), ("leads", v3), ("tab", v4)] : List (Str × Value)).reverse) := ⟨hns, fun b o e => hk1 b o (kp b o e), by rw [sz]; exact Nat.le_add_right _ _⟩
    have N : News hh0 hp1.objs.size h1 [(hh0.objs.size + 1, instObj 134 hh0.objs.size), (hh0.objs.size, dictOf [] 0)] := fun p hp => by
      simp only [List.mem_cons, List.not_mem_nil, or_false] at hp
      rcases hp with rfl | rfl
      · exact ⟨hk1 _ _ gx, by rw [sz]; exact Nat.ne_of_lt (Nat.lt_succ_self _), none_ _ (Nat.le_succ _)⟩
      · exact ⟨hk1 _ _ gd, by rw [sz]; exact Nat.ne_of_lt (Nat.lt_succ_of_lt (Nat.lt_succ_self _)), none_ _ (Nat.le_refl _)⟩
    simp only [List.all_eq_true, decide_eq_true_eq, List.mem_cons, List.not_mem_nil, or_false, forall_eq_or_imp, forall_eq] at hl
    obtain ⟨k1, k2, k3, k4, k5⟩ := hl
    refine wpAny_mono (E := NoE) (Q := fun f s' => f = .next ∧ Q (.ref (hh0.objs.size + 1)) s') ?_ (fun f s' hq => ?_) fun _ _ e => e.elim
    · refine Eq.mpr (congrArg (fun m => wpAny (MM w) _ m _ NoE _) (execs_cons ..)) (wpAny_bind (initStep (es' := [⟨_, .str "column" _, v1⟩]) cxh.k F N hxd rfl hkd k1 k2 (by decide +kernel) (by decide +kernel) (by with_unfolding_all rfl) (by with_unfolding_all rfl) hs hp ht1 hh (by with_unfolding_all rfl) (by with_unfolding_all rfl) (by simp) fun h2 tk2 F2 N2 => ?_))
      dsimp only
      refine Eq.mpr (congrArg (fun m => wpAny (MM w) _ m _ NoE _) (execs_cons ..)) (wpAny_bind (initStep (es' := [⟨_, .str "column" _, v1⟩, ⟨_, .str "way" _, v2⟩]) cxh.k F2 N2 hxd rfl hkd k1 k3 (by decide +kernel) (by decide +kernel) (by with_unfolding_all rfl) (by with_unfolding_all rfl) hs hp ht2 hh (by with_unfolding_all rfl) (by with_unfolding_all rfl) (by simp) fun h3 tk3 F3 N3 => ?_))
      dsimp only
      refine Eq.mpr (congrArg (fun m => wpAny (MM w) _ m _ NoE _) (execs_cons ..)) (wpAny_bind (initStep (es' := [⟨_, .str "column" _, v1⟩, ⟨_, .str "way" _, v2⟩, ⟨_, .str "leads" _, v3⟩]) cxh.k F3 N3 hxd rfl hkd k1 k4 (by decide +kernel) (by decide +kernel) (by with_unfolding_all rfl) (by with_unfolding_all rfl) hs hp ht3 hh (by with_unfolding_all rfl) (by with_unfolding_all rfl) (by simp) fun h4 tk4 F4 N4 => ?_))
      dsimp only
      refine Eq.mpr (congrArg (fun m => wpAny (MM w) _ m _ NoE _) (execs_cons ..)) (wpAny_bind (initStep (es' := [⟨_, .str "column" _, v1⟩, ⟨_, .str "way" _, v2⟩, ⟨_, .str "leads" _, v3⟩, ⟨_, .str "tab" _, v4⟩]) cxh.k F4 N4 hxd rfl hkd k1 k5 (by decide +kernel) (by decide +kernel) (by with_unfolding_all rfl) (by with_unfolding_all rfl) hs hp ht4 hh (by with_unfolding_all rfl) (by with_unfolding_all rfl) (by simp) fun h5 tk5 F5 N5 => ?_))
      dsimp only
      refine wpAny_execs_nil ⟨rfl, h _ _ _ _ _ F5.keep hxd (none_ _ (Nat.le_succ _)) (none_ _ (Nat.le_refl _)) (N5 _ (.head _)).1 (N5 _ (.tail _ (.head _))).1 ⟨?_, ?_, ?_, ?_⟩ rfl rfl⟩ <;> with_unfolding_all rfl
    · obtain ⟨rfl, hq⟩ := hq
      exact ⟨rfl, hq⟩
end Fil
namespace Fil
noncomputable def MakeOk (w : World) : Prop := ∀ (n : Nat) (A : Around) (s : Shared) (z : Heap) (v1 v2 v3 v4 : Value) (Q : Value → Shared → Prop), Room (n + 2) A → Cx w z → Le z s.heap →
    (∀ x dx es k s', Le s.heap s'.heap → x ≠ dx → s.heap.get? x = none → s.heap.get? dx = none → s'.heap.get? x = some (instObj 134 dx) → s'.heap.get? dx = some (dictOf es k) →
      (getL "column" es = some (some v1) ∧ getL "way" es = some (some v2) ∧ getL "leads" es = some (some v3) ∧ getL "tab" es = some (some v4)) → s'.os = s.os → s'.gens = s.gens → Q (.ref x) s') →
    wpAny (MM w) A (call (.ref 134) [v1, v2, v3, v4]) Q NoE s
section
variable {w : World} {V G : List Str} {F : Fm V G} {res : List (Addr × Obj)} {n : Nat} {z z' : Heap} {σ σ' σ1 σ2 : St} {s s' : Shared}
theorem Ev.fill {x : Str} {p pos : Pos} {e : Expr} {rest : List Expr} {P : AV → St → Prop} (hg : x ∈ F.globs) (hb : GlobF w x 134) (hkeep : keepIn (KK w) (.ref 134) = true) (hmk : MakeOk w)
    (h : El w F res (n + 2) pos (e :: rest) σ fun as σ1 => ∃ c y d t, as = [c, y, d, t] ∧ P (.fill c y d t) σ1)
    (he : starEach (e :: rest) F.env = (false, eval e F.env) :: starEach rest F.env := by rfl) (hplain : (backTo pos (starEach rest F.env)).any (·.1) = false := by rfl) :
    Ev w F res (n + 2) (.Call (.Name x p) (e :: rest) [] pos) σ P := fun z =>
  .of_eq (arm_eval_Call_Name' ..) (.bind fun A s r j => loadG j hg hb (.here j fun A s r j => by
    refine callWith_K (h₀ := s.heap) j.cxh.k hkeep (wpAny_mono (h z A s r j) (fun vs s1 hh => ?_) fun _ _ e => e) he hplain
    obtain ⟨z1, σ1, l1, j1, as, rs, c, y, d, t, rfl, hp⟩ := hh
    obtain ⟨v1, vs1, rfl, r1, v2, vs2, rfl, r2, v3, vs3, rfl, r3, v4, vs4, rfl, r4, rfl⟩ := rs
    refine ⟨j1.cxh.k, hmk n A s1 z1 v1 v2 v3 v4 _ r j1.cx j1.sub fun o dx es k s' k1 hne n1 n2 g1 g2 q k2 k3 => ?_⟩
    have hz : Le z1 (cut s'.heap fun b => (∃ x, z1.get? b = some x) ∨ b = o ∨ b = dx) := fun b x q => by rw [get_cut_pos (.inl ⟨x, q⟩)]; exact k1 _ _ (j1.sub _ _ q)
    have back : ∀ b x, (cut s'.heap fun b => (∃ x, z1.get? b = some x) ∨ b = o ∨ b = dx).get? b = some x → z1.get? b = some x ∨ b = o ∨ b = dx := fun b x q => by
      by_cases hb : (∃ x, z1.get? b = some x) ∨ b = o ∨ b = dx
      · rcases hb with ⟨y, hy⟩ | hb
        · rw [get_cut_pos (.inl ⟨y, hy⟩), k1 _ _ (j1.sub _ _ hy)] at q; cases q; exact .inl hy
        · exact .inr hb
      · rw [get_cut_neg hb] at q; cases q
    refine ⟨_, σ1, l1.trans hz, j1.grow (s' := s') k1 hz (cut_le _ _) (fun b x q => ?_) k2 k3, .fill c y d t, ⟨o, dx, es, k, #[], v1, v2, v3, v4, rfl, ?_, ?_, q, Rep.mono hz _ r1, Rep.mono hz _ r2, Rep.mono hz _ r3, Rep.mono hz _ r4⟩, hp⟩
    · rcases back b x q with h | h | h
      · exact .inl h
      · exact .inr (h ▸ n1)
      · exact .inr (h ▸ n2)
    · rw [get_cut_pos (.inr (.inl rfl))]; exact g1
    · rw [get_cut_pos (.inr (.inr rfl))]; exact g2))
end
end Fil
namespace Fil
theorem wellAllInts {P : Params} {h : Heap} : ∀ {ns : List Int} {vs : List Value}, WellAll P h vs (ofPys (ns.map .int)) → Reps h vs (ns.map .int)
  | [], vs, x => by
    cases vs with
    | nil => rfl
    | cons v vs => cases x
  | i :: ns, vs, x => by
    cases vs with
    | nil => cases x
    | cons v vs =>
      cases x with
      | cons a b =>
        cases a
        exact ⟨_, _, rfl, ⟨_, rfl⟩, wellAllInts b⟩
theorem wellInts {P : Params} {h : Heap} {a : Addr} {ns : List Int} (x : Well P h (.ref a) (ofPy (.list (ns.map .int)))) : Rep h (.ref a) (iL ns) := by
  cases x with
  | list e r => exact ⟨a, _, 0, rfl, e, wellAllInts (by simpa using r)⟩
/-- the state at the start of the law's own frame -/
theorem lawStart {w : World} {A : Around} {env : Env} {s₁ : Shared} {h₁ : Heap} {tk₁ : Nat} {m mg mb : Str → Option Value} {c a : Addr} {cell : Obj} {body : List Stmt} {ns : List Int} {Q : Flow → Shared → Prop} {E : Value → Shared → Prop} (V' G : List Str)
    (KX : (KK w).In s₁.heap) (nsG : s₁.heap.Ns mainGlobals mg) (nsB : s₁.heap.Ns builtinsNs mb) (hB : ∀ x : Str, x ≠ "__name__" → mb x = bootBuiltins x) (nl : s₁.heap.NoLimit)
    (hF : Fr s₁.heap env.locals h₁ m) (hN : News s₁.heap env.locals h₁ [(c, cell)]) (hk : env.scope.kind = .function) (gl : env.globals = mainGlobals) (bl : env.builtins = builtinsNs)
    (nod : (("script" : Str) :: V').Nodup) (hl : ((("script" : Str) :: V').all fun x => decide (env.scope.names.lookup x = some .local) && !(x == ("__debug__" : Str))) = true)
    (hg : (G.all fun x => decide (env.scope.names.lookup x = some .globalImplicit) && !(x == ("__debug__" : Str)) && !(x == ("__name__" : Str))) = true)
    (hm : m "script" = some (.ref a)) (hw : Well w.params s₁.heap (.ref a) (ofPy (.list (ns.map .int))))
    (h : ∀ F : Fm (("script" : Str) :: V') G, F.env = env → F.mt = [] → F.os = s₁.os → F.gens = s₁.gens → F.h0 = s₁.heap → ∀ z s, J w F [(c, cell)] z (some (.v (iL ns)) :: List.replicate V'.length none) s → wpAny (MM w) A (execs body F.env) Q E s) :
    wpAny (MM w) A (execs body env) Q E { s₁ with heap := h₁, toks := tk₁ } := by
  have j := J.start (w := w) (V := ("script" : Str) :: V') (G := G) (env := env) (h0 := s₁.heap) (s := { s₁ with heap := h₁, toks := tk₁ }) (m := m) (σ := some (.v (iL ns)) :: List.replicate V'.length none) (news := [(c, cell)]) ⟨KX, ⟨_, nsG⟩, ⟨_, nsB, hB⟩, nl⟩ hk gl bl nod
    (fun x hx => ?_) (fun x hx => ?_) hF hN (by simp) (by simp) (fun i x sl hi hs => ?_)
  · exact h ⟨env, s₁.heap, s₁.heap, [], s₁.os, s₁.gens⟩ rfl rfl rfl rfl rfl _ _ j
  · have := List.all_eq_true.mp hl x hx
    simp only [Bool.and_eq_true, decide_eq_true_eq, Bool.not_eq_true'] at this
    exact this
  · have := List.all_eq_true.mp hg x hx
    simp only [Bool.and_eq_true, decide_eq_true_eq, Bool.not_eq_true'] at this
    exact ⟨this.1.1, this.1.2, fun e => by rw [e] at this; simp at this⟩
  · cases i with
    | zero =>
      simp at hi hs
      subst hi hs
      exact ⟨_, _, hm, rfl, wellInts hw⟩
    | succ i =>
      simp only [List.getElem?_cons_succ, List.getElem?_replicate] at hs
      split at hs <;> cases hs
end Fil
namespace Fil
section
variable {w : World} {V G : List Str} {F : Fm V G} {res : List (Addr × Obj)} {n : Nat} {z z' : Heap} {σ σ' σ1 σ2 : St} {s s' : Shared} {d : Addr}
theorem execsStepD {A : Around} {st : Stmt} {rest : List Stmt} {R : St → Prop} {Q : Flow → Shared → Prop} {o : Obj} (r : Room n A) (ho : DeckO o) (j : J w F ((d, o) :: res) z σ s) (h : XD w F res d n st σ (fun f σ' => f = .next ∧ R σ'))
    (h2 : ∀ z' σ' s' o', Le z z' → DeckO o' → R σ' → J w F ((d, o') :: res) z' σ' s' → wpAny (MM w) A (execs rest F.env) Q NoE s') : wpAny (MM w) A (execs (st :: rest) F.env) Q NoE s := by
  refine Eq.mpr (congrArg (fun m => wpAny (MM w) A m _ NoE s) (execs_cons ..)) (wpAny_bind (wpAny_mono (h z A s o r ho j) (fun f s1 hh => ?_) fun _ _ e => e))
  obtain ⟨o1, z1, σ1, ho1, l1, j1, a, fr, rfl, q⟩ := hh
  cases f <;> first
    | exact fr.elim
    | exact h2 z1 σ1 s1 o1 l1 ho1 q j1
theorem execsTrue {A : Around} {sts : List Stmt} {Q : Flow → Shared → Prop} (r : Room n A) (j : J w F res z σ s) (h : Exs w F res n sts σ (Rt fun a => a = .bool true)) (h2 : ∀ z' σ' s', J w F res z' σ' s' → Q (.ret (.bool true)) s') :
    wpAny (MM w) A (execs sts F.env) Q NoE s := by
  refine wpAny_mono (h z A s r j) (fun f s1 hh => ?_) fun _ _ e => e
  obtain ⟨z1, σ1, l1, j1, a, fr, q⟩ := hh
  cases f with
  | next => cases a <;> first | exact fr.elim | cases q
  | brk => cases a <;> first | exact fr.elim | cases q
  | cont => cases a <;> first | exact fr.elim | cases q
  | ret v =>
    cases a with
    | ret a =>
      have q : a = .bool true := q
      subst q
      have fr : v = .bool true := fr
      subst fr
      exact h2 z1 σ1 s1 j1
    | _ => exact fr.elim
end
end Fil
namespace Fil
noncomputable def isBl (c : Int) : Bool := c == 32 || c == 9 || c == 10
/-- the words, cut at blanks -/
noncomputable def wgo : List Int → List Int → List (List Int)
  | cur, [] => if cur.isEmpty then [] else [cur]
  | cur, c :: r => if isBl c then (if cur.isEmpty then wgo [] r else cur :: wgo [] r) else wgo (cur ++ [c]) r
noncomputable abbrev wds (l : List Int) : List (List Int) := wgo [] l
theorem wgo_skip {c : Int} {r : List Int} (h : isBl c = true) : wgo [] (c :: r) = wgo [] r := by simp [wgo, h]
theorem wgo_more {cur : List Int} {c : Int} {r : List Int} (h : isBl c = false) : wgo cur (c :: r) = wgo (cur ++ [c]) r := by simp [wgo, h]
theorem wgo_end {cur r : List Int} (h : cur ≠ []) (hr : r = [] ∨ ∃ c t, r = c :: t ∧ isBl c = true) : wgo cur r = cur :: wgo [] r := by
  have he : cur.isEmpty = false := by cases cur with | nil => exact absurd rfl h | cons => rfl
  rcases hr with rfl | ⟨c, t, rfl, hb⟩
  · simp [wgo, he]
  · rw [wgo_skip hb]; simp [wgo, he, hb]
theorem wgo_count : ∀ (cur r : List Int), (wgo cur r).length ≤ r.length + (if cur.isEmpty then 0 else 1)
  | cur, [] => by simp only [wgo]; split <;> simp
  | cur, c :: r => by
    have h1 := wgo_count [] r
    have h2 := wgo_count (cur ++ [c]) r
    simp only [List.isEmpty_nil, if_true] at h1
    have e : (cur ++ [c]).isEmpty = false := by simp
    rw [e] at h2
    simp only [wgo, List.length_cons]
    split
    · split
      · omega
      · simp only [List.length_cons]; omega
    · split
      · simp only [Bool.false_eq_true, if_false] at h2; omega
      · simp only [Bool.false_eq_true, if_false] at h2; omega
theorem wgo_mem : ∀ (cur r : List Int) (x : List Int), x ∈ wgo cur r → x ≠ [] ∧ ∀ c ∈ x, c ∈ cur ∨ c ∈ r
  | cur, [], x, h => by
    simp only [wgo] at h
    split at h
    · cases h
    · rename_i hc
      simp only [List.mem_singleton] at h
      subst h
      exact ⟨fun e => hc (by rw [e]; rfl), fun c hc => .inl hc⟩
  | cur, c :: r, x, h => by
    simp only [wgo] at h
    split at h
    · split at h
      · have := wgo_mem [] r x h
        exact ⟨this.1, fun d hd => .inr (by rcases this.2 d hd with h | h; cases h; exact .tail _ h)⟩
      · rename_i hc
        rcases List.mem_cons.mp h with rfl | h
        · exact ⟨fun e => hc (by rw [e]; rfl), fun c hc => .inl hc⟩
        · have := wgo_mem [] r x h
          exact ⟨this.1, fun d hd => .inr (by rcases this.2 d hd with h | h; cases h; exact .tail _ h)⟩
    · have := wgo_mem (cur ++ [c]) r x h
      refine ⟨this.1, fun d hd => ?_⟩
      rcases this.2 d hd with h | h
      · rcases List.mem_append.mp h with h | h
        · exact .inl h
        · rw [List.mem_singleton.mp h]; exact .inr (.head _)
      · exact .inr (.tail _ h)
theorem take_drop_step {α} (l : List α) (a b : Nat) (d : α) (h1 : a ≤ b) (h2 : b < l.length) : (l.drop a).take (b + 1 - a) = (l.drop a).take (b - a) ++ [l.getD b d] := by
  rw [show b + 1 - a = (b - a) + 1 by omega, take_snoc (l.drop a) (b - a) d (by simp; omega)]
  congr 2
  rw [getD_at _ _ (by simp; omega), getD_at _ _ h2]; simp only [List.getElem_drop]; congr 1; omega
end Fil
namespace Fil

/-- a side goal: a size or a bound -/
structure Sz (p : Prop) : Prop where
  mk ::
  h : p
/-- a side goal that computes -/
structure Sr (p : Prop) : Prop where
  mk ::
  h : p
theorem fb1 {α : Type} {n : Nat} {P : List α → Prop} (e : n = 1) (h : ∀ a, P [a]) (vs : List α) (hv : vs.length = n) : P vs := by
  subst e; obtain ⟨a, rfl⟩ := List.length_eq_one_iff.mp hv; exact h a
theorem fb2 {α : Type} {n : Nat} {P : List α → Prop} (e : n = 2) (h : ∀ a b, P [a, b]) (vs : List α) (hv : vs.length = n) : P vs := by
  subst e; cases vs with
  | nil => cases hv
  | cons a l => exact fb1 (P := fun l => P (a :: l)) rfl (h a) l (by simpa using hv)
theorem fb3 {α : Type} {n : Nat} {P : List α → Prop} (e : n = 3) (h : ∀ a b c, P [a, b, c]) (vs : List α) (hv : vs.length = n) : P vs := by
  subst e; cases vs with
  | nil => cases hv
  | cons a l => exact fb2 (P := fun l => P (a :: l)) rfl (h a) l (by simpa using hv)
theorem fb4 {α : Type} {n : Nat} {P : List α → Prop} (e : n = 4) (h : ∀ a b c d, P [a, b, c, d]) (vs : List α) (hv : vs.length = n) : P vs := by
  subst e; cases vs with
  | nil => cases hv
  | cons a l => exact fb3 (P := fun l => P (a :: l)) rfl (h a) l (by simpa using hv)

section
variable {Q : AV → Prop} {R : Bool → Prop} {i j : Int} {k m : Nat} {l l' : List AV} {x y : Str} {a b : List Nat} {is : List Int}
theorem u1 (q : Q (.int (i + j))) : ∃ c, BinV .Add (.int i) (.int j) c ∧ Q c := ⟨_, BinV.add, q⟩
theorem u2 (q : Q (.int (i - j))) : ∃ c, BinV .Sub (.int i) (.int j) c ∧ Q c := ⟨_, BinV.sub, q⟩
theorem u3 (h : Sz (l.length + l'.length ≤ 2 ^ 23)) (q : Q (.list (l ++ l'))) : ∃ c, BinV .Add (.list l) (.list l') c ∧ Q c := ⟨_, BinV.cat h.h, q⟩
theorem u4 (h : Sz (x.length + y.length ≤ 2 ^ 23)) (q : Q (.str (x ++ y))) : ∃ c, BinV .Add (.str x) (.str y) c ∧ Q c := ⟨_, BinV.strcat h.h, q⟩
theorem u5 (q : R (i == j)) : ∃ c, CmpV .Eq (.int i) (.int j) c ∧ R c := ⟨_, CmpV.eq, q⟩
theorem u6 (q : R (i != j)) : ∃ c, CmpV .NotEq (.int i) (.int j) c ∧ R c := ⟨_, CmpV.ne, q⟩
theorem u7 (q : R (decide (i < j))) : ∃ c, CmpV .Lt (.int i) (.int j) c ∧ R c := ⟨_, CmpV.lt, q⟩
theorem u8 (q : R (decide (i ≤ j))) : ∃ c, CmpV .LtE (.int i) (.int j) c ∧ R c := ⟨_, CmpV.le, q⟩
theorem u9 (q : R (decide (j < i))) : ∃ c, CmpV .Gt (.int i) (.int j) c ∧ R c := ⟨_, CmpV.gt, q⟩
theorem u10 (q : R (decide (j ≤ i))) : ∃ c, CmpV .GtE (.int i) (.int j) c ∧ R c := ⟨_, CmpV.ge, q⟩
theorem u11 (q : R (x == y)) : ∃ c, CmpV .Eq (.str x) (.str y) c ∧ R c := ⟨_, CmpV.seq, q⟩
theorem u12 (q : R (x != y)) : ∃ c, CmpV .NotEq (.str x) (.str y) c ∧ R c := ⟨_, CmpV.sne, q⟩
theorem u13 (q : R (is.any (· == i))) : ∃ c, CmpV .In (.int i) (.tup (is.map .int)) c ∧ R c := ⟨_, CmpV.inTup, q⟩
theorem u14 (q : R (is.any (· == i))) : ∃ c, CmpV .In (.int i) (iL is) c ∧ R c := ⟨_, CmpV.inList, q⟩
theorem u15 (q : R (!(Builtin.Str.occurrences x y 0 x.length 1).isEmpty)) : ∃ c, CmpV .In (.str y) (.str x) c ∧ R c := ⟨_, CmpV.inStr, q⟩
theorem u16 (h : Sz (l.length ≤ 2 ^ 23)) (q : Q (.int l.length)) : ∃ c, FunV "len" [.list l] c ∧ Q c := ⟨_, FunV.lenList h.h, q⟩
theorem u17 (h : Sz (x.length ≤ 2 ^ 23)) (q : Q (.int x.length)) : ∃ c, FunV "len" [.str x] c ∧ Q c := ⟨_, FunV.lenStr h.h, q⟩
theorem u18 (q : Q (.int (if i < 0 then -i else i))) : ∃ c, FunV "abs" [.int i] c ∧ Q c := ⟨_, FunV.abs, q⟩
theorem u19 (q : Q (.int k)) : ∃ c, FunV "ord" [.str ⟨#[k]⟩] c ∧ Q c := ⟨_, FunV.ord, q⟩
theorem u20 (e : Sr (i = (k : Int))) (h : Sz (k < is.length ∧ is.length ≤ 2 ^ 23)) (q : Q (.int (is.getD k 0))) : ∃ c, IdxV (iL is) (.int i) c ∧ Q c := ⟨_, e.h ▸ idx_iL h.h, q⟩
theorem u21 (e : Sr (i = (k : Int))) (h : Sz (l.length ≤ 2 ^ 23)) (q : Q (.list (l.take k))) : ∃ c, SlV (.list l) none (some i) c ∧ Q c := ⟨_, SlV.upto e.h h.h, q⟩
theorem u22 {α β : Type} {f : α → β} {x : α} {Q : α → Prop} (q : Q x) : ∃ y, f x = f y ∧ Q y := ⟨_, rfl, q⟩
theorem u47 {n : Nat} {Q : Nat → Prop} (q : Q n) : ∃ y : Nat, AV.int (n : Int) = AV.int (y : Int) ∧ Q y := ⟨_, rfl, q⟩
theorem u23 {vs : List Str} {σ σ' : St} {x : Str} {sl : Slot} {Q : St → Prop} (h : Put vs σ x sl σ') (q : Q σ') : ∃ σ', Put vs σ x sl σ' ∧ Q σ' := ⟨_, h, q⟩
theorem u24 {vs vs' : List Str} {σ τ τ' : St} {x x' : Str} {sl sl' : Slot} {p : Prop} {Q : St → Prop} (g : Look vs τ x sl) (s : Sz p) (h : Put vs' σ x' sl' τ') (q : Q τ') : Look vs τ x sl ∧ p ∧ ∃ σ', Put vs' σ x' sl' σ' ∧ Q σ' := ⟨g, s.h, _, h, q⟩
theorem u25 {α : Type} {l : List α} {Q : Prop} (h : Sz (l.length ≤ 2 ^ 23)) (q : Q) : l.length ≤ 2 ^ 23 ∧ Q := ⟨h.h, q⟩
theorem u26 (h : Sz (-1073741824 < j ∧ j < 1073741824)) (q : Q (.int (i * j))) : ∃ c, BinV .Mult (.int i) (.int j) c ∧ Q c := ⟨_, BinV.mulS h.h, q⟩
theorem u27 (h : Sz (0 < j ∧ j < 1073741824)) (q : Q (.int (i / j))) : ∃ c, BinV .FloorDiv (.int i) (.int j) c ∧ Q c := ⟨_, BinV.fdivS h.h, q⟩
theorem u28 (h : Sz (0 < j)) (q : Q (.int (i % j))) : ∃ c, BinV .Mod (.int i) (.int j) c ∧ Q c := ⟨_, BinV.mod h.h, q⟩
theorem u29 (h : Sz (a.length + b.length ≤ 2 ^ 23)) (q : Q (sL (a ++ b))) : ∃ c, BinV .Add (sL a) (sL b) c ∧ Q c := ⟨_, BinV.catS h.h, q⟩
theorem u30 (q : R (decide (a = b))) : ∃ c, CmpV .Eq (sL a) (sL b) c ∧ R c := ⟨_, CmpV.seqS, q⟩
theorem u31 (q : R (!decide (a = b))) : ∃ c, CmpV .NotEq (sL a) (sL b) c ∧ R c := ⟨_, CmpV.sneS, q⟩
theorem u32 (q : R (decide (k ∈ a))) : ∃ c, CmpV .In (sL [k]) (sL a) c ∧ R c := ⟨_, CmpV.inS, q⟩
theorem u33 (h : Sz (a.length ≤ 2 ^ 23)) (q : Q (.int a.length)) : ∃ c, FunV "len" [sL a] c ∧ Q c := ⟨_, FunV.lenS h.h, q⟩
theorem u34 (e : Sr (i = (k : Int))) (h : Sz (k < a.length)) (h2 : Sz (a.length ≤ 2 ^ 23)) (q : Q (sL [a.getD k 0])) : ∃ c, IdxV (sL a) (.int i) c ∧ Q c := ⟨_, e.h ▸ idx_sL h.h h2.h, q⟩
theorem u35 (e : Sr (i = (k : Int))) (h : Sz (k ≤ a.length)) (h2 : Sz (a.length ≤ 2 ^ 20)) (q : Q (sL (a.take k))) : ∃ c, SlV (sL a) none (some i) c ∧ Q c := ⟨_, SlV.strTo e.h h.h h2.h, q⟩
theorem u36 (e : Sr (i = (k : Int))) (h : Sz (l.length ≤ 2 ^ 23)) (q : Q (.list (l.drop k))) : ∃ c, SlV (.list l) (some i) none c ∧ Q c := ⟨_, SlV.from e.h h.h, q⟩
theorem u37 (e : Sr (i = (k : Int))) (e2 : Sr (j = (m : Int))) (h1 : Sz (k ≤ m)) (h2 : Sz (m ≤ l.length)) (h : Sz (l.length ≤ 2 ^ 23)) (q : Q (.list ((l.drop k).take (m - k)))) : ∃ c, SlV (.list l) (some i) (some j) c ∧ Q c := ⟨_, SlV.run e.h e2.h h1.h h2.h h.h, q⟩
theorem u38 (q : Q (.bool (decide (b = a.take b.length)))) : ∃ c, FunV "str.startswith" [sL a, sL b] c ∧ Q c := ⟨_, FunV.startsS, q⟩
theorem u39 (q : R (decide (l.length = 0))) : ∃ c, CmpV .Eq (.list l) (.list []) c ∧ R c := ⟨_, CmpV.eqNil, q⟩
theorem u40 (q : R (!decide (l.length = 0))) : ∃ c, CmpV .NotEq (.list l) (.list []) c ∧ R c := ⟨_, CmpV.neNil, q⟩
theorem u41 (q : R true) : ∃ c, CmpV .IsNot (.str x) .none c ∧ R c := ⟨_, CmpV.isNotStr, q⟩
theorem u42 (q : R false) : ∃ c, CmpV .IsNot .none .none c ∧ R c := ⟨_, CmpV.isNotNone, q⟩
theorem u43 (h : Sz (1 ≤ a.length)) (h2 : Sz (a.length ≤ 2 ^ 20)) (q : Q (sL a.dropLast)) : ∃ c, SlV (sL a) none (some (-1)) c ∧ Q c := ⟨_, SlV.strInit h.h h2.h, q⟩
theorem u44 (h : Sz (a.length ≤ 2 ^ 20)) (q : Q (.list ((wsN a).map sL))) : ∃ c, FunV "str.split" [sL a] c ∧ Q c := ⟨_, FunV.splitS h.h, q⟩
theorem u45 (h : Sz (a.length ≤ 2 ^ 20)) (q : Q (.str (Txt.stripChars ⟨a.toArray⟩ " \t"))) : ∃ c, FunV "str.strip" [sL a, .str " \t"] c ∧ Q c := ⟨_, FunV.stripSp h.h, q⟩
theorem u46 (e : Sr (i = (k : Int))) (h : Sz (k ≤ a.length)) (h2 : Sz (a.length ≤ 2 ^ 20)) (q : Q (sL (a.drop k))) : ∃ c, SlV (sL a) (some i) none c ∧ Q c := ⟨_, SlV.strFrom e.h h.h h2.h, q⟩
end
section
variable {w : World} {V G : List Str} {F : Fm V G} {res : List (Addr × Obj)} {n k : Nat} {σ : St} {p pos : Pos} {x : Str} {e e2 : Expr} {es : List Expr} {P : AV → St → Prop} {B : Bool → St → Prop} {A : List AV → St → Prop} {S : Fl → St → Prop}
theorem k1 (h : Ev w F res n (.Name x p) σ P) : Ev w F res n (.Name x p) σ P := h
theorem k2 (h : Ev w F res n (.Call (.Name x p) es [] pos) σ P) : Ev w F res n (.Call (.Name x p) es [] pos) σ P := h
theorem k3 (h : El w F res n pos (e :: es) σ A) : El w F res n pos (e :: es) σ A := h
theorem k4 {op : CmpOp} (h : Ev w F res n (.Compare e [op] [e2] pos) σ P) : Ev w F res n (.Compare e [op] [e2] pos) σ P := h
theorem k5 {op : CmpOp} (h : Bv w F res n (.Compare e [op] [e2] pos) σ B) : Bv w F res n (.Compare e [op] [e2] pos) σ B := h
theorem k6 (h : Bv w F res n e σ B) : Bv w F res n e σ B := h
theorem k7 {name : Str} (h : Ev w F res n (.Call (.Attribute e name p) es [] pos) σ P) : Ev w F res n (.Call (.Attribute e name p) es [] pos) σ P := h
theorem k8 (h : Ex w F res n (.Assign [.Name x p] e pos) σ S) : Ex w F res n (.Assign [.Name x p] e pos) σ S := h
theorem k9 {q : Pos} (h : Ex w F res n (.Assign [.Name x p] (.List [] q) pos) σ S) : Ex w F res n (.Assign [.Name x p] (.List [] q) pos) σ S := h
theorem k10 {ts : List Expr} {ss : List Stmt} (h : Ex w F res n (.Assign ts e pos) σ (Nx (fun σ1 => Exs w F res n ss σ1 S) S)) : Exs w F res n (.Assign ts e pos :: ss) σ S := .cons h
theorem k12 {s : Expr} (h : Ev w F res n (.Subscript e s pos) σ P) : Ev w F res n (.Subscript e s pos) σ P := h
theorem k13 {y : Str} {q : Pos} (h : Ev w F res n (.Call (.Name "len" p) [.Name y q] [] pos) σ P) : Ev w F res n (.Call (.Name "len" p) [.Name y q] [] pos) σ P := h
theorem k14 {name : Str} (h : Ev w F res n (.Call (.Attribute e name p) [] [] pos) σ P) : Ev w F res n (.Call (.Attribute e name p) [] [] pos) σ P := h
theorem k15 {a b : AV} {Q : AV → Prop} (h : ∃ c, IdxV a b c ∧ Q c) : ∃ c, IdxV a b c ∧ Q c := h
theorem k16 {v : AV} {lo hi : Option Int} {Q : AV → Prop} (h : ∃ c, SlV v lo hi c ∧ Q c) : ∃ c, SlV v lo hi c ∧ Q c := h
theorem k17 {name : Str} (h : Ev w F res n (.Attribute e name p) σ P) : Ev w F res n (.Attribute e name p) σ P := h
theorem k18 {vs : List Str} {τ : St} {sl : Slot} {Q : St → Prop} (h : ∃ σ', Put vs τ x sl σ' ∧ Q σ') : ∃ σ', Put vs τ x sl σ' ∧ Q σ' := h
theorem k19 {vs : List Str} {τ : St} {sl : Slot} {Q : Prop} (h : Look vs τ x sl ∧ Q) : Look vs τ x sl ∧ Q := h
theorem k11 {o : Option Expr} {ss : List Stmt} (h : Ex w F res n (.Return o pos) σ (Nx (fun σ1 => Exs w F res n ss σ1 S) S)) : Exs w F res n (.Return o pos :: ss) σ S := .cons h
end
end Fil
namespace Fil
section
variable {w : World} {n : Nat}
local macro_rules | `(tactic| walk_at "ns") => `(tactic| (show nsIn (hd.heap_1 _) mainGlobals _ = _; k_is))
theorem G1 : Glob w "BLANK_fillwords" (.int 32) := ⟨_, by walk_at "ns", fun _ _ => ⟨_, rfl⟩⟩
theorem G2 : Glob w "TAB_fillwords" (.int 9) := ⟨_, by walk_at "ns", fun _ _ => ⟨_, rfl⟩⟩
theorem G3 : Glob w "ROW_END_fillwords" (.int 10) := ⟨_, by walk_at "ns", fun _ _ => ⟨_, rfl⟩⟩
theorem G4 : Glob w "PERIOD" (.int 46) := ⟨_, by walk_at "ns", fun _ _ => ⟨_, rfl⟩⟩
theorem G5 : Glob w "BLANK_filltext" (.int 32) := ⟨_, by walk_at "ns", fun _ _ => ⟨_, rfl⟩⟩
theorem G6 : Glob w "TAB_filltext" (.int 9) := ⟨_, by walk_at "ns", fun _ _ => ⟨_, rfl⟩⟩
theorem G7 : Glob w "ROW_END_filltext" (.int 10) := ⟨_, by walk_at "ns", fun _ _ => ⟨_, rfl⟩⟩
theorem G8 : Glob w "TAB_rectcols" (.int 9) := ⟨_, by walk_at "ns", fun _ _ => ⟨_, rfl⟩⟩
theorem kAt {z : Heap} {a : Addr} {o : Obj} (h : (KK w).In z) (e : List.lookup a (hd.heap_1 w.params) = some o) : z.get? a = some o := h _ _ e
theorem G9 : Glob w "ENDS" (.tup ([33, 46, 63].map .int)) := ⟨.ref 15, by walk_at "ns", fun z hz => ⟨15, _, _, rfl, kAt hz (by k_is), ⟨_, _, rfl, ⟨_, rfl⟩, _, _, rfl, ⟨_, rfl⟩, _, _, rfl, ⟨_, rfl⟩, rfl⟩⟩⟩
theorem G10 : Glob w "CLOSERS" (.tup ([34, 39, 41, 93, 125].map .int)) := ⟨.ref 16, by walk_at "ns", fun z hz => ⟨16, _, _, rfl, kAt hz (by k_is), ⟨_, _, rfl, ⟨_, rfl⟩, _, _, rfl, ⟨_, rfl⟩, _, _, rfl, ⟨_, rfl⟩, _, _, rfl, ⟨_, rfl⟩, _, _, rfl, ⟨_, rfl⟩, rfl⟩⟩⟩
theorem B1 : GlobB w "len" (.builtin "len") := ⟨by walk_at "ns", by decide +kernel⟩
theorem B2 : GlobB w "range" (.type "range") := ⟨by walk_at "ns", by decide +kernel⟩
theorem B3 : GlobB w "abs" (.builtin "abs") := ⟨by walk_at "ns", by decide +kernel⟩
theorem B4 : GlobB w "ord" (.builtin "ord") := ⟨by walk_at "ns", by decide +kernel⟩
theorem DDall : ∀ p ∈ ([("is_blank", 23), ("ends_sentence", 30), ("gap_of", 37), ("pieces_of", 44), ("may_break", 51), ("row_end", 58), ("rows_of", 65), ("row_codes", 79), ("own_gaps", 84), ("placed_row", 96), ("column_behind", 103), ("column_at", 110), ("row_columns", 117), ("split_rows", 145), ("joined_rows", 152), ("lead_of", 159), ("common_start", 166), ("is_blank_lead", 173), ("leads_of", 180), ("filled_paragraph", 187), ("filled_text", 194), ("_law_draw", 201), ("_law_deck_of", 206), ("_law_one", 213), ("_law_lead", 225), ("_law_wide", 232), ("_law_shared", 239), ("_law_wrapped", 246), ("_law_due_of", 253)] : List (Str × Nat)), GlobD w p.1 p.2 := by
  repeat' first | refine List.forall_mem_cons.mpr ⟨?_, ?_⟩ | (refine ⟨by show nsIn (hd.heap_1 _) mainGlobals _ = _; k_is, _, _, _, _, by show List.lookup _ (hd.heap_1 _) = _; k_is⟩) | exact nofun
theorem DD {x : Str} {f : Nat} (h : (x, f) ∈ ([("is_blank", 23), ("ends_sentence", 30), ("gap_of", 37), ("pieces_of", 44), ("may_break", 51), ("row_end", 58), ("rows_of", 65), ("row_codes", 79), ("own_gaps", 84), ("placed_row", 96), ("column_behind", 103), ("column_at", 110), ("row_columns", 117), ("split_rows", 145), ("joined_rows", 152), ("lead_of", 159), ("common_start", 166), ("is_blank_lead", 173), ("leads_of", 180), ("filled_paragraph", 187), ("filled_text", 194), ("_law_draw", 201), ("_law_deck_of", 206), ("_law_one", 213), ("_law_lead", 225), ("_law_wide", 232), ("_law_shared", 239), ("_law_wrapped", 246), ("_law_due_of", 253)] : List (Str × Nat))) : GlobD w x f := DDall _ h
theorem D201 : GlobD w "_law_draw" 201 := DDall ("_law_draw", 201) (by repeat first | exact List.mem_cons_self | refine List.mem_cons_of_mem _ ?_)
theorem D206 : GlobD w "_law_deck_of" 206 := DDall ("_law_deck_of", 206) (by repeat first | exact List.mem_cons_self | refine List.mem_cons_of_mem _ ?_)
theorem D213 : GlobD w "_law_one" 213 := DDall ("_law_one", 213) (by repeat first | exact List.mem_cons_self | refine List.mem_cons_of_mem _ ?_)
local macro_rules | `(tactic| walk_at "ag") => `(tactic| first | (show plainGet (hd.heap_1 _) _ _ = _; k_is) | (show hasDictIn (hd.heap_1 _) _ = _; k_is) | exact ⟨_, by show findIn (hd.heap_1 _) _ _ = _; k_is, by show noGet (hd.heap_1 _) _ = _; k_is⟩)
theorem A1 {c y d t : AV} : AttrV w "column" (.fill c y d t) c := ⟨by walk_at "ag", by walk_at "ag", by walk_at "ag", fun z v ⟨x, dx, es, k, sl, v1, v2, v3, v4, e, g, gd, q, r1, r2, r3, r4⟩ => ⟨x, dx, es, k, sl, v1, e, g, gd, q.1, r1⟩⟩
theorem A2 {c y d t : AV} : AttrV w "way" (.fill c y d t) y := ⟨by walk_at "ag", by walk_at "ag", by walk_at "ag", fun z v ⟨x, dx, es, k, sl, v1, v2, v3, v4, e, g, gd, q, r1, r2, r3, r4⟩ => ⟨x, dx, es, k, sl, v2, e, g, gd, q.2.1, r2⟩⟩
theorem A3 {c y d t : AV} : AttrV w "leads" (.fill c y d t) d := ⟨by walk_at "ag", by walk_at "ag", by walk_at "ag", fun z v ⟨x, dx, es, k, sl, v1, v2, v3, v4, e, g, gd, q, r1, r2, r3, r4⟩ => ⟨x, dx, es, k, sl, v3, e, g, gd, q.2.2.1, r3⟩⟩
theorem A4 {c y d t : AV} : AttrV w "tab" (.fill c y d t) t := ⟨by walk_at "ag", by walk_at "ag", by walk_at "ag", fun z v ⟨x, dx, es, k, sl, v1, v2, v3, v4, e, g, gd, q, r1, r2, r3, r4⟩ => ⟨x, dx, es, k, sl, v4, e, g, gd, q.2.2.2, r4⟩⟩
end
end Fil
namespace Fil
local macro_rules | `(tactic| walk_at "lk") => `(tactic| with_reducible first | exact Look.head | exact Put.head | exact List.mem_cons_self | ((first | apply Look.tail | apply Put.tail | apply List.mem_cons_of_mem); walk_at "lk"))
local macro_rules | `(tactic| walk_at "gd") => do
  let e := ("G1 G2 G3 G4 G5 G6 G7 G8 G9 G10 B1 B2 B3 B4 A1 A2 A3 A4 M1 M2 M3 M4".splitOn " ").toArray.map fun x => Lean.mkIdent x.toName
  `(tactic| with_reducible first $[| exact $e]* | (apply DD; walk_at "lk"))
local macro_rules | `(tactic| walk_at "sz") => `(tactic| first | assumption | omega | (simp only [List.length_map, List.length_cons, List.length_nil, List.length_append, List.length_take, List.length_drop, List.length_replicate]; omega) | (simp_all <;> omega))
local macro_rules | `(tactic| walk_at "s1") => do
  let f (s : String) : Array Lean.Ident := (s.splitOn " ").toArray.map fun x => Lean.mkIdent x.toName
  let a := f "Ev.int Ev.str Ev.bool Ev.none Ev.bin Ev.boolOne Ev.and Ev.or Ev.ifExp Ev.list Ev.tuple Ev.slice Ev.neg El.nil Bd.none Bd.some Bv.not Bv.andNil Bv.orNil Bv.and Bv.or"
  let b := f "u44 u45 u26 u27 u28 u29 u33 u3 u4 u16 u17 u25"
  let b4 := f "u43 u46 u34 u35 u36 u37 u20 u21"
  let c := f "u38 u39 u40 u41 u42 u30 u31 u32 u1 u2 u5 u6 u7 u8 u9 u10 u11 u12 u13 u14 u15 u18 u19 u47 u22"
  let d := f "Exs.nil k10 k11 Nx.next Nx.ret Lp.next Lp.ret Rt.ret Ex.ret Ex.if"
  let g := f "k12 k3 k4 k5 k6 k8"
  let h := f "Ev.index El.cons Ev.cmp Bv.cmp Bv.plain Ex.assign"
  `(tactic| first
  | ((with_reducible refine k1 ?_); first | ((with_reducible apply Ev.name); walk_at "lk") | ((with_reducible apply Ev.glob); walk_at "lk"; walk_at "gd") | refine Ev.nameO (by walk_at "lk") (by walk_at "lk") (by assumption) ?_)
  | (with_reducible first $[| refine $a ?_]*)
  | ((with_reducible refine k17 ?_); (with_reducible apply Ev.attr); walk_at "lk"; walk_at "gd")
  | ((with_reducible refine k2 ?_); first | refine Ev.callD (by walk_at "lk") (by walk_at "gd") ?_ | ((with_reducible refine k13 ?_); refine Ev.lenO (by walk_at "lk") B1 (by walk_at "lk") (by walk_at "sz") ?_) | refine Ev.callB (by walk_at "lk") (by walk_at "gd") ?_)
  | ((with_reducible refine k7 ?_); first | ((with_reducible refine k14 ?_); refine Ev.meth0 (by walk_at "gd") ?_) | refine Ev.meth (by walk_at "gd") ?_)
  | ((with_reducible first $[| refine $b ?_ ?_]* | ((first | refine k15 ?_ | refine k16 ?_); first $[| apply $b4]*)); (repeat first | ((with_reducible refine Sz.mk ?_); walk_at "sz") | ((with_reducible refine Sr.mk ?_); rfl)); fail_if_success (with_reducible first | refine Sz.mk ?_ | refine Sr.mk ?_))
  | (with_reducible first $[| refine $c ?_]*)
  | ((with_reducible refine k18 ?_); (with_reducible apply u23); walk_at "lk")
  | ((with_reducible refine k19 ?_); (with_reducible apply u24); walk_at "lk"; refine ⟨by walk_at "sz"⟩; walk_at "lk")
  | (with_reducible first $[| refine $d ?_]*)
  | ((with_reducible refine k9 ?_); refine Ex.assignO (EvO.list (El.nil ⟨by simp, _, by walk_at "lk", ?_⟩)))
  $[| ((with_reducible refine $g ?_); refine $h ?_)]*)
local macro_rules | `(tactic| walk_at "sp") => do
  let e := ("decide_eq_true_eq decide_eq_false_iff_not List.length_map beq_iff_eq beq_eq_false_iff_ne bne_iff_ne bne_eq_false_iff_eq Bool.not_eq_true' Bool.not_eq_false' Bool.not_true Bool.not_false Int.not_lt Int.not_le ne_eq Classical.not_not reduceCtorEq Bool.true_eq_false Bool.false_eq_true Int.ofNat_lt Int.ofNat_le".splitOn " ").toArray.map fun x => Lean.mkIdent x.toName
  `(tactic| ((with_reducible show (_ = _ → _) ∧ (_ = _ → _)); refine ⟨?_, ?_⟩ <;> intro hb <;> (try simp only [$[$e:ident],*] at hb)))
section
variable {w : World} {n : Nat}

theorem is_blank_spec (c : Int) : Cl w (n + 2) 23 [.int c] (fun r => r = .bool (isBl c)) := by
  refine Cl.intro (names := ["code"]) (vars := ["code"]) (globs := ["BLANK_fillwords", "TAB_fillwords", "ROW_END_fillwords"]) (σ0 := [some (.v (.int c))]) (by (show List.lookup _ (hd.heap_1 _) = _; k_is)) (by (show codeIn (hd.heap_1 _) _ _ = _; k_is)) (by (exact fb1 rfl fun _ => rfl)) ⟨_, rfl⟩ rfl rfl (by decide +kernel) (by decide +kernel) (by decide +kernel) rfl rfl rfl (by decide +kernel) ?_
  intro F hsc hmt; clear hsc
  (repeat' first | walk_at "s1" | walk_at "sp") <;> simp_all [isBl]
noncomputable def isLead (leads : List Int) (c : Int) : Bool := c == 32 || c == 9 || leads.any (· == c)
theorem lead_of_spec (row leads : List Int) (col way tab : AV) (hr : row.length ≤ 2 ^ 20) (hl : leads.length ≤ 2 ^ 20) :
    Cl w (n + 2) 159 [iL row, .fill col way (iL leads) tab] (fun r => r = iL (row.takeWhile (isLead leads))) := by
  refine Cl.intro (names := ["row", "filling"]) (vars := ["row", "filling", "at"]) (globs := ["len", "BLANK_filltext", "TAB_filltext"]) (σ0 := [some (.v (iL row)), some (.v (.fill col way (iL leads) tab)), none]) (by (show List.lookup _ (hd.heap_1 _) = _; k_is)) (by (show codeIn (hd.heap_1 _) _ _ = _; k_is)) (by (exact fb2 rfl fun _ _ => rfl)) ⟨_, rfl⟩ rfl rfl (by decide +kernel) (by decide +kernel) (by decide +kernel) rfl rfl rfl (by decide +kernel) ?_
  intro F hsc hmt; clear hsc
  (repeat walk_at "s1")
  refine Exs.cut (fun σ => ∃ at_ : Nat, σ = [some (.v (iL row)), some (.v (.fill col way (iL leads) tab)), some (.v (.int at_))] ∧ at_ ≤ row.length ∧ (row.take at_).all (isLead leads) = true ∧ (at_ < row.length → isLead leads (row.getD at_ 0) = false)) ?_ ?_
  · refine Ex.whileC (fun k σ => ∃ at_ : Nat, σ = [some (.v (iL row)), some (.v (.fill col way (iL leads) tab)), some (.v (.int at_))] ∧ at_ ≤ row.length ∧ (row.take at_).all (isLead leads) = true ∧ k = row.length - at_) row.length ⟨0, rfl, Nat.zero_le _, by simp, rfl⟩ ?_
    rintro k σ ⟨at_, rfl, h1, h2, rfl⟩
    refine ⟨decide (at_ < row.length) && isLead leads (row.getD at_ 0), ?_, fun h3 => ?_, fun h3 => ?_⟩
    · (repeat' first | walk_at "s1" | walk_at "sp") <;> first | (simp_all [isLead]; done) | (rw [decide_eq_false (by omega)]; exact ⟨rfl, rfl⟩)
    · simp only [Bool.and_eq_true, decide_eq_true_eq] at h3
      (repeat' first | walk_at "s1" | walk_at "sp")
      exact ⟨row.length - (at_ + 1), by omega, at_ + 1, rfl, h3.1, all_take_succ _ _ _ 0 h2 h3.1 h3.2, rfl⟩
    · (repeat' first | walk_at "s1" | walk_at "sp")
      refine ⟨at_, rfl, h1, h2, fun h4 => ?_⟩
      simpa [h4] using h3
  · rintro σ ⟨at_, rfl, h1, h2, h3⟩
    (repeat' first | walk_at "s1" | walk_at "sp")
    rw [takeWhile_eq _ 0 _ _ h1 h2 h3, iL, List.map_take]
end
section
variable {w : World} {n : Nat}
noncomputable def Pl (c : Int) : Bool := !([34, 39, 41, 93, 125, 33, 46, 63].any (· == c))
theorem ends_sentence_spec (word : List Int) (h1 : word ≠ []) (h2 : word.length ≤ 2 ^ 20) (hp : ∀ c ∈ word, Pl c = true) : Cl w (n + 2) 30 [iL word] (fun r => r = .bool false) := by
  refine Cl.intro (names := ["word"]) (vars := ["word", "at"]) (globs := ["len", "ENDS", "CLOSERS"]) (σ0 := [some (.v (iL word)), none]) (by (show List.lookup _ (hd.heap_1 _) = _; k_is)) (by (show codeIn (hd.heap_1 _) _ _ = _; k_is)) (by (exact fb1 rfl fun _ => rfl)) ⟨_, rfl⟩ rfl rfl (by decide +kernel) (by decide +kernel) (by decide +kernel) rfl rfl rfl (by decide +kernel) ?_
  intro F hsc hmt; clear hsc
  have hl : 1 ≤ word.length := by cases word with | nil => exact absurd rfl h1 | cons => simp
  have e : ((word.length : Int) - 1) = ((word.length - 1 : Nat) : Int) := by omega
  have hq : Pl (word.getD (word.length - 1) 0) = true := hp _ (by rw [getD_at word 0 (by omega)]; exact List.getElem_mem _)
  simp only [Pl, Bool.not_eq_true', List.any_cons, List.any_nil, Bool.or_false, Bool.or_eq_false_iff] at hq
  (repeat walk_at "s1")
  rw [List.length_map, e]
  refine Exs.cut (fun σ => σ = [some (.v (iL word)), some (.v (.int ((word.length - 1 : Nat) : Int)))]) ?_ ?_
  · refine Ex.whileC (fun k σ => σ = [some (.v (iL word)), some (.v (.int ((word.length - 1 : Nat) : Int)))]) 0 rfl ?_
    rintro k σ rfl
    refine ⟨false, ?_, (fun h => nomatch h), fun _ => ?_⟩
    · (repeat' first | walk_at "s1" | walk_at "sp")
      all_goals simp_all
    · (repeat' first | walk_at "s1" | walk_at "sp")
      rfl
  · rintro σ rfl
    (repeat' first | walk_at "s1" | walk_at "sp") 
    all_goals simp_all
theorem gap_of_spec (word between : List Int) (h1 : word ≠ []) (h2 : word.length ≤ 2 ^ 20) (hp : ∀ c ∈ word, Pl c = true) : Cl w (n + 3) 37 [iL word, iL between] (fun r => r = .int 1) := by
  refine Cl.intro (names := ["word", "between"]) (vars := ["word", "between"]) (globs := ["ends_sentence", "len", "ROW_END_fillwords"]) (σ0 := [some (.v (iL word)), some (.v (iL between))]) (by (show List.lookup _ (hd.heap_1 _) = _; k_is)) (by (show codeIn (hd.heap_1 _) _ _ = _; k_is)) (by (exact fb2 rfl fun _ _ => rfl)) ⟨_, rfl⟩ rfl rfl (by decide +kernel) (by decide +kernel) (by decide +kernel) rfl rfl rfl (by decide +kernel) ?_
  intro F hsc hmt; clear hsc
  refine Exs.cons ?_
  (repeat' first | walk_at "s1" | walk_at "sp")
  refine Cl.mono (ends_sentence_spec word h1 h2 hp) ?_
  rintro _ rfl
  (repeat' first | walk_at "s1" | walk_at "sp")
  all_goals simp_all
theorem is_blank_lead_spec (lead : List Int) (h : lead.length ≤ 2 ^ 20) : Cl w (n + 2) 173 [iL lead] (fun r => r = .bool (lead.all fun c => c == 32 || c == 9)) := by
  refine Cl.intro (names := ["lead"]) (vars := ["lead", "code"]) (globs := ["BLANK_filltext", "TAB_filltext"]) (σ0 := [some (.v (iL lead)), none]) (by (show List.lookup _ (hd.heap_1 _) = _; k_is)) (by (show codeIn (hd.heap_1 _) _ _ = _; k_is)) (by (exact fb1 rfl fun _ => rfl)) ⟨_, rfl⟩ rfl rfl (by decide +kernel) (by decide +kernel) (by decide +kernel) rfl rfl rfl (by decide +kernel) ?_
  intro F hsc hmt; clear hsc
  refine Exs.cut (fun σ => ∃ x, σ = [some (.v (iL lead)), x] ∧ (lead.all fun c => c == 32 || c == 9) = true) ?_ ?_
  · refine Ex.forList ?_
    refine Ev.name (by walk_at "lk") ⟨_, rfl, fun i σ => ∃ x, σ = [some (.v (iL lead)), x] ∧ ((lead.take i).all fun c => c == 32 || c == 9) = true, ⟨_, rfl, by simp⟩, ?_, ?_⟩
    · rintro i σ p hi ⟨x, rfl, h1⟩
      rw [List.length_map] at hi
      refine As.cast (getD_map _ _ _ _ 0 hi) (As.name (by walk_at "lk") ?_)
      refine Exs.cons (Ex.ifC (!(lead.getD i 0 == 32 || lead.getD i 0 == 9)) ?_ ?_ ?_)
      · (repeat' first | walk_at "s1" | walk_at "sp") <;> simp_all
      · intro hb
        (repeat' first | walk_at "s1" | walk_at "sp")
        symm
        refine congrArg AV.bool ?_
        rw [← Bool.not_eq_true, List.all_eq_true]
        intro h3
        have := h3 (lead.getD i 0) (by rw [getD_at _ _ hi]; exact List.getElem_mem _)
        rw [this] at hb; cases hb
      · intro hb
        (repeat' first | walk_at "s1" | walk_at "sp")
        exact ⟨_, rfl, all_take_succ _ _ _ 0 h1 hi (by simpa only [Bool.not_eq_eq_eq_not, Bool.not_false] using hb)⟩
    · rintro σ ⟨x, rfl, h1⟩
      rw [List.length_map, List.take_length] at h1
      exact ⟨x, rfl, h1⟩
  · rintro σ ⟨x, rfl, h1⟩
    (repeat' first | walk_at "s1" | walk_at "sp")
    rw [h1]
noncomputable def cst : List Int → List Int → List Int
  | a :: l, b :: m => if a == b then a :: cst l m else []
  | _, _ => []
theorem cst_eq : ∀ (k : Nat) (l m : List Int), k ≤ l.length → k ≤ m.length → l.take k = m.take k → (k < l.length → k < m.length → (l.getD k 0 == m.getD k 0) = false) → cst l m = l.take k
  | 0, l, m, _, _, _, h => by
    cases l with
    | nil => simp [cst]
    | cons a l =>
      cases m with
      | nil => simp [cst]
      | cons b m => have := h (by simp) (by simp); simp at this; simp [cst, this]
  | k + 1, [], m, h1, _, _, _ => by simp at h1
  | k + 1, a :: l, [], _, h2, _, _ => by simp at h2
  | k + 1, a :: l, b :: m, h1, h2, h3, h4 => by
    simp only [List.take_succ_cons, List.cons.injEq] at h3
    have ih := cst_eq k l m (by simpa using h1) (by simpa using h2) h3.2 (fun x y => by simpa using h4 (by simpa using x) (by simpa using y))
    simp [cst, h3.1, ih]
theorem common_start_spec (one other : List Int) (h1 : one.length ≤ 2 ^ 20) (h2 : other.length ≤ 2 ^ 20) : Cl w (n + 2) 166 [iL one, iL other] (fun r => r = iL (cst one other)) := by
  refine Cl.intro (names := ["one", "other"]) (vars := ["one", "other", "at"]) (globs := ["len"]) (σ0 := [some (.v (iL one)), some (.v (iL other)), none]) (by (show List.lookup _ (hd.heap_1 _) = _; k_is)) (by (show codeIn (hd.heap_1 _) _ _ = _; k_is)) (by (exact fb2 rfl fun _ _ => rfl)) ⟨_, rfl⟩ rfl rfl (by decide +kernel) (by decide +kernel) (by decide +kernel) rfl rfl rfl (by decide +kernel) ?_
  intro F hsc hmt; clear hsc
  (repeat walk_at "s1")
  refine Exs.cut (fun σ => ∃ k : Nat, σ = [some (.v (iL one)), some (.v (iL other)), some (.v (.int k))] ∧ k ≤ one.length ∧ k ≤ other.length ∧ one.take k = other.take k ∧ (k < one.length → k < other.length → (one.getD k 0 == other.getD k 0) = false)) ?_ ?_
  · refine Ex.whileC (fun m σ => ∃ k : Nat, σ = [some (.v (iL one)), some (.v (iL other)), some (.v (.int k))] ∧ k ≤ one.length ∧ k ≤ other.length ∧ one.take k = other.take k ∧ m = one.length - k) one.length ⟨0, rfl, by simp, by simp, by simp, rfl⟩ ?_
    rintro m σ ⟨k, rfl, h3, h4, h5, rfl⟩
    refine ⟨decide (k < one.length) && (decide (k < other.length) && (one.getD k 0 == other.getD k 0)), ?_, fun hb => ?_, fun hb => ?_⟩
    · (repeat' first | walk_at "s1" | walk_at "sp")
      all_goals (first | (simp_all; done) | (simp_all; omega) | (simp_all; intros; omega))
    · simp only [Bool.and_eq_true, decide_eq_true_eq] at hb
      (repeat' first | walk_at "s1" | walk_at "sp")
      refine ⟨one.length - (k + 1), by omega, k + 1, rfl, hb.1, hb.2.1, ?_, rfl⟩
      rw [take_snoc one k 0 hb.1, take_snoc other k 0 hb.2.1, h5, beq_iff_eq.mp hb.2.2]
    · (repeat' first | walk_at "s1" | walk_at "sp")
      refine ⟨k, rfl, h3, h4, h5, fun x y => ?_⟩
      simpa [x, y] using hb
  · rintro σ ⟨k, rfl, h3, h4, h5, h6⟩
    (repeat' first | walk_at "s1" | walk_at "sp")
    rw [cst_eq k one other h3 h4 h5 h6, iL, List.map_take]
end
section
variable {w : World} {n : Nat}
noncomputable def colB (tab column code : Int) : Int := if code == 9 then column + (tab - column % tab) else column + 1
noncomputable def wide (tab : Int) : Int → List Int → Int
  | c, [] => c
  | c, x :: r => wide tab (colB tab c x) r
theorem wide_snoc (tab : Int) : ∀ (c : Int) (l : List Int) (x : Int), wide tab c (l ++ [x]) = colB tab (wide tab c l) x
  | c, [], x => rfl
  | c, a :: l, x => wide_snoc tab (colB tab c a) l x
theorem colB_le {tab c x : Int} (h : 0 < tab ∧ tab ≤ 8) : c + 1 ≤ colB tab c x ∧ colB tab c x ≤ c + 8 := by
  unfold colB
  have h1 := Int.emod_nonneg c (show tab ≠ 0 by omega)
  have h2 := Int.emod_lt_of_pos c h.1
  split <;> omega
theorem wide_le {tab : Int} (h : 0 < tab ∧ tab ≤ 8) : ∀ (c : Int) (l : List Int), c ≤ wide tab c l ∧ wide tab c l ≤ c + 8 * l.length
  | c, [] => by simp [wide]
  | c, x :: l => by
    have h1 := colB_le (c := c) (x := x) h
    have h2 := wide_le h (colB tab c x) l
    simp only [wide, List.length_cons]
    omega
theorem column_behind_spec (column code tab : Int) (h : 0 < tab ∧ tab ≤ 8) : Cl w (n + 2) 103 [.int column, .int code, .int tab] (fun r => r = .int (colB tab column code)) := by
  refine Cl.intro (names := ["column", "code", "tab"]) (vars := ["column", "code", "tab"]) (globs := ["TAB_rectcols"]) (σ0 := [some (.v (.int column)), some (.v (.int code)), some (.v (.int tab))]) (by (show List.lookup _ (hd.heap_1 _) = _; k_is)) (by (show codeIn (hd.heap_1 _) _ _ = _; k_is)) (by (exact fb3 rfl fun _ _ _ => rfl)) ⟨_, rfl⟩ rfl rfl (by decide +kernel) (by decide +kernel) (by decide +kernel) rfl rfl rfl (by decide +kernel) ?_
  intro F hsc hmt; clear hsc
  have e : (column / tab + 1) * tab = column + (tab - column % tab) := by
    have := Int.emod_add_mul_ediv column tab
    rw [Int.add_mul, Int.one_mul, Int.mul_comm]; omega
  (repeat' first | walk_at "s1" | walk_at "sp")
  all_goals simp_all [colB]
theorem column_at_spec (row : List Int) (k : Nat) (tab : Int) (h : 0 < tab ∧ tab ≤ 8) (hs : row.length ≤ 2 ^ 20) : Cl w (n + 3) 110 [iL row, .int k, .int tab] (fun r => r = .int (wide tab 0 (row.take k))) := by
  refine Cl.intro (names := ["row", "place", "tab"]) (vars := ["row", "place", "tab", "column", "code"]) (globs := ["column_behind"]) (σ0 := [some (.v (iL row)), some (.v (.int k)), some (.v (.int tab)), none, none]) (by (show List.lookup _ (hd.heap_1 _) = _; k_is)) (by (show codeIn (hd.heap_1 _) _ _ = _; k_is)) (by (exact fb3 rfl fun _ _ _ => rfl)) ⟨_, rfl⟩ rfl rfl (by decide +kernel) (by decide +kernel) (by decide +kernel) rfl rfl rfl (by decide +kernel) ?_
  intro F hsc hmt; clear hsc
  (repeat walk_at "s1")
  refine Exs.cut (fun σ => ∃ x, σ = [some (.v (iL row)), some (.v (.int k)), some (.v (.int tab)), some (.v (.int (wide tab 0 (row.take k)))), x]) ?_ ?_
  · refine Ex.forList ?_
    (repeat' first | walk_at "s1" | walk_at "sp")
    refine ⟨fun i σ => ∃ x, σ = [some (.v (iL row)), some (.v (.int k)), some (.v (.int tab)), some (.v (.int (wide tab 0 ((row.take k).take i)))), x], ⟨_, rfl⟩, ?_, ?_⟩
    · rintro i σ p hi ⟨x, rfl⟩
      rw [← List.map_take] at hi ⊢
      rw [List.length_map] at hi
      refine As.cast (getD_map _ _ _ _ 0 hi) (As.name (by walk_at "lk") ?_)
      (repeat' first | walk_at "s1" | walk_at "sp")
      refine Cl.mono (column_behind_spec _ _ tab h) ?_
      rintro _ rfl
      (repeat' first | walk_at "s1" | walk_at "sp")
      refine ⟨some (.v (.int ((row.take k).getD i 0))), ?_⟩
      rw [take_snoc _ i 0 hi, wide_snoc]
    · rintro σ ⟨x, rfl⟩
      rw [← List.map_take, List.length_map, List.take_length]
      exact ⟨x, rfl⟩
  · rintro σ ⟨x, rfl⟩
    (repeat' first | walk_at "s1" | walk_at "sp")
    trivial
theorem row_columns_spec (row : List Int) (tab : Int) (h : 0 < tab ∧ tab ≤ 8) (hs : row.length ≤ 2 ^ 20) : Cl w (n + 4) 117 [iL row, .int tab] (fun r => r = .int (wide tab 0 row)) := by
  refine Cl.intro (names := ["row", "tab"]) (vars := ["row", "tab"]) (globs := ["column_at", "len"]) (σ0 := [some (.v (iL row)), some (.v (.int tab))]) (by (show List.lookup _ (hd.heap_1 _) = _; k_is)) (by (show codeIn (hd.heap_1 _) _ _ = _; k_is)) (by (exact fb2 rfl fun _ _ => rfl)) ⟨_, rfl⟩ rfl rfl (by decide +kernel) (by decide +kernel) (by decide +kernel) rfl rfl rfl (by decide +kernel) ?_
  intro F hsc hmt; clear hsc
  (repeat' first | walk_at "s1" | walk_at "sp")
  rw [List.length_map]
  refine Cl.mono (column_at_spec row _ tab h hs) ?_
  rintro _ rfl
  rw [List.take_length]
  (repeat' first | walk_at "s1" | walk_at "sp")
  trivial
end
section
variable {w : World} {n : Nat}
noncomputable abbrev pc (wd : List Int) : AV := .tup [iL wd, .int 1]
noncomputable abbrev pcs (ws : List (List Int)) : AV := .list (ws.map pc)
noncomputable def Wd (wd : List Int) : Prop := wd ≠ [] ∧ ∀ c ∈ wd, Pl c = true
theorem may_break_spec (wd : List Int) (h : Wd wd) (hs : wd.length ≤ 2 ^ 20) : Cl w (n + 2) 51 [pc wd] (fun r => r = .bool true) := by
  refine Cl.intro (names := ["piece"]) (vars := ["piece", "word", "gap"]) (globs := ["len", "PERIOD"]) (σ0 := [some (.v (pc wd)), none, none]) (by (show List.lookup _ (hd.heap_1 _) = _; k_is)) (by (show codeIn (hd.heap_1 _) _ _ = _; k_is)) (by (exact fb1 rfl fun _ => rfl)) ⟨_, rfl⟩ rfl rfl (by decide +kernel) (by decide +kernel) (by decide +kernel) rfl rfl rfl (by decide +kernel) ?_
  intro F hsc hmt; clear hsc
  have hl : 1 ≤ wd.length := by cases wd with | nil => exact absurd rfl h.1 | cons => simp
  have hq : Pl (wd.getD (wd.length - 1) 0) = true := h.2 _ (mem_getD _ _ _ (by omega))
  have e : ((wd.length : Int) - 1) = ((wd.length - 1 : Nat) : Int) := by omega
  simp only [Pl, Bool.not_eq_true', List.any_cons, List.any_nil, Bool.or_false, Bool.or_eq_false_iff] at hq
  have h46 : ¬ wd.getD (wd.length - 1) 0 = 46 := fun h => by rw [h] at hq; simp at hq
  refine Exs.cons (Ex.assignT ?_)
  (repeat' first | walk_at "s1" | walk_at "sp")
  refine As.two (by walk_at "lk") (by walk_at "lk") ?_
  (repeat' first | walk_at "s1" | walk_at "sp")
  rw [List.length_map, e]
  (repeat' first | walk_at "s1" | walk_at "sp")
  all_goals simp_all
noncomputable def fit (width : Int) : Int → List (List Int) → Nat
  | _, [] => 0
  | used, x :: r => if used + x.length > width then 0 else 1 + fit width (used + x.length + 1) r
theorem fit_le (width : Int) : ∀ (used : Int) (l : List (List Int)), fit width used l ≤ l.length
  | _, [] => Nat.le_refl _
  | used, x :: r => by
    have := fit_le width (used + x.length + 1) r
    simp only [fit, List.length_cons]; split <;> omega
noncomputable def rowEnd (width : Int) : List (List Int) → Nat
  | [] => 0
  | x :: r => 1 + if (x.length : Int) > width then 0 else fit width (x.length + 1) r
theorem rowEnd_le (width : Int) (l : List (List Int)) : rowEnd width l ≤ l.length := by
  cases l with
  | nil => exact Nat.le_refl _
  | cons x r => have := fit_le width (x.length + 1) r; simp only [rowEnd, List.length_cons]; split <;> omega
theorem row_end_spec (ws : List (List Int)) (first : Nat) (width : Int) (hw : ∀ x ∈ ws, Wd x) (hl : ∀ x ∈ ws, x.length ≤ 2 ^ 20) (hs : ws.length ≤ 2 ^ 20) (hf : first < ws.length) :
    Cl w (n + 3) 58 [pcs ws, .int first, .int width] (fun r => r = .int ((first + rowEnd width (ws.drop first) : Nat) : Int)) := by
  refine Cl.intro (names := ["pieces", "first", "width"]) (vars := ["pieces", "first", "width", "used", "best", "at", "word", "gap"]) (globs := ["len", "may_break"]) (σ0 := [some (.v (pcs ws)), some (.v (.int first)), some (.v (.int width)), none, none, none, none, none]) (by (show List.lookup _ (hd.heap_1 _) = _; k_is)) (by (show codeIn (hd.heap_1 _) _ _ = _; k_is)) (by (exact fb3 rfl fun _ _ _ => rfl)) ⟨_, rfl⟩ rfl rfl (by decide +kernel) (by decide +kernel) (by decide +kernel) rfl rfl rfl (by decide +kernel) ?_
  intro F hsc hmt; clear hsc
  (repeat walk_at "s1")
  refine Exs.cut (fun σ => ∃ u x y, first + rowEnd width (ws.drop first) = ws.length ∧ σ = [some (.v (pcs ws)), some (.v (.int first)), some (.v (.int width)), some (.v (.int u)), some (.v (.int ws.length)), some (.v (.int ws.length)), x, y]) ?_ ?_
  · refine Ex.whileC (fun m σ => ∃ (k : Nat) (u : Int) (x y : Option Slot), k ≤ ws.length ∧ ((k = first ∧ u = 0) ∨ (first < k ∧ rowEnd width (ws.drop first) = (k - first) + fit width u (ws.drop k))) ∧
      σ = [some (.v (pcs ws)), some (.v (.int first)), some (.v (.int width)), some (.v (.int u)), some (.v (.int k)), some (.v (.int k)), x, y] ∧ m = ws.length - k) (ws.length - first) ⟨first, 0, none, none, Nat.le_of_lt hf, .inl ⟨rfl, rfl⟩, rfl, rfl⟩ ?_
    rintro m σ ⟨k, u, x, y, h2, h4, rfl, rfl⟩
    refine ⟨decide (k < ws.length), ?_, fun hb => ?_, fun hb => ?_⟩
    · (repeat' first | walk_at "s1" | walk_at "sp")
      exact ⟨by simp, rfl⟩
    · rw [decide_eq_true_eq] at hb
      have hd := getD_drop ws k [] hb
      have hx := hw _ (mem_getD ws k [] hb)
      have hxl := hl _ (mem_getD ws k [] hb)
      have hg : (ws.map pc).getD k .none = pc (ws.getD k []) := getD_map _ _ _ _ _ hb
      generalize ws.getD k [] = xk at hd hx hxl hg
      refine Exs.cons (Ex.assignT ?_)
      refine Ev.index ?_
      (repeat' first | walk_at "s1" | walk_at "sp")
      refine ⟨_, idx_list .none (by simpa using hb) (by walk_at "sz"), ?_⟩
      rw [hg]
      refine As.two (by walk_at "lk") (by walk_at "lk") ?_
      (repeat walk_at "s1")
      refine Exs.cons (Ex.ifC (decide (width < u + xk.length) && decide (first < k)) ?_ ?_ ?_)
      · (repeat' first | walk_at "s1" | walk_at "sp")
        all_goals (first | (simp_all; done) | (simp_all; omega) | (simp_all; intros; omega))
      · intro hc
        simp only [Bool.and_eq_true, decide_eq_true_eq] at hc
        (repeat' first | walk_at "s1" | walk_at "sp")
        have h5 : rowEnd width (ws.drop first) = k - first := by
          rcases h4 with h4 | h4
          · omega
          · rw [h4.2, hd, fit, if_pos hc.1]; omega
        rw [h5]; congr 2; omega
      · intro hc
        (repeat walk_at "s1")
        refine Exs.cons (Ex.ifC true ?_ ?_ (fun h => nomatch h))
        · (repeat' first | walk_at "s1" | walk_at "sp")
          · rw [show ((k : Int) + 1 - 1) = ((k : Nat) : Int) by omega]
            refine ⟨_, idx_list .none (by simpa using hb) (by walk_at "sz"), ?_⟩
            rw [hg]
            (repeat' first | walk_at "s1" | walk_at "sp")
            refine Cl.mono (may_break_spec xk hx hxl) ?_
            rintro _ rfl
            (repeat' first | walk_at "s1" | walk_at "sp")
            exact ⟨rfl, rfl⟩
          · exact ⟨rfl, rfl⟩
        · intro _
          (repeat walk_at "s1")
          refine Exs.cons (Ex.ifC (decide (width < u + xk.length)) ?_ ?_ ?_)
          · (repeat' first | walk_at "s1" | walk_at "sp")
            all_goals (first | (simp_all; done) | (simp_all; omega) | (simp_all; intros; omega))
          · intro hc2
            rw [decide_eq_true_eq] at hc2
            (repeat' first | walk_at "s1" | walk_at "sp")
            have h5 : k = first ∧ u = 0 := by
              rcases h4 with h4 | h4
              · exact h4
              · rw [decide_eq_true hc2, decide_eq_true h4.1] at hc; cases hc
            obtain ⟨rfl, rfl⟩ := h5
            rw [hd, rowEnd, if_pos (by omega)]; congr 1
          · intro hc2
            rw [decide_eq_false_iff_not] at hc2
            (repeat' first | walk_at "s1" | walk_at "sp")
            refine ⟨ws.length - (k + 1), by omega, k + 1, u + xk.length + 1, _, _, hb, .inr ⟨?_, ?_⟩, (by simp only [List.length_map]; rfl), rfl⟩
            · rcases h4 with h4 | h4 <;> omega
            · rcases h4 with ⟨rfl, rfl⟩ | h4
              · rw [hd, rowEnd, if_neg (by omega), Int.zero_add]; omega
              · rw [h4.2, hd, fit, if_neg (by omega)]; omega
    · rw [decide_eq_false_iff_not] at hb
      (repeat' first | walk_at "s1" | walk_at "sp")
      have hk : k = ws.length := by omega
      subst hk
      refine ⟨u, x, y, ?_, rfl⟩
      rcases h4 with h4 | h4
      · omega
      · rw [h4.2, List.drop_length, fit]; omega
  · rintro σ ⟨u, x, y, h, rfl⟩
    (repeat' first | walk_at "s1" | walk_at "sp")
    rw [List.length_map, h]
end
section
variable {w : World} {n : Nat}
theorem pieces_of_spec (codes : List Int) (hp : ∀ c ∈ codes, isBl c = false → Pl c = true) (hs : codes.length ≤ 2 ^ 20) : Cl w (n + 4) 44 [iL codes] (fun r => r = pcs (wds codes)) := by
  refine Cl.intro (names := ["codes"]) (vars := ["codes", "pieces", "at", "end", "after"]) (globs := ["len", "is_blank", "gap_of"]) (σ0 := [some (.v (iL codes)), none, none, none, none]) (by (show List.lookup _ (hd.heap_1 _) = _; k_is)) (by (show codeIn (hd.heap_1 _) _ _ = _; k_is)) (by (exact fb1 rfl fun _ => rfl)) ⟨_, rfl⟩ rfl rfl (by decide +kernel) (by decide +kernel) (by decide +kernel) rfl rfl rfl (by decide +kernel) ?_
  intro F hsc hmt; clear hsc
  (refine Exs.cons (Ex.assignO (EvO.list (El.nil ⟨by simp, _, by walk_at "lk", Nx.next ?_⟩))))
  (repeat walk_at "s1")
  refine Exs.cut (fun σ => ∃ k : Nat, k ≤ codes.length ∧ wds (codes.drop k) = wds codes ∧ (k < codes.length → isBl (codes.getD k 0) = false) ∧ σ = [some (.v (iL codes)), some (.o []), some (.v (.int k)), none, none]) ?_ ?_
  · refine Ex.whileC (fun m σ => ∃ k : Nat, k ≤ codes.length ∧ wds (codes.drop k) = wds codes ∧ σ = [some (.v (iL codes)), some (.o []), some (.v (.int k)), none, none] ∧ m = codes.length - k) codes.length ⟨0, by simp, by simp, rfl, rfl⟩ ?_
    rintro m σ ⟨k, h1, h2, rfl, rfl⟩
    refine ⟨decide (k < codes.length) && isBl (codes.getD k 0), ?_, fun hb => ?_, fun hb => ?_⟩
    · (repeat' first | walk_at "s1" | walk_at "sp")
      · refine Cl.mono (Cl.room (is_blank_spec (n := n) _) (by omega)) ?_
        rintro _ rfl
        (repeat' first | walk_at "s1" | walk_at "sp")
        all_goals (first | (simp_all; done) | (simp_all; omega) | (simp_all; intros; omega))
      · (first | (simp_all; done) | (simp_all; omega) | (simp_all; intros; omega))
    · simp only [Bool.and_eq_true, decide_eq_true_eq] at hb
      (repeat' first | walk_at "s1" | walk_at "sp")
      refine ⟨codes.length - (k + 1), by omega, k + 1, hb.1, ?_, rfl, rfl⟩
      rw [← h2, getD_drop codes k 0 hb.1]
      exact (wgo_skip hb.2).symm
    · (repeat' first | walk_at "s1" | walk_at "sp")
      exact ⟨k, h1, h2, fun h => by simpa [h] using hb, rfl⟩
  rintro σ ⟨k0, h1, h2, h3, rfl⟩
  refine Exs.cut (fun σ => ∃ x y z, σ = [some (.v (iL codes)), some (.o ((wds codes).map pc)), x, y, z]) ?_ ?_
  · refine Ex.whileC (fun m σ => ∃ (k : Nat) (done : List (List Int)) (y z : Option Slot), k ≤ codes.length ∧ (k < codes.length → isBl (codes.getD k 0) = false) ∧ done.length ≤ k ∧ done ++ wds (codes.drop k) = wds codes ∧
      σ = [some (.v (iL codes)), some (.o (done.map pc)), some (.v (.int k)), y, z] ∧ m = codes.length - k) (codes.length - k0) ⟨k0, [], none, none, h1, h3, by simp, h2, rfl, rfl⟩ ?_
    rintro m σ ⟨k, done, y, z, h1, h3, h4, h5, rfl, rfl⟩
    refine ⟨decide (k < codes.length), ?_, fun hb => ?_, fun hb => ?_⟩
    · (repeat' first | walk_at "s1" | walk_at "sp")
      exact ⟨by simp, rfl⟩
    · rw [decide_eq_true_eq] at hb
      (repeat walk_at "s1")
      refine Exs.cut (fun σ => ∃ e : Nat, k < e ∧ e ≤ codes.length ∧ (∀ c ∈ (codes.drop k).take (e - k), isBl c = false) ∧ wgo ((codes.drop k).take (e - k)) (codes.drop e) = wds (codes.drop k) ∧ (e < codes.length → isBl (codes.getD e 0) = true) ∧
        σ = [some (.v (iL codes)), some (.o (done.map pc)), some (.v (.int k)), some (.v (.int e)), z]) ?_ ?_
      · refine Ex.whileC (fun m σ => ∃ e : Nat, k ≤ e ∧ e ≤ codes.length ∧ (∀ c ∈ (codes.drop k).take (e - k), isBl c = false) ∧ wgo ((codes.drop k).take (e - k)) (codes.drop e) = wds (codes.drop k) ∧
          σ = [some (.v (iL codes)), some (.o (done.map pc)), some (.v (.int k)), some (.v (.int e)), z] ∧ m = codes.length - e) (codes.length - k) ⟨k, Nat.le_refl _, h1, by simp, by simp, rfl, rfl⟩ ?_
        rintro m σ ⟨e, h6, h7, h8, h9, rfl, rfl⟩
        refine ⟨decide (e < codes.length) && !isBl (codes.getD e 0), ?_, fun hb => ?_, fun hb => ?_⟩
        · (repeat' first | walk_at "s1" | walk_at "sp")
          · refine Cl.mono (Cl.room (is_blank_spec (n := n) _) (by omega)) ?_
            rintro _ rfl
            (repeat' first | walk_at "s1" | walk_at "sp")
            all_goals (first | (simp_all; done) | (simp_all; omega) | (simp_all; intros; omega))
          · (first | (simp_all; done) | (simp_all; omega) | (simp_all; intros; omega))
        · simp only [Bool.and_eq_true, decide_eq_true_eq, Bool.not_eq_true'] at hb
          (repeat' first | walk_at "s1" | walk_at "sp")
          have hst := take_drop_step codes k e 0 h6 hb.1
          refine ⟨codes.length - (e + 1), by omega, e + 1, by omega, hb.1, ?_, ?_, rfl, rfl⟩
          · rw [hst]
            intro c hc
            rcases List.mem_append.mp hc with h | h
            · exact h8 c h
            · rw [List.mem_singleton.mp h]; exact hb.2
          · rw [← h9, hst, getD_drop codes e 0 hb.1, wgo_more hb.2]
        · (repeat' first | walk_at "s1" | walk_at "sp")
          have h10 : e < codes.length → isBl (codes.getD e 0) = true := fun h => by simpa [h] using hb
          refine ⟨e, ?_, h7, h8, h9, h10, rfl⟩
          rcases Nat.lt_or_ge k e with h | h
          · exact h
          · have : k = e := by omega
            subst this
            rename_i hk
            rw [h3 (by assumption)] at h10
            exact absurd (h10 (by assumption)) (by simp)
      · rintro σ ⟨e, h6, h7, h8, h9, h10, rfl⟩
        (repeat walk_at "s1")
        refine Exs.cut (fun σ => ∃ a : Nat, e ≤ a ∧ a ≤ codes.length ∧ wds (codes.drop a) = wds (codes.drop e) ∧ (a < codes.length → isBl (codes.getD a 0) = false) ∧
          σ = [some (.v (iL codes)), some (.o (done.map pc)), some (.v (.int k)), some (.v (.int e)), some (.v (.int a))]) ?_ ?_
        · refine Ex.whileC (fun m σ => ∃ a : Nat, e ≤ a ∧ a ≤ codes.length ∧ wds (codes.drop a) = wds (codes.drop e) ∧ 
            σ = [some (.v (iL codes)), some (.o (done.map pc)), some (.v (.int k)), some (.v (.int e)), some (.v (.int a))] ∧ m = codes.length - a) (codes.length - e) ⟨e, Nat.le_refl _, h7, rfl, rfl, rfl⟩ ?_
          rintro m σ ⟨a, h11, h12, h13, rfl, rfl⟩
          refine ⟨decide (a < codes.length) && isBl (codes.getD a 0), ?_, fun hb => ?_, fun hb => ?_⟩
          · (repeat' first | walk_at "s1" | walk_at "sp")
            · refine Cl.mono (Cl.room (is_blank_spec (n := n) _) (by omega)) ?_
              rintro _ rfl
              (repeat' first | walk_at "s1" | walk_at "sp")
              all_goals (first | (simp_all; done) | (simp_all; omega) | (simp_all; intros; omega))
            · (first | (simp_all; done) | (simp_all; omega) | (simp_all; intros; omega))
          · simp only [Bool.and_eq_true, decide_eq_true_eq] at hb
            (repeat' first | walk_at "s1" | walk_at "sp")
            refine ⟨codes.length - (a + 1), by omega, a + 1, by omega, hb.1, ?_, rfl, rfl⟩
            rw [← h13, getD_drop codes a 0 hb.1]
            exact (wgo_skip hb.2).symm
          · (repeat' first | walk_at "s1" | walk_at "sp")
            exact ⟨a, h11, h12, h13, fun h => by simpa [h] using hb, rfl⟩
        · rintro σ ⟨a, h11, h12, h13, h14, rfl⟩
          (refine Exs.cons (Ex.append (by walk_at "lk") fun d o => ⟨_, by walk_at "lk", ?_⟩))
          (repeat' first | walk_at "s1" | walk_at "sp")
          rw [← List.map_drop, ← List.map_drop, ← List.map_take, ← List.map_take]
          have hwd : (codes.drop k).take (e - k) ≠ [] := by
            intro h
            have := congrArg List.length h
            simp at this; omega
          have hsl : ((codes.drop k).take (e - k)).length ≤ codes.length := by simp; omega
          have hpl : ∀ c ∈ (codes.drop k).take (e - k), Pl c = true := fun c hc => hp c (List.mem_of_mem_drop (List.mem_of_mem_take hc)) (h8 c hc)
          refine Cl.mono (gap_of_spec _ _ hwd (by omega) hpl) ?_
          rintro _ rfl
          have hend : wds (codes.drop k) = (codes.drop k).take (e - k) :: wds (codes.drop a) := by
            rw [← h9, h13]
            refine wgo_end hwd ?_
            rcases Nat.lt_or_ge e codes.length with h | h
            · exact .inr ⟨_, _, getD_drop codes e 0 h, h10 h⟩
            · exact .inl (List.drop_eq_nil_of_le h)
          (repeat' first | walk_at "s1" | walk_at "sp")
          refine ⟨codes.length - a, by omega, a, done ++ [(codes.drop k).take (e - k)], some (.v (.int e)), some (.v (.int a)), h12, h14, by simp; omega, ?_, ?_, rfl⟩
          · rw [List.append_assoc, ← h5, hend]; rfl
          · rw [List.map_append]; rfl
    · rw [decide_eq_false_iff_not] at hb
      (repeat' first | walk_at "s1" | walk_at "sp")
      rw [List.drop_eq_nil_of_le (by omega : codes.length ≤ k)] at h5
      simp only [wds, wgo, List.isEmpty_nil, if_true, List.append_nil] at h5
      subst h5
      exact ⟨_, y, z, rfl⟩
  · rintro σ ⟨x, y, z, rfl⟩
    (repeat' first | walk_at "s1" | walk_at "sp")
    trivial
end
section
variable {w : World} {n : Nat}
noncomputable def rowsF (w2 : Int) : Nat → Int → List (List Int) → List (List (List Int))
  | 0, _, _ => []
  | _ + 1, _, [] => []
  | n + 1, w1, x :: r => (x :: r).take (rowEnd w1 (x :: r)) :: rowsF w2 n w2 ((x :: r).drop (rowEnd w1 (x :: r)))
theorem rowEnd_pos (w1 : Int) (x : List Int) (r : List (List Int)) : 1 ≤ rowEnd w1 (x :: r) := by simp only [rowEnd]; omega
theorem rowsF_fuel (w2 : Int) : ∀ (n m : Nat) (w1 : Int) (l : List (List Int)), l.length ≤ n → l.length ≤ m → rowsF w2 n w1 l = rowsF w2 m w1 l
  | 0, 0, _, _, _, _ => rfl
  | 0, m + 1, w1, [], _, _ => rfl
  | 0, m + 1, w1, x :: r, h, _ => by simp at h
  | n + 1, 0, w1, [], _, _ => rfl
  | n + 1, 0, w1, x :: r, _, h => by simp at h
  | n + 1, m + 1, w1, [], _, _ => rfl
  | n + 1, m + 1, w1, x :: r, h1, h2 => by
    have := rowEnd_pos w1 x r
    have hd : ((x :: r).drop (rowEnd w1 (x :: r))).length ≤ r.length := by simp only [List.length_drop, List.length_cons]; omega
    simp only [List.length_cons] at h1 h2
    rw [rowsF, rowsF, rowsF_fuel w2 n m w2 _ (by omega) (by omega)]
noncomputable def rowsOf (w1 w2 : Int) (l : List (List Int)) : List (List (List Int)) := rowsF w2 l.length w1 l
theorem rows_of_spec (ws : List (List Int)) (w1 w2 : Int) (hw : ∀ x ∈ ws, Wd x) (hl : ∀ x ∈ ws, x.length ≤ 2 ^ 20) (hs : ws.length ≤ 2 ^ 20) :
    Cl w (n + 4) 65 [pcs ws, .int w1, .int w2] (fun r => r = .list ((rowsOf w1 w2 ws).map pcs)) := by
  refine Cl.intro (names := ["pieces", "first_width", "width"]) (vars := ["pieces", "first_width", "width", "rows", "at", "end"]) (globs := ["len", "row_end"]) (σ0 := [some (.v (pcs ws)), some (.v (.int w1)), some (.v (.int w2)), none, none, none]) (by (show List.lookup _ (hd.heap_1 _) = _; k_is)) (by (show codeIn (hd.heap_1 _) _ _ = _; k_is)) (by (exact fb3 rfl fun _ _ _ => rfl)) ⟨_, rfl⟩ rfl rfl (by decide +kernel) (by decide +kernel) (by decide +kernel) rfl rfl rfl (by decide +kernel) ?_
  intro F hsc hmt; clear hsc
  (refine Exs.cons (Ex.assignO (EvO.list (El.nil ⟨by simp, _, by walk_at "lk", Nx.next ?_⟩))))
  (repeat walk_at "s1")
  refine Exs.cut (fun σ => ∃ x y, σ = [some (.v (pcs ws)), some (.v (.int w1)), some (.v (.int w2)), some (.o ((rowsOf w1 w2 ws).map pcs)), x, y]) ?_ ?_
  · refine Ex.whileC (fun m σ => ∃ (k : Nat) (done : List (List (List Int))) (y : Option Slot), k ≤ ws.length ∧ done.length ≤ k ∧ done ++ rowsF w2 (ws.length - k) (if k = 0 then w1 else w2) (ws.drop k) = rowsOf w1 w2 ws ∧
      σ = [some (.v (pcs ws)), some (.v (.int w1)), some (.v (.int w2)), some (.o (done.map pcs)), some (.v (.int k)), y] ∧ m = ws.length - k) ws.length ⟨0, [], none, by simp, by simp, rfl, rfl, rfl⟩ ?_
    rintro m σ ⟨k, done, y, h1, h2, h3, rfl, rfl⟩
    refine ⟨decide (k < ws.length), ?_, fun hb => ?_, fun hb => ?_⟩
    · (repeat' first | walk_at "s1" | walk_at "sp")
      exact ⟨by simp, rfl⟩
    · rw [decide_eq_true_eq] at hb
      refine Exs.cons (Ex.assign ?_)
      refine Ev.callD (by walk_at "lk") (by walk_at "gd") ?_
      refine El.cons (Ev.name (by walk_at "lk") (El.cons (Ev.name (by walk_at "lk") ?_)))
      refine El.cons (EvIs.go (c := .int (if k = 0 then w1 else w2)) ?_ ?_)
      · (repeat' first | walk_at "s1" | walk_at "sp")
        · rename_i hk
          rw [if_pos (by omega)]
          exact ⟨rfl, rfl⟩
        · rename_i hk
          rw [if_neg (by omega)]
          exact ⟨rfl, rfl⟩
      (repeat walk_at "s1")
      refine Cl.mono (row_end_spec ws k _ hw hl hs hb) ?_
      rintro _ rfl
      (repeat walk_at "s1")
      have hle := rowEnd_le (if k = 0 then w1 else w2) (ws.drop k)
      rw [List.length_drop] at hle
      have hd := getD_drop ws k [] hb
      have hpos := rowEnd_pos (if k = 0 then w1 else w2) (ws.getD k []) (ws.drop (k + 1))
      rw [← hd] at hpos
      have hlm : (ws.map pc).length = ws.length := List.length_map ..
      have hstep : rowsF w2 (ws.length - k) (if k = 0 then w1 else w2) (ws.drop k) = (ws.drop k).take (rowEnd (if k = 0 then w1 else w2) (ws.drop k)) ::
          rowsF w2 (ws.length - (k + rowEnd (if k = 0 then w1 else w2) (ws.drop k))) w2 (ws.drop (k + rowEnd (if k = 0 then w1 else w2) (ws.drop k))) := by
        generalize (if k = 0 then w1 else w2) = wk at *
        rw [rowsF_fuel w2 (ws.length - k) ((ws.length - k - 1) + 1) _ _ (by simp) (by simp <;> omega), ← List.drop_drop]
        rw [hd, rowsF, ← hd]
        congr 1
        exact rowsF_fuel _ _ _ _ _ (by simp <;> omega) (by simp <;> omega)
      generalize hE : rowEnd (if k = 0 then w1 else w2) (ws.drop k) = e at *
      clear hE hd
      (refine Exs.cons (Ex.append (by walk_at "lk") fun d o => ⟨_, by walk_at "lk", ?_⟩))
      (repeat walk_at "s1")
      refine ⟨ws.length - (k + e), by omega, k + e, done ++ [(ws.drop k).take e], some (.v (.int ((k + e : Nat) : Int))), by omega, by simp <;> omega, ?_, ?_, rfl⟩
      · rw [List.append_assoc, ← h3, if_neg (show ¬ (k + e) = 0 by omega), hstep]
        rfl
      · rw [show k + e - k = e by omega, List.map_append, ← List.map_drop, ← List.map_take]
        rfl
    · rw [decide_eq_false_iff_not] at hb
      (repeat' first | walk_at "s1" | walk_at "sp")
      rw [List.drop_eq_nil_of_le (by omega : ws.length ≤ k), show ws.length - k = 0 by omega, rowsF, List.append_nil] at h3
      subst h3
      exact ⟨_, y, rfl⟩
  · rintro σ ⟨x, y, rfl⟩
    (repeat' first | walk_at "s1" | walk_at "sp")
    trivial
end
section
variable {w : World} {n : Nat}
theorem own_gaps_spec (ws : List (List Int)) (hs : ws.length ≤ 2 ^ 20) : Cl w (n + 2) 84 [pcs ws] (fun r => r = iL (ws.map fun _ => 1)) := by
  refine Cl.intro (names := ["row"]) (vars := ["row"]) (globs := []) (σ0 := [some (.v (pcs ws))]) (by (show List.lookup _ (hd.heap_1 _) = _; k_is)) (by (show codeIn (hd.heap_1 _) _ _ = _; k_is)) (by (exact fb1 rfl fun _ => rfl)) ⟨_, rfl⟩ rfl rfl (by decide +kernel) (by decide +kernel) (by decide +kernel) rfl rfl rfl (by decide +kernel) ?_
  intro F hsc hmt; clear hsc
  refine Exs.cons (Ex.ret ?_)
  refine Ev.compList (V' := ["word", "gap"]) (G' := []) ⟨rfl, by decide +kernel, by decide +kernel, by decide +kernel, by decide +kernel, by decide +kernel⟩ ?_ (fun A s I ax i v Q E h q x => goTuple s I ax i v Q E h q x)
  refine Ev.name (by walk_at "lk") ⟨_, rfl, by walk_at "sz", fun _ => true, fun _ => .int 1, ?_, ?_⟩
  · intro x hx
    obtain ⟨wd, _, rfl⟩ := List.mem_map.mp hx
    intro F' r1 r2 hm
    show As w F' _ _ _ _ [none, none] _
    refine As.two (by walk_at "lk") (by walk_at "lk") (Tests.nil ⟨rfl, fun _ => ?_⟩)
    (repeat' first | walk_at "s1" | walk_at "sp")
    trivial
  · refine Nx.ret ?_
    refine Rt.ret ?_
    rw [List.filter_eq_self.mpr (by simp), iL, List.map_map, List.map_map]; rfl

noncomputable def jI : List (List Int) → List Int
  | [] => []
  | [a] => a
  | a :: b :: r => a ++ 32 :: jI (b :: r)
theorem jI_snoc : ∀ (l : List (List Int)) (x : List Int), l ≠ [] → jI (l ++ [x]) = jI l ++ 32 :: x
  | [], _, h => absurd rfl h
  | [a], x, _ => rfl
  | a :: b :: r, x, _ => by
    have := jI_snoc (b :: r) x (by simp)
    rw [List.cons_append, List.cons_append, jI, ← List.cons_append, this, jI]
    simp
theorem jI_len_take : ∀ (l : List (List Int)) (k : Nat), (jI (l.take k)).length ≤ (jI l).length
  | [], _ => by simp [jI]
  | _, 0 => by simp [jI]
  | [a], k + 1 => by simp
  | a :: b :: r, 1 => by simp [jI]
  | a :: b :: r, k + 2 => by
    have := jI_len_take (b :: r) (k + 1)
    simp only [List.take_succ_cons, jI, List.length_append, List.length_cons] at *
    omega
theorem take_ne_nil {α} {l : List α} {k : Nat} (h : 0 < k) (h2 : k ≤ l.length) : l.take k ≠ [] := by
  intro e; have := congrArg List.length e; rw [List.length_take] at this; simp only [List.length_nil] at this; omega
theorem jI_len_more (l : List (List Int)) (k : Nat) (h : k + 1 < l.length) : (jI (l.take (k + 1))).length + 1 ≤ (jI l).length := by
  have h1 := jI_len_take l (k + 2)
  rw [take_snoc l (k + 1) [] h, jI_snoc _ _ (take_ne_nil (by omega) (by omega))] at h1
  simp at h1; omega
theorem row_codes_spec (ws : List (List Int)) (hs : ws.length ≤ 2 ^ 20) (hj : (jI ws).length ≤ 2 ^ 20) : Cl w (n + 2) 79 [pcs ws, iL (ws.map fun _ => 1)] (fun r => r = iL (jI ws)) := by
  refine Cl.intro (names := ["row", "gaps"]) (vars := ["row", "gaps", "codes", "place"]) (globs := ["range", "len", "BLANK_fillwords"]) (σ0 := [some (.v (pcs ws)), some (.v (iL (ws.map fun _ => 1))), none, none]) (by (show List.lookup _ (hd.heap_1 _) = _; k_is)) (by (show codeIn (hd.heap_1 _) _ _ = _; k_is)) (by (exact fb2 rfl fun _ _ => rfl)) ⟨_, rfl⟩ rfl rfl (by decide +kernel) (by decide +kernel) (by decide +kernel) rfl rfl rfl (by decide +kernel) ?_
  intro F hsc hmt; clear hsc
  have hlm : (ws.map pc).length = ws.length := List.length_map ..
  (refine Exs.cons (Ex.assignO (EvO.list (El.nil ⟨by simp, _, by walk_at "lk", Nx.next ?_⟩))))
  refine Exs.cut (fun σ => ∃ x, σ = [some (.v (pcs ws)), some (.v (iL (ws.map fun _ => 1))), some (.o ((jI ws).map .int)), x]) ?_ ?_
  · refine Ex.forRange (by walk_at "lk") B2 ?_
    (repeat' first | walk_at "s1" | walk_at "sp")
    rw [hlm]
    refine ⟨by omega, fun i σ => ∃ x, σ = [some (.v (pcs ws)), some (.v (iL (ws.map fun _ => 1))), some (.o ((if i = ws.length then jI ws else if i = 0 then [] else jI (ws.take i) ++ [32]).map .int)), x], ⟨none, ?_⟩, ?_, ?_⟩
    · cases ws <;> simp [jI]
    · rintro i σ p hi ⟨x, rfl⟩
      have hn1 : ¬ i = ws.length := by omega
      have hx : (ws.map pc).getD i .none = pc (ws.getD i []) := getD_map _ _ _ _ _ hi
      have hone : jI (ws.take (i + 1)) = (if i = 0 then [] else jI (ws.take i) ++ [32]) ++ ws.getD i [] := by
        rw [take_snoc ws i [] hi]
        by_cases h0 : i = 0
        · subst h0; simp [jI]
        · rw [if_neg h0, jI_snoc _ _ (take_ne_nil (by omega) (by omega))]; simp
      have hle := jI_len_take ws (i + 1)
      rw [hone] at hle
      simp only [List.length_append] at hle
      rw [if_neg hn1]
      refine As.name (by walk_at "lk") ?_
      refine Exs.cons (Ex.extend (by walk_at "lk") fun d o => ⟨_, by walk_at "lk", ?_⟩)
      refine Ev.index (Ev.index ?_)
      (repeat' first | walk_at "s1" | walk_at "sp")
      refine ⟨_, idx_list .none (by omega) (by omega), ?_⟩
      rw [hx]
      (repeat' first | walk_at "s1" | walk_at "sp")
      refine ⟨_, idx_tup (k := 0) .none (by simp) (by simp), ?_⟩
      refine ⟨(ws.getD i []).map .int, rfl, ?_⟩
      refine ⟨by walk_at "lk", by simp only [List.length_map]; omega, _, by walk_at "lk", Nx.next ?_⟩
      rw [← List.map_append, ← hone]
      refine Exs.cons (Ex.ifC (decide (i + 1 < ws.length)) ?_ ?_ ?_)
      · (repeat' first | walk_at "s1" | walk_at "sp")
        refine ⟨?_, rfl⟩
        rw [hlm, Bool.eq_iff_iff, decide_eq_true_eq, decide_eq_true_eq]; omega
      · intro hb
        rw [decide_eq_true_eq] at hb
        have hm := jI_len_more ws i hb
        refine Exs.cons (Ex.extend (by walk_at "lk") fun d o => ⟨_, by walk_at "lk", ?_⟩)
        refine Ev.bin (Ev.list ?_)
        (repeat' first | walk_at "s1" | walk_at "sp")
        rw [show (ws.map fun _ => (1 : Int)).getD i 0 = ((1 : Nat) : Int) by rw [getD_map _ _ _ _ [] hi]; rfl]
        refine ⟨_, BinV.rep (l := [.int 32]) (k := 1) rfl (by decide) (by decide), _, rfl, ?_⟩
        refine ⟨by walk_at "lk", by simp; omega, _, by walk_at "lk", Nx.next (Exs.nil (Nx.next (Exs.nil (Lp.next ?_))))⟩
        refine ⟨some (.v (.int i)), ?_⟩
        rw [if_neg (show ¬ i + 1 = ws.length by omega), if_neg (show ¬ i + 1 = 0 by omega), List.map_append]
        rfl
      · intro hb
        rw [decide_eq_false_iff_not] at hb
        (repeat' first | walk_at "s1" | walk_at "sp")
        have : i + 1 = ws.length := by omega
        refine ⟨some (.v (.int i)), ?_⟩
        rw [if_pos this, this, List.take_length]
    · rintro σ ⟨x, rfl⟩
      rw [if_pos rfl]
      exact ⟨x, rfl⟩
  · rintro σ ⟨x, rfl⟩
    (repeat' first | walk_at "s1" | walk_at "sp")
    trivial

theorem placed_row_spec (ws : List (List Int)) (width : Int) (b : Bool) (hs : ws.length ≤ 2 ^ 20) (hj : (jI ws).length ≤ 2 ^ 20) : Cl w (n + 3) 96 [pcs ws, .int width, .str "left", .bool b] (fun r => r = iL (jI ws)) := by
  refine Cl.intro (names := ["row", "width", "way", "is_last"]) (vars := ["row", "width", "way", "is_last", "codes", "room"]) (globs := ["row_codes", "own_gaps", "len"]) (σ0 := [some (.v (pcs ws)), some (.v (.int width)), some (.v (.str "left")), some (.v (.bool b)), none, none]) (by (show List.lookup _ (hd.heap_1 _) = _; k_is)) (by (show codeIn (hd.heap_1 _) _ _ = _; k_is)) (by (exact fb4 rfl fun _ _ _ _ => rfl)) ⟨_, rfl⟩ rfl rfl (by decide +kernel) (by decide +kernel) (by decide +kernel) rfl rfl rfl (by decide +kernel) ?_
  intro F hsc hmt; clear hsc
  (repeat walk_at "s1")
  refine Cl.mono (own_gaps_spec ws hs) ?_
  rintro _ rfl
  (repeat walk_at "s1")
  refine Cl.mono (row_codes_spec ws hs hj) ?_
  rintro _ rfl
  (repeat walk_at "s1")
  have hne : ¬ (("left" : Str) = "full") := by decide +kernel
  refine Exs.cons (Ex.ifC false ?_ (fun h => nomatch h) fun _ => ?_)
  · (repeat' first | walk_at "s1" | walk_at "sp")
    all_goals first | exact ⟨rfl, rfl⟩ | contradiction
  refine Exs.nil (Nx.next ?_)
  refine Exs.cons (Ex.ifC true ?_ (fun _ => ?_) (fun h => nomatch h))
  · (repeat' first | walk_at "s1" | walk_at "sp")
    all_goals first | exact ⟨rfl, rfl⟩ | contradiction
  · (repeat' first | walk_at "s1" | walk_at "sp")
    trivial
end
section
variable {w : World} {n : Nat}
noncomputable def isLd (c : Nat) : Bool := c == 32 || c == 9 || c == 62
theorem CmpV.inLd {c : Nat} : CmpV .In (sL [c]) (.str " \t>") (isLd c) := by
  have e := StrLaws.found_one (" \t>" : Str) c
  have e2 : decide (c ∈ (" \t>" : Str).cps.toList) = isLd c := by
    rw [Bool.eq_iff_iff, decide_eq_true_eq, show (" \t>" : Str).cps.toList = [32, 9, 62] from by decide +kernel]
    simp [isLd, or_assoc]
  rw [← e2, ← e]; exact CmpV.inStr
theorem CmpV.eqTab {c : Nat} : CmpV .Eq (sL [c]) (.str "\t") (c == 9) := by
  have e2 : decide ([c] = ([9] : List Nat)) = (c == 9) := by rw [Bool.eq_iff_iff]; simp
  rw [← e2, show ("\t" : Str) = ⟨[9].toArray⟩ from by decide +kernel]; exact CmpV.seqS
local macro_rules | `(tactic| walk_at "s1") => `(tactic| first | (refine ⟨_, CmpV.inLd, ?_⟩) | (refine ⟨_, CmpV.eqTab, ?_⟩))
noncomputable abbrev ldN (l : List Nat) : List Nat := l.takeWhile isLd
theorem law_lead_spec (row : List Nat) (hr : row.length ≤ 2 ^ 20) : Cl w (n + 2) 225 [sL row] (fun r => r = sL (ldN row)) := by
  refine Cl.intro (names := ["_law_row"]) (vars := ["_law_row", "_law_at"]) (globs := ["len"]) (σ0 := [some (.v (sL row)), none]) (by (show List.lookup _ (hd.heap_1 _) = _; k_is)) (by (show codeIn (hd.heap_1 _) _ _ = _; k_is)) (by (exact fb1 rfl fun _ => rfl)) ⟨_, rfl⟩ rfl rfl (by decide +kernel) (by decide +kernel) (by decide +kernel) rfl rfl rfl (by decide +kernel) ?_
  intro F hsc hmt; clear hsc
  (repeat walk_at "s1")
  refine Exs.cut (fun σ => ∃ k : Nat, σ = [some (.v (sL row)), some (.v (.int k))] ∧ k ≤ row.length ∧ (row.take k).all isLd = true ∧ (k < row.length → isLd (row.getD k 0) = false)) ?_ ?_
  · refine Ex.whileC (fun m σ => ∃ k : Nat, σ = [some (.v (sL row)), some (.v (.int k))] ∧ k ≤ row.length ∧ (row.take k).all isLd = true ∧ m = row.length - k) row.length ⟨0, rfl, Nat.zero_le _, by simp, rfl⟩ ?_
    rintro m σ ⟨k, rfl, h1, h2, rfl⟩
    refine ⟨decide (k < row.length) && isLd (row.getD k 0), ?_, fun h3 => ?_, fun h3 => ?_⟩
    · (repeat' first | walk_at "s1" | walk_at "sp")
      all_goals (first | (simp_all; done) | (simp_all; omega) | (simp_all; intros; omega))
    · simp only [Bool.and_eq_true, decide_eq_true_eq] at h3
      (repeat' first | walk_at "s1" | walk_at "sp")
      exact ⟨row.length - (k + 1), by omega, k + 1, rfl, h3.1, all_take_succ _ _ _ 0 h2 h3.1 h3.2, rfl⟩
    · (repeat' first | walk_at "s1" | walk_at "sp")
      exact ⟨k, rfl, h1, h2, fun h4 => by simpa [h4] using h3⟩
  · rintro σ ⟨k, rfl, h1, h2, h3⟩
    (repeat' first | walk_at "s1" | walk_at "sp")
    rw [ldN, takeWhile_eq _ 0 _ _ h1 h2 h3]
noncomputable abbrev cs (l : List Nat) : List Int := List.map (fun c : Nat => (c : Int)) l
theorem law_wide_spec (text : List Nat) (tab : Int) (h : 0 < tab ∧ tab ≤ 8) : Cl w (n + 2) 232 [sL text, .int tab] (fun r => r = .int (wide tab 0 (cs text))) := by
  refine Cl.intro (names := ["_law_text", "_law_tab"]) (vars := ["_law_text", "_law_tab", "_law_column", "_law_sign"]) (globs := []) (σ0 := [some (.v (sL text)), some (.v (.int tab)), none, none]) (by (show List.lookup _ (hd.heap_1 _) = _; k_is)) (by (show codeIn (hd.heap_1 _) _ _ = _; k_is)) (by (exact fb2 rfl fun _ _ => rfl)) ⟨_, rfl⟩ rfl rfl (by decide +kernel) (by decide +kernel) (by decide +kernel) rfl rfl rfl (by decide +kernel) ?_
  intro F hsc hmt; clear hsc
  (repeat walk_at "s1")
  refine Exs.cut (fun σ => ∃ x, σ = [some (.v (sL text)), some (.v (.int tab)), some (.v (.int (wide tab 0 (cs text)))), x]) ?_ ?_
  · refine Ex.forStr ?_
    (repeat' first | walk_at "s1" | walk_at "sp")
    refine ⟨fun i σ => ∃ x, σ = [some (.v (sL text)), some (.v (.int tab)), some (.v (.int (wide tab 0 (cs (text.take i))))), x], ⟨none, rfl⟩, ?_, ?_⟩
    · rintro i σ p hi ⟨x, rfl⟩
      have hi' : i < text.length := by simpa using hi
      refine As.cast (b := sL [text.getD i 0]) (by rw [getD_at _ _ hi']; simp [Array.getD, hi']) (As.name (by walk_at "lk") ?_)
      have hw : wide tab 0 (cs (text.take (i + 1))) = colB tab (wide tab 0 (cs (text.take i))) (text.getD i 0 : Nat) := by
        rw [take_snoc _ i 0 hi', cs, List.map_append]; exact wide_snoc ..
      refine Exs.cons (Ex.assign ?_)
      (repeat walk_at "s1")
      (repeat' first | walk_at "s1" | walk_at "sp")
      · rename_i hc
        refine ⟨some (.v (sL [text.getD i 0])), ?_⟩
        rw [hw, colB, if_pos (by rw [hc]; rfl)]
      · rename_i hc
        refine ⟨some (.v (sL [text.getD i 0])), ?_⟩
        rw [hw, colB, if_neg (by simp only [beq_iff_eq]; omega)]
    · rintro σ ⟨x, rfl⟩
      exact ⟨x, by simp⟩
  · rintro σ ⟨x, rfl⟩
    (repeat' first | walk_at "s1" | walk_at "sp")
    trivial
end
section
variable {w : World} {n : Nat}
noncomputable def cstN : List Nat → List Nat → List Nat
  | a :: l, b :: m => if a == b then a :: cstN l m else []
  | _, _ => []
theorem cs_cst : ∀ a b : List Nat, cs (cstN a b) = cst (cs a) (cs b)
  | [], _ => by simp [cstN, cst]
  | a :: l, [] => by simp [cstN, cst]
  | a :: l, b :: m => by
    have ih := cs_cst l m
    by_cases h : a = b
    · subst h; simp [cstN, cst, cs] at *; exact ih
    · have h2 : ¬ (a : Int) = b := by omega
      simp [cstN, cst, cs, h, h2]
theorem cstN_pre : ∀ (a b : List Nat), a = b.take a.length → cstN a b = a
  | [], b, _ => by cases b <;> simp [cstN]
  | a :: l, [], h => by simp at h
  | a :: l, b :: m, h => by
    simp only [List.length_cons, List.take_succ_cons, List.cons.injEq] at h
    simp [cstN, h.1, cstN_pre l m h.2]
theorem cstN_init : ∀ (a b : List Nat), a ≠ b.take a.length → cstN a.dropLast b = cstN a b
  | [], b, h => by simp at h
  | [a], [], _ => by simp [cstN]
  | [a], b :: m, h => by
    have h : ¬ a = b := by simpa using h
    simp [cstN, h]
  | a :: a2 :: l, [], _ => by simp [cstN]
  | a :: a2 :: l, b :: m, h => by
    rw [List.dropLast_cons_cons]
    by_cases hab : a = b
    · subst hab
      have := cstN_init (a2 :: l) m (fun e => h (by rw [List.length_cons, List.take_succ_cons, ← e]))
      simp [cstN, this]
    · simp [cstN, hab]
theorem cstN_le (a b : List Nat) : (cstN a b).length ≤ a.length := by
  induction a generalizing b with
  | nil => cases b <;> simp [cstN]
  | cons x l ih =>
    cases b with
    | nil => simp [cstN]
    | cons y m => simp only [cstN]; split <;> simp [ih]
noncomputable def sharedN : List (List Nat) → List Nat
  | [] => []
  | r :: rs => rs.foldl (fun f row => cstN f (ldN row)) (ldN r)
theorem shared_le : ∀ (rs : List (List Nat)) (f : List Nat), (rs.foldl (fun f row => cstN f (ldN row)) f).length ≤ f.length
  | [], f => Nat.le_refl _
  | r :: rs, f => Nat.le_trans (shared_le rs _) (cstN_le _ _)
theorem ldN_le (l : List Nat) : (ldN l).length ≤ l.length := (List.takeWhile_sublist _).length_le
theorem law_shared_spec (r : List Nat) (rs : List (List Nat)) (hl : ∀ x ∈ r :: rs, x.length ≤ 2 ^ 20) (hs : rs.length ≤ 2 ^ 20) : Cl w (n + 3) 239 [.list ((r :: rs).map sL)] (fun v => v = sL (sharedN (r :: rs))) := by
  refine Cl.intro (names := ["_law_rows"]) (vars := ["_law_rows", "_law_found", "_law_row"]) (globs := ["_law_lead"]) (σ0 := [some (.v (.list ((r :: rs).map sL))), none, none]) (by (show List.lookup _ (hd.heap_1 _) = _; k_is)) (by (show codeIn (hd.heap_1 _) _ _ = _; k_is)) (by (exact fb1 rfl fun _ => rfl)) ⟨_, rfl⟩ rfl rfl (by decide +kernel) (by decide +kernel) (by decide +kernel) rfl rfl rfl (by decide +kernel) ?_
  intro F hsc hmt; clear hsc
  have hr := hl r (.head _)
  have hrl := ldN_le r
  (repeat walk_at "s1")
  refine ⟨_, idx_list (k := 0) .none (by simp) (by simp; omega), ?_⟩
  rw [show ((r :: rs).map sL).getD 0 .none = sL r from rfl]
  (repeat walk_at "s1")
  refine Cl.mono (law_lead_spec r hr) ?_
  rintro _ rfl
  (repeat walk_at "s1")
  refine Exs.cut (fun σ => ∃ x, σ = [some (.v (.list ((r :: rs).map sL))), some (.v (sL (sharedN (r :: rs)))), x]) ?_ ?_
  · refine Ex.forList ?_
    (repeat walk_at "s1")
    rw [show List.drop 1 (List.map sL (r :: rs)) = rs.map sL from rfl]
    refine ⟨fun i σ => ∃ x, σ = [some (.v (.list ((r :: rs).map sL))), some (.v (sL ((rs.take i).foldl (fun f row => cstN f (ldN row)) (ldN r)))), x], ⟨_, rfl⟩, ?_, ?_⟩
    · rintro i σ p hi ⟨x, rfl⟩
      rw [List.length_map] at hi
      refine As.cast (getD_map sL rs i _ [] hi) (As.name (by walk_at "lk") ?_)
      have hx := hl _ (List.mem_cons_of_mem _ (mem_getD rs i [] hi))
      have hstep : (rs.take (i + 1)).foldl (fun f row => cstN f (ldN row)) (ldN r) = cstN ((rs.take i).foldl (fun f row => cstN f (ldN row)) (ldN r)) (ldN (rs.getD i [])) := by
        rw [take_snoc rs i [] hi, List.foldl_append]; rfl
      have hfl := shared_le (rs.take i) (ldN r)
      generalize (rs.take i).foldl (fun f row => cstN f (ldN row)) (ldN r) = f0 at *
      generalize rs.getD i [] = row at *
      refine Exs.cut (fun σ => σ = [some (.v (.list (sL r :: rs.map sL))), some (.v (sL (cstN f0 (ldN row)))), some (.v (sL row))]) ?_ ?_
      · refine Ex.whileC (fun m σ => ∃ f : List Nat, f.length ≤ f0.length ∧ cstN f (ldN row) = cstN f0 (ldN row) ∧ σ = [some (.v (.list (sL r :: rs.map sL))), some (.v (sL f)), some (.v (sL row))] ∧ m = f.length) f0.length ⟨f0, Nat.le_refl _, rfl, rfl, rfl⟩ ?_
        rintro m σ ⟨f, h1, h2, rfl, rfl⟩
        refine ⟨!decide (f = (ldN row).take f.length), ?_, fun hb => ?_, fun hb => ?_⟩
        · (repeat' first | walk_at "s1" | walk_at "sp")
          refine Cl.mono (law_lead_spec row hx) ?_
          rintro _ rfl
          (repeat' first | walk_at "s1" | walk_at "sp")
          exact ⟨rfl, rfl⟩
        · simp only [Bool.not_eq_true', decide_eq_false_iff_not] at hb
          have hne : 1 ≤ f.length := by
            cases f with
            | nil => exact absurd rfl hb
            | cons => simp
          (repeat' first | walk_at "s1" | walk_at "sp")
          exact ⟨f.dropLast.length, by simp; omega, f.dropLast, by simp; omega, by rw [cstN_init _ _ hb, h2], rfl, rfl⟩
        · simp only [Bool.not_eq_false', decide_eq_true_eq] at hb
          (repeat' first | walk_at "s1" | walk_at "sp")
          rw [← h2, cstN_pre _ _ hb]
      · rintro σ rfl
        (repeat' first | walk_at "s1" | walk_at "sp")
        refine ⟨some (.v (sL row)), ?_⟩
        rw [hstep]
        rfl
    · rw [List.length_map]
      rintro σ ⟨x, rfl⟩
      exact ⟨x, by rw [List.take_length]; rfl⟩
  · rintro σ ⟨x, rfl⟩
    (repeat' first | walk_at "s1" | walk_at "sp")
    trivial
end
section
variable {w : World} {n : Nat}
noncomputable def jR : List (List Int) → List Int
  | [] => []
  | [a] => a
  | a :: b :: r => a ++ 10 :: jR (b :: r)
theorem jR_snoc : ∀ (l : List (List Int)) (x : List Int), l ≠ [] → jR (l ++ [x]) = jR l ++ 10 :: x
  | [], _, h => absurd rfl h
  | [a], x, _ => rfl
  | a :: b :: r, x, _ => by
    have := jR_snoc (b :: r) x (by simp)
    rw [List.cons_append, List.cons_append, jR, ← List.cons_append, this, jR]
    simp
theorem jR_len_take : ∀ (l : List (List Int)) (k : Nat), (jR (l.take k)).length ≤ (jR l).length
  | [], _ => by simp [jR]
  | _, 0 => by simp [jR]
  | [a], k + 1 => by simp
  | a :: b :: r, 1 => by simp [jR]
  | a :: b :: r, k + 2 => by
    have := jR_len_take (b :: r) (k + 1)
    simp only [List.take_succ_cons, jR, List.length_append, List.length_cons] at *
    omega
noncomputable abbrev iLs (l : List (List Int)) : AV := .list (l.map iL)
theorem joined_rows_spec (rows : List (List Int)) (hs : rows.length ≤ 2 ^ 20) (hj : (jR rows).length ≤ 2 ^ 20) : Cl w (n + 2) 152 [iLs rows] (fun r => r = iL (jR rows)) := by
  refine Cl.intro (names := ["rows"]) (vars := ["rows", "codes", "place"]) (globs := ["range", "len", "ROW_END_filltext"]) (σ0 := [some (.v (iLs rows)), none, none]) (by (show List.lookup _ (hd.heap_1 _) = _; k_is)) (by (show codeIn (hd.heap_1 _) _ _ = _; k_is)) (by (exact fb1 rfl fun _ => rfl)) ⟨_, rfl⟩ rfl rfl (by decide +kernel) (by decide +kernel) (by decide +kernel) rfl rfl rfl (by decide +kernel) ?_
  intro F hsc hmt; clear hsc
  have hlm : (rows.map iL).length = rows.length := List.length_map ..
  (refine Exs.cons (Ex.assignO (EvO.list (El.nil ⟨by simp, _, by walk_at "lk", Nx.next ?_⟩))))
  refine Exs.cut (fun σ => ∃ x, σ = [some (.v (iLs rows)), some (.o ((jR rows).map .int)), x]) ?_ ?_
  · refine Ex.forRange (by walk_at "lk") B2 ?_
    (repeat' first | walk_at "s1" | walk_at "sp")
    rw [hlm]
    refine ⟨by omega, fun i σ => ∃ x, σ = [some (.v (iLs rows)), some (.o ((jR (rows.take i)).map .int)), x], ⟨none, rfl⟩, ?_, ?_⟩
    · rintro i σ p hi ⟨x, rfl⟩
      have hx : (rows.map iL).getD i .none = iL (rows.getD i []) := getD_map _ _ _ _ _ hi
      have hle := jR_len_take rows (i + 1)
      refine As.name (by walk_at "lk") ?_
      refine Exs.cut (fun σ => σ = [some (.v (iLs rows)), some (.o ((if i = 0 then [] else jR (rows.take i) ++ [10]).map .int)), some (.v (.int i))] ∧ jR (rows.take (i + 1)) = (if i = 0 then [] else jR (rows.take i) ++ [10]) ++ rows.getD i []) ?_ ?_
      · refine Ex.ifC (decide (0 < i)) ?_ ?_ ?_
        · (repeat' first | walk_at "s1" | walk_at "sp")
          refine ⟨?_, rfl⟩
          rw [Bool.eq_iff_iff, decide_eq_true_eq, decide_eq_true_eq]; omega
        · intro hb
          rw [decide_eq_true_eq] at hb
          have e := jR_snoc (rows.take i) (rows.getD i []) (take_ne_nil hb (by omega))
          rw [← take_snoc rows i [] hi] at e
          rw [e] at hle
          simp only [List.length_append, List.length_cons] at hle
          (refine Exs.cons (Ex.append (by walk_at "lk") fun d o => ⟨_, by walk_at "lk", ?_⟩))
          (repeat' first | walk_at "s1" | walk_at "sp")
          refine ⟨?_, ?_⟩
          · rw [if_neg (by omega), List.map_append]; rfl
          · rw [if_neg (by omega), e]; simp
        · intro hb
          rw [decide_eq_false_iff_not] at hb
          have : i = 0 := by omega
          subst this
          (repeat' first | walk_at "s1" | walk_at "sp")
          refine ⟨rfl, ?_⟩
          rw [take_snoc rows 0 [] hi]; rfl
      · rintro σ ⟨rfl, e⟩
        rw [e] at hle
        simp only [List.length_append] at hle
        refine Exs.cons (Ex.extend (by walk_at "lk") fun d o => ⟨_, by walk_at "lk", ?_⟩)
        refine Ev.index ?_
        (repeat' first | walk_at "s1" | walk_at "sp")
        refine ⟨_, idx_list .none (by omega) (by omega), ?_⟩
        rw [hx]
        refine ⟨(rows.getD i []).map .int, rfl, by walk_at "lk", by simp only [List.length_map]; omega, _, by walk_at "lk", Nx.next ?_⟩
        rw [← List.map_append, ← e]
        (repeat' first | walk_at "s1" | walk_at "sp")
        exact ⟨some (.v (.int i)), rfl⟩
    · rintro σ ⟨x, rfl⟩
      exact ⟨x, by rw [List.take_length]⟩
  · rintro σ ⟨x, rfl⟩
    (repeat' first | walk_at "s1" | walk_at "sp")
    trivial
end
section
variable {w : World} {n : Nat}
noncomputable def leadI (leads row : List Int) : List Int := row.takeWhile (isLead leads)
noncomputable def blankI (l : List Int) : Bool := l.all fun c => c == 32 || c == 9
theorem lead_of_spec' (row leads : List Int) (col way tab : AV) (hr : row.length ≤ 2 ^ 20) (hl : leads.length ≤ 2 ^ 20) :
    Cl w (n + 2) 159 [iL row, .fill col way (iL leads) tab] (fun r => r = iL (leadI leads row)) := lead_of_spec row leads col way tab hr hl
theorem is_blank_lead_spec' (lead : List Int) (h : lead.length ≤ 2 ^ 20) : Cl w (n + 2) 173 [iL lead] (fun r => r = .bool (blankI lead)) := is_blank_lead_spec lead h
noncomputable def restI (leads : List Int) (r0 : List Int) : List (List Int) → List Int
  | [] => if blankI (leadI leads r0) then leadI leads r0 else []
  | r1 :: rs => rs.foldl (fun f row => cst f (leadI leads row)) (leadI leads r1)
theorem leadI_le (leads row : List Int) : (leadI leads row).length ≤ row.length := (List.takeWhile_sublist _).length_le
theorem cst_le (a b : List Int) : (cst a b).length ≤ a.length := by
  induction a generalizing b with
  | nil => cases b <;> simp [cst]
  | cons x l ih =>
    cases b with
    | nil => simp [cst]
    | cons y m => simp only [cst]; split <;> simp [ih]
theorem foldC_le (leads : List Int) : ∀ (rs : List (List Int)) (f : List Int), (rs.foldl (fun f row => cst f (leadI leads row)) f).length ≤ f.length
  | [], f => Nat.le_refl _
  | r :: rs, f => Nat.le_trans (foldC_le leads rs _) (cst_le _ _)
theorem leads_of_spec (r0 : List Int) (rs : List (List Int)) (leads : List Int) (col way tab : AV) (hl : ∀ x ∈ r0 :: rs, x.length ≤ 2 ^ 20) (hs : rs.length + 1 ≤ 2 ^ 20) (hle : leads.length ≤ 2 ^ 20) :
    Cl w (n + 3) 180 [iLs (r0 :: rs), .fill col way (iL leads) tab] (fun r => r = .tup [iL (leadI leads r0), iL (restI leads r0 rs)]) := by
  refine Cl.intro (names := ["rows", "filling"]) (vars := ["rows", "filling", "first", "rest", "row"]) (globs := ["lead_of", "len", "is_blank_lead", "common_start"]) (σ0 := [some (.v (iLs (r0 :: rs))), some (.v (.fill col way (iL leads) tab)), none, none, none]) (by (show List.lookup _ (hd.heap_1 _) = _; k_is)) (by (show codeIn (hd.heap_1 _) _ _ = _; k_is)) (by (exact fb2 rfl fun _ _ => rfl)) ⟨_, rfl⟩ rfl rfl (by decide +kernel) (by decide +kernel) (by decide +kernel) rfl rfl rfl (by decide +kernel) ?_
  intro F hsc hmt; clear hsc
  have hr := hl r0 (.head _)
  have hrl := leadI_le leads r0
  have hlm : ((r0 :: rs).map iL).length = rs.length + 1 := by simp
  (repeat walk_at "s1")
  refine ⟨_, idx_list (k := 0) .none (by simp) (by simp; omega), ?_⟩
  rw [show ((r0 :: rs).map iL).getD 0 .none = iL r0 from rfl]
  (repeat walk_at "s1")
  refine Cl.mono (lead_of_spec' r0 leads col way tab hr hle) ?_
  rintro _ rfl
  (repeat walk_at "s1")
  refine Exs.cons (Ex.ifC (decide (rs.length = 0)) ?_ ?_ ?_)
  · (repeat' first | walk_at "s1" | walk_at "sp")
    refine ⟨?_, rfl⟩
    rw [Bool.eq_iff_iff, decide_eq_true_eq, beq_iff_eq, hlm]; omega
  · intro hb
    rw [decide_eq_true_eq] at hb
    have : rs = [] := List.length_eq_zero_iff.mp hb
    subst this
    (repeat walk_at "s1")
    refine Cl.mono (is_blank_lead_spec' _ (by omega)) ?_
    rintro _ rfl
    (repeat' first | walk_at "s1" | walk_at "sp")
    · rename_i h1
      rw [restI, if_pos h1]
    · rename_i h1
      rw [restI, if_neg (by rw [h1]; exact Bool.false_ne_true)]; rfl
  · intro hb
    rw [decide_eq_false_iff_not] at hb
    cases rs with
    | nil => exact absurd rfl hb
    | cons r1 rs =>
    have hr1 := hl r1 (.tail _ (.head _))
    have hrl1 := leadI_le leads r1
    (repeat walk_at "s1")
    refine ⟨_, idx_list (k := 1) .none (by simp) (by simp only [List.length_map, List.length_cons] at hs ⊢; omega), ?_⟩
    rw [show ((r0 :: r1 :: rs).map iL).getD 1 .none = iL r1 from rfl]
    (repeat walk_at "s1")
    refine Cl.mono (lead_of_spec' r1 leads col way tab hr1 hle) ?_
    rintro _ rfl
    (repeat walk_at "s1")
    refine Exs.cut (fun σ => ∃ x, σ = [some (.v (iLs (r0 :: r1 :: rs))), some (.v (.fill col way (iL leads) tab)), some (.v (iL (leadI leads r0))), some (.v (iL (restI leads r0 (r1 :: rs)))), x]) ?_ ?_
    · refine Ex.forList ?_
      (repeat walk_at "s1")
      rw [show List.drop 2 (List.map iL (r0 :: r1 :: rs)) = rs.map iL from rfl]
      refine ⟨fun i σ => ∃ x, σ = [some (.v (iLs (r0 :: r1 :: rs))), some (.v (.fill col way (iL leads) tab)), some (.v (iL (leadI leads r0))), some (.v (iL ((rs.take i).foldl (fun f row => cst f (leadI leads row)) (leadI leads r1)))), x], ⟨none, rfl⟩, ?_, ?_⟩
      · rintro i σ p hi ⟨x, rfl⟩
        rw [List.length_map] at hi
        refine As.cast (getD_map iL rs i _ [] hi) (As.name (by walk_at "lk") ?_)
        have hx := hl _ (.tail _ (.tail _ (mem_getD rs i [] hi)))
        have hxl := leadI_le leads (rs.getD i [])
        have hfl := foldC_le leads (rs.take i) (leadI leads r1)
        (repeat walk_at "s1")
        refine Cl.mono (lead_of_spec' _ leads col way tab hx hle) ?_
        rintro _ rfl
        (repeat walk_at "s1")
        refine Cl.mono (Cl.room (common_start_spec (n := n) _ _ (by omega) (by omega)) (by omega)) ?_
        rintro _ rfl
        (repeat walk_at "s1")
        refine ⟨some (.v (iL (rs.getD i []))), ?_⟩
        rw [take_snoc rs i [] hi, List.foldl_append]
        rfl
      · rw [List.length_map]
        rintro σ ⟨x, rfl⟩
        exact ⟨x, by rw [List.take_length]; rfl⟩
    · rintro σ ⟨x, rfl⟩
      (repeat' first | walk_at "s1" | walk_at "sp")
      trivial
end
section
variable {w : World} {n : Nat}
noncomputable def tot : List (List Int) → Nat
  | [] => 0
  | x :: r => x.length + 1 + tot r
theorem tot_mem : ∀ {l : List (List Int)} {x : List Int}, x ∈ l → x.length + 1 ≤ tot l
  | a :: r, x, h => by
    simp only [tot]
    rcases List.mem_cons.mp h with rfl | h
    · omega
    · have := tot_mem h; omega
theorem tot_len : ∀ l : List (List Int), l.length ≤ tot l
  | [] => Nat.le_refl _
  | x :: r => by have := tot_len r; simp only [tot, List.length_cons]; omega
theorem tot_take : ∀ (l : List (List Int)) (k : Nat), tot (l.take k) ≤ tot l
  | [], k => by simp
  | _ :: _, 0 => by simp [tot]
  | x :: r, k + 1 => by have := tot_take r k; simp only [List.take_succ_cons, tot]; omega
theorem tot_drop : ∀ (l : List (List Int)) (k : Nat), tot (l.drop k) ≤ tot l
  | [], k => by simp
  | _ :: _, 0 => by simp
  | x :: r, k + 1 => by have := tot_drop r k; simp only [List.drop_succ_cons, tot]; omega
theorem jI_tot : ∀ l : List (List Int), (jI l).length ≤ tot l
  | [] => by simp [jI]
  | [a] => by simp [jI, tot]
  | a :: b :: r => by
    have := jI_tot (b :: r)
    simp only [jI, tot, List.length_append, List.length_cons] at *; omega
theorem wgo_tot : ∀ (cur r : List Int), tot (wgo cur r) ≤ cur.length + r.length + 1
  | cur, [] => by simp only [wgo]; split <;> simp [tot]
  | cur, c :: r => by
    have h1 := wgo_tot [] r
    have h2 := wgo_tot (cur ++ [c]) r
    simp only [List.length_append, List.length_cons, List.length_nil] at h1 h2
    simp only [wgo, List.length_cons]
    split
    · split
      · omega
      · simp only [tot]; omega
    · omega
theorem rowsF_len (w2 : Int) : ∀ (n : Nat) (w1 : Int) (l : List (List Int)), (rowsF w2 n w1 l).length ≤ n
  | 0, _, _ => by simp [rowsF]
  | n + 1, w1, [] => by simp [rowsF]
  | n + 1, w1, x :: r => by have := rowsF_len w2 n w2 ((x :: r).drop (rowEnd w1 (x :: r))); simp only [rowsF, List.length_cons]; omega
theorem rowsF_tot (w2 : Int) : ∀ (n : Nat) (w1 : Int) (l p : List (List Int)), p ∈ rowsF w2 n w1 l → tot p ≤ tot l
  | 0, _, _, p, h => by simp [rowsF] at h
  | n + 1, w1, [], p, h => by simp [rowsF] at h
  | n + 1, w1, x :: r, p, h => by
    rw [rowsF] at h
    rcases List.mem_cons.mp h with rfl | h
    · exact tot_take _ _
    · exact Nat.le_trans (rowsF_tot w2 n w2 _ p h) (tot_drop _ _)
noncomputable def wordsI (first rest r0 : List Int) (rs : List (List Int)) : List Int := r0.drop first.length ++ (rs.map fun row => 10 :: row.drop rest.length).flatten
theorem wordsI_len (first rest r0 : List Int) : ∀ rs : List (List Int), (wordsI first rest r0 rs).length ≤ tot (r0 :: rs)
  | [] => by simp [wordsI, tot]; omega
  | r :: rs => by
    have := wordsI_len first rest r0 rs
    simp only [wordsI, tot, List.map_cons, List.flatten_cons, List.length_append, List.length_cons, List.length_drop] at *; omega
theorem wordsI_snoc (first rest r0 : List Int) (rs : List (List Int)) (x : List Int) : wordsI first rest r0 (rs ++ [x]) = wordsI first rest r0 rs ++ 10 :: x.drop rest.length := by
  simp [wordsI]
theorem wordsI_mem (first rest r0 : List Int) (rs : List (List Int)) (c : Int) (h : c ∈ wordsI first rest r0 rs) : c = 10 ∨ ∃ row ∈ r0 :: rs, c ∈ row := by
  rcases List.mem_append.mp h with h | h
  · exact .inr ⟨r0, .head _, List.mem_of_mem_drop h⟩
  · obtain ⟨l, hl, hc⟩ := List.mem_flatten.mp h
    obtain ⟨row, hr, rfl⟩ := List.mem_map.mp hl
    rcases List.mem_cons.mp hc with rfl | hc
    · exact .inl rfl
    · exact .inr ⟨row, .tail _ hr, List.mem_of_mem_drop hc⟩
noncomputable def glueP (first rest : List Int) : List (List (List Int)) → List (List Int)
  | [] => []
  | p :: ps => (first ++ jI p) :: ps.map fun q => rest ++ jI q
theorem glueP_snoc (first rest : List Int) (ps : List (List (List Int))) (p : List (List Int)) : glueP first rest (ps ++ [p]) = glueP first rest ps ++ [(if ps.length = 0 then first else rest) ++ jI p] := by
  cases ps <;> simp [glueP]
noncomputable def fillP (leads : List Int) (col tab : Int) : List (List Int) → List (List Int)
  | [] => []
  | r0 :: rs => glueP (leadI leads r0) (restI leads r0 rs) (rowsOf (col - wide tab 0 (leadI leads r0)) (col - wide tab 0 (restI leads r0 rs)) (wds (wordsI (leadI leads r0) (restI leads r0 rs) r0 rs)))
noncomputable def Okc (row : List Int) : Prop := ∀ c ∈ row, isBl c = false → Pl c = true
theorem restI_le (leads r0 : List Int) (rs : List (List Int)) : (restI leads r0 rs).length ≤ tot (r0 :: rs) := by
  cases rs with
  | nil =>
    have := leadI_le leads r0
    simp only [restI, tot]; split
    · omega
    · simp
  | cons r1 rs =>
    have h1 := foldC_le leads rs (leadI leads r1)
    have h2 := leadI_le leads r1
    simp only [restI, tot]; omega
theorem wgo_plain : ∀ (cur r : List Int), (∀ c ∈ r, isBl c = false → Pl c = true) → (∀ c ∈ cur, Pl c = true) → ∀ x ∈ wgo cur r, ∀ c ∈ x, Pl c = true
  | cur, [], _, hc, x, hx, c, h => by
    simp only [wgo] at hx
    split at hx
    · cases hx
    · rw [List.mem_singleton.mp hx] at h; exact hc c h
  | cur, d :: r, hr, hc, x, hx, c, h => by
    have hr' : ∀ c ∈ r, isBl c = false → Pl c = true := fun c hc => hr c (.tail _ hc)
    simp only [wgo] at hx
    split at hx
    · split at hx
      · exact wgo_plain [] r hr' (fun _ h => nomatch h) x hx c h
      · rcases List.mem_cons.mp hx with rfl | hx
        · exact hc c h
        · exact wgo_plain [] r hr' (fun _ h => nomatch h) x hx c h
    · rename_i hb
      refine wgo_plain (cur ++ [d]) r hr' (fun e he => ?_) x hx c h
      rcases List.mem_append.mp he with he | he
      · exact hc e he
      · rw [List.mem_singleton.mp he]; exact hr d (.head _) (by simpa using hb)
theorem filled_paragraph_spec (r0 : List Int) (rs : List (List Int)) (leads : List Int) (col tab : Int) (ht : 0 < tab ∧ tab ≤ 8) (hN : tot (r0 :: rs) ≤ 2 ^ 18) (hle : leads.length ≤ 2 ^ 20) (hok : ∀ row ∈ r0 :: rs, Okc row) :
    Cl w (n + 5) 187 [iLs (r0 :: rs), .fill (.int col) (.str "left") (iL leads) (.int tab)] (fun r => r = iLs (fillP leads col tab (r0 :: rs))) := by
  refine Cl.intro (names := ["rows", "filling"]) (vars := ["rows", "filling", "first", "rest", "words", "row", "room", "later", "found", "parts", "place", "lead", "width"]) (globs := ["leads_of", "len", "ROW_END_filltext", "row_columns", "rows_of", "pieces_of", "range", "placed_row"]) (σ0 := [some (.v (iLs (r0 :: rs))), some (.v (.fill (.int col) (.str "left") (iL leads) (.int tab))), none, none, none, none, none, none, none, none, none, none, none]) (by (show List.lookup _ (hd.heap_1 _) = _; k_is)) (by (show codeIn (hd.heap_1 _) _ _ = _; k_is)) (by (exact fb2 rfl fun _ _ => rfl)) ⟨_, rfl⟩ rfl rfl (by decide +kernel) (by decide +kernel) (by decide +kernel) rfl rfl rfl (by decide +kernel) ?_
  intro F hsc hmt; clear hsc
  have hlen : ∀ x ∈ r0 :: rs, x.length ≤ 2 ^ 20 := fun x hx => by have := tot_mem hx; omega
  have hcnt := tot_len (r0 :: rs)
  rw [List.length_cons] at hcnt
  have hfl : (leadI leads r0).length ≤ 2 ^ 20 := Nat.le_trans (leadI_le leads r0) (hlen r0 (.head _))
  have hrl : (restI leads r0 rs).length ≤ 2 ^ 20 := by have := restI_le leads r0 rs; omega
  refine Exs.cons (Ex.assignT ?_)
  (repeat walk_at "s1")
  refine Cl.mono (Cl.room (leads_of_spec (n := n) r0 rs leads _ _ _ hlen (by omega) hle) (by omega)) ?_
  rintro _ rfl
  refine As.two (by walk_at "lk") (by walk_at "lk") ?_
  rw [fillP]
  generalize hfe : leadI leads r0 = first at *
  generalize hre : restI leads r0 rs = rest at *
  have hr0 := hlen r0 (.head _)
  (repeat walk_at "s1")
  refine ⟨_, idx_list (k := 0) .none (by simp) (by simp; omega), ?_⟩
  rw [show ((r0 :: rs).map iL).getD 0 .none = iL r0 from rfl]
  (repeat walk_at "s1")
  rw [List.length_map, ← List.map_drop]
  have hwl := fun i => wordsI_len first rest r0 (rs.take i)
  refine Exs.cut (fun σ => ∃ x, σ = [some (.v (iLs (r0 :: rs))), some (.v (.fill (.int col) (.str "left") (iL leads) (.int tab))), some (.v (iL first)), some (.v (iL rest)), some (.v (iL (wordsI first rest r0 rs))), x, none, none, none, none, none, none, none]) ?_ ?_
  · refine Ex.forList ?_
    (repeat walk_at "s1")
    rw [show List.drop 1 (List.map iL (r0 :: rs)) = rs.map iL from rfl]
    refine ⟨fun i σ => ∃ x, σ = [some (.v (iLs (r0 :: rs))), some (.v (.fill (.int col) (.str "left") (iL leads) (.int tab))), some (.v (iL first)), some (.v (iL rest)), some (.v (iL (wordsI first rest r0 (rs.take i)))), x, none, none, none, none, none, none, none], ⟨none, by simp [wordsI]⟩, ?_, ?_⟩
    · rintro i σ p hi ⟨x, rfl⟩
      rw [List.length_map] at hi
      have hx := hlen _ (.tail _ (mem_getD rs i [] hi))
      have hwi := hwl i
      have htk : tot (r0 :: rs.take i) ≤ 2 ^ 18 := by have := tot_take rs i; simp only [tot] at *; omega
      refine As.cast (getD_map iL rs i _ [] hi) (As.name (by walk_at "lk") ?_)
      (repeat walk_at "s1")
      refine ⟨some (.v (iL (rs.getD i []))), ?_⟩
      rw [take_snoc rs i [] hi, wordsI_snoc]
      simp [List.map_append, List.map_drop]
    · rw [List.length_map]
      rintro σ ⟨x, rfl⟩
      exact ⟨x, by rw [List.take_length]⟩
  · rintro σ ⟨x, rfl⟩
    have hwl := wordsI_len first rest r0 rs
    have htot : tot (wds (wordsI first rest r0 rs)) ≤ (wordsI first rest r0 rs).length + 1 := by
      have := wgo_tot [] (wordsI first rest r0 rs)
      simp only [List.length_nil, Nat.zero_add] at this
      exact this
    have hwc := tot_len (wds (wordsI first rest r0 rs))
    (repeat walk_at "s1")
    refine Cl.mono (Cl.room (row_columns_spec (n := n) first tab ht hfl) (by omega)) ?_
    rintro _ rfl
    (repeat walk_at "s1")
    refine Cl.mono (Cl.room (row_columns_spec (n := n) rest tab ht hrl) (by omega)) ?_
    rintro _ rfl
    (repeat walk_at "s1")
    have hpl : ∀ c ∈ wordsI first rest r0 rs, isBl c = false → Pl c = true := fun c hc hb => by
      rcases wordsI_mem first rest r0 rs c hc with rfl | ⟨row, hr, h⟩
      · cases hb
      · exact hok row hr c h hb
    refine Cl.mono (pieces_of_spec _ hpl (by omega)) ?_
    rintro _ rfl
    (repeat walk_at "s1")
    have hmem : ∀ x ∈ wds (wordsI first rest r0 rs), Wd x ∧ x.length ≤ 2 ^ 20 := fun x hx => by
      have h1 := wgo_mem [] _ x hx
      refine ⟨⟨h1.1, fun c hc => ?_⟩, by have := tot_mem hx; omega⟩
      exact wgo_plain [] _ hpl (fun _ h => nomatch h) x hx c hc
    refine Cl.mono (rows_of_spec _ _ _ (fun x hx => (hmem x hx).1) (fun x hx => (hmem x hx).2) (by omega)) ?_
    rintro _ rfl
    (repeat walk_at "s1")
    have hplen : ∀ p ∈ rowsOf (col - wide tab 0 first) (col - wide tab 0 rest) (wds (wordsI first rest r0 rs)), tot p ≤ 2 ^ 19 := fun p hp => by
      have := rowsF_tot _ _ _ _ p hp; omega
    have hpcnt : (rowsOf (col - wide tab 0 first) (col - wide tab 0 rest) (wds (wordsI first rest r0 rs))).length ≤ 2 ^ 19 := by
      have := rowsF_len (col - wide tab 0 rest) (wds (wordsI first rest r0 rs)).length (col - wide tab 0 first) (wds (wordsI first rest r0 rs))
      unfold rowsOf; omega
    generalize hparts : rowsOf (col - wide tab 0 first) (col - wide tab 0 rest) (wds (wordsI first rest r0 rs)) = parts at *
    generalize hwe : wordsI first rest r0 rs = words at *
    generalize hroom : col - wide tab 0 first = room at *
    generalize hlater : col - wide tab 0 rest = later at *
    have hlm : (parts.map pcs).length = parts.length := List.length_map ..
    refine Exs.cut (fun σ => ∃ y1 y2 y3, σ = [some (.v (iLs (r0 :: rs))), some (.v (.fill (.int col) (.str "left") (iL leads) (.int tab))), some (.v (iL first)), some (.v (iL rest)), some (.v (iL words)), x, some (.v (.int room)), some (.v (.int later)), some (.o ((glueP first rest parts).map iL)), some (.v (.list (parts.map pcs))), y1, y2, y3]) ?_ ?_
    · refine Ex.forRange (by walk_at "lk") B2 ?_
      (repeat' first | walk_at "s1" | walk_at "sp")
      rw [hlm]
      refine ⟨by omega, fun i σ => ∃ y1 y2 y3, σ = [some (.v (iLs (r0 :: rs))), some (.v (.fill (.int col) (.str "left") (iL leads) (.int tab))), some (.v (iL first)), some (.v (iL rest)), some (.v (iL words)), x, some (.v (.int room)), some (.v (.int later)), some (.o ((glueP first rest (parts.take i)).map iL)), some (.v (.list (parts.map pcs))), y1, y2, y3], ⟨none, none, none, rfl⟩, ?_, ?_⟩
      · rintro i σ p hi ⟨y1, y2, y3, rfl⟩
        have hx : (parts.map pcs).getD i .none = pcs (parts.getD i []) := getD_map _ _ _ _ _ hi
        have hpl2 := hplen _ (mem_getD parts i [] hi)
        have hjl := jI_tot (parts.getD i [])
        have hcl := tot_len (parts.getD i [])
        have hgl : (glueP first rest (parts.take i)).length ≤ 2 ^ 19 := by
          have : (glueP first rest (parts.take i)).length = (parts.take i).length := by cases parts.take i <;> simp [glueP]
          rw [this, List.length_take]; omega
        refine As.name (by walk_at "lk") ?_
        refine Exs.cons (Ex.assign (EvIs.go (c := iL (if i = 0 then first else rest)) ?_ ?_))
        · (repeat' first | walk_at "s1" | walk_at "sp")
          · rw [if_pos (by omega)]; exact ⟨rfl, rfl⟩
          · rw [if_neg (by omega)]; exact ⟨rfl, rfl⟩
        walk_at "s1"
        refine Nx.next ?_
        refine Exs.cons (Ex.assign (EvIs.go (c := .int (if i = 0 then room else later)) ?_ ?_))
        · (repeat' first | walk_at "s1" | walk_at "sp")
          · rw [if_pos (by omega)]; exact ⟨rfl, rfl⟩
          · rw [if_neg (by omega)]; exact ⟨rfl, rfl⟩
        walk_at "s1"
        refine Nx.next ?_
        (refine Exs.cons (Ex.append (by walk_at "lk") fun d o => ⟨_, by walk_at "lk", ?_⟩))
        (repeat walk_at "s1")
        refine ⟨_, idx_list .none (by omega) (by omega), ?_⟩
        rw [hx]
        (repeat walk_at "s1")
        refine Cl.mono (Cl.room (placed_row_spec (n := n) (parts.getD i []) _ _ (by omega) (by omega)) (by omega)) ?_
        rintro _ rfl
        have hfr : (if i = 0 then first else rest).length ≤ 2 ^ 20 := by split <;> assumption
        (repeat walk_at "s1")
        refine ⟨some (.v (.int i)), some (.v (iL (if i = 0 then first else rest))), some (.v (.int (if i = 0 then room else later))), ?_⟩
        rw [take_snoc parts i [] hi, glueP_snoc, List.length_take, Nat.min_eq_left (by omega), List.map_append]
        simp only [List.map_cons, List.map_nil, iL, List.map_append]
      · rintro σ ⟨y1, y2, y3, rfl⟩
        exact ⟨y1, y2, y3, by rw [List.take_length]⟩
    · rintro σ ⟨y1, y2, y3, rfl⟩
      (repeat' first | walk_at "s1" | walk_at "sp")
      trivial
end
section
variable {w : World} {n : Nat}
noncomputable def spS : List (List Int) × List Int → Int → List (List Int) × List Int
  | (d, c), x => if x = 10 then (d ++ [c], []) else (d, c ++ [x])
noncomputable def spF (l : List Int) : List (List Int) × List Int := l.foldl spS ([], [])
noncomputable def splitI (l : List Int) : List (List Int) := (spF l).1 ++ [(spF l).2]
theorem spF_snoc (l : List Int) (x : Int) : spF (l ++ [x]) = spS (spF l) x := by simp [spF, List.foldl_append]
theorem spF_len (l : List Int) : ∀ (a : List (List Int) × List Int), (l.foldl spS a).1.length ≤ a.1.length + l.length ∧ (l.foldl spS a).2.length ≤ a.2.length + l.length := by
  induction l with
  | nil => intro a; simp
  | cons x l ih =>
    intro a
    have := ih (spS a x)
    rw [List.foldl_cons, List.length_cons]
    have h2 : (spS a x).1.length ≤ a.1.length + 1 ∧ (spS a x).2.length ≤ a.2.length + 1 := by
      obtain ⟨d, c⟩ := a
      simp only [spS]; split <;> simp
    omega
/-- the state of the walk: the rows' list, its last row -/
noncomputable def SpJ (w : World) {V G : List Str} (F : Fm V G) (codes : List Int) (pre : List (Addr × Obj)) (l : List Int) (z : Heap) (s : Shared) : Prop :=
  ∃ d e ini us k1 k2 x, J w F (pre ++ [(d, lOf (ini ++ [.ref e]).toArray k1), (e, lOf us k2)]) z [some (.v (iL codes)), some (.r d), x] s ∧ Reps z ini ((spF l).1.map iL) ∧ Reps z us.toList ((spF l).2.map .int)
section
variable {V G : List Str} {F : Fm V G} {res : List (Addr × Obj)} {z : Heap} {σ : St} {s : Shared}
theorem Ex.nestNil {x : Str} {p p2 p3 pos : Pos} {A : Around} {Q : Flow → Shared → Prop} {σr : Addr → St} (r : Room n A) (j : J w F res z σ s) (hp : ∀ d, Put F.vars σ x (.r d) (σr d))
    (h : ∀ z' d e k s', Le z z' → J w F ((d, lOf #[.ref e] 0) :: (e, lOf #[] k) :: res) z' (σr d) s' → Q .next s') : wpAny (MM w) A (exec (.Assign [.Name x p] (.List [.List [] p2] p3) pos) F.env) Q NoE s := by
  refine wpAny_Assign_Name ?_ rfl
  show wpAny _ _ (do standAt p3; PySem.newList (← spliced [(false, eval (.List [] p2) F.env)])) _ _ _
  refine wpAny_bind (wpAny_standAt (wpAny_bind (Calls.spliced_cons (wpAny_mono (EvO.list (w := w) (F := F) (res := res) (n := n) (pos := p2) (es := []) (σ := σ) (P := fun l σ' => l = [] ∧ σ' = σ) (.nil ⟨by simp, rfl, rfl⟩) z A s r j) (fun v s1 hh => Calls.spliced_nil ?_) fun _ _ e => e))))
  obtain ⟨z1, σ1, e, vs, k, l, l1, rfl, j1, rs, rfl, rfl⟩ := hh
  have hvs : vs = #[] := by
    have := rs.length
    rw [Array.length_toList] at this
    exact Array.eq_empty_of_size_eq_zero (by simpa using this)
  refine wpAny_newList ?_ (by simp [sizeLine_eq])
  have j2 := j1.pushRes { cls := .type "list", data := .seq #[.ref e] } rfl
  refine J.storeName (sl := .r _) j2 (hp _) rfl (fun _ e => by cases e) fun s' j3 => ?_
  subst hvs
  exact h _ _ _ _ _ l1 j3
end
theorem split_rows_spec (codes : List Int) (hs : codes.length ≤ 2 ^ 20) : Cl w (n + 2) 145 [iL codes] (fun r => r = iLs (splitI codes)) := by
  refine Cl.intro (names := ["codes"]) (vars := ["codes", "rows", "code"]) (globs := ["len", "ROW_END_filltext"]) (σ0 := [some (.v (iL codes)), none, none]) (by (show List.lookup _ (hd.heap_1 _) = _; k_is)) (by (show codeIn (hd.heap_1 _) _ _ = _; k_is)) (by (exact fb1 rfl fun _ => rfl)) ⟨_, rfl⟩ rfl rfl (by decide +kernel) (by decide +kernel) (by decide +kernel) rfl rfl rfl (by decide +kernel) ?_
  intro F hsc hmt; clear hsc
  intro z A s r j
  refine Eq.mpr (congrArg (fun m => wpAny (MM w) A m _ NoE s) (execs_cons ..)) ?_
  refine wpAny_bind (Ex.nestNil r j (σr := fun d => [some (.v (iL codes)), some (.r d), none]) (fun d => by walk_at "lk") fun z1 d e k0 s1 l1 j1 => ?_)
  refine Eq.mpr (congrArg (fun m => wpAny (MM w) A m _ NoE s1) (execs_cons ..)) ?_
  refine wpAny_bind ?_
  refine wpAny_For (wpAny_mono (Ev.name (P := fun a σ' => a = iL codes ∧ σ' = [some (.v (iL codes)), some (.r d), none]) (by walk_at "lk") ⟨rfl, rfl⟩ z1 A s1 r j1) (fun v s2 hh => ?_) fun _ _ e => e) (fun _ => rfl)
  obtain ⟨z2, σ2, l2, j2, a, ra, rfl, rfl⟩ := hh
  obtain ⟨ax, vs, k, rfl, g, rs⟩ := ra
  have hsz : vs.size = codes.length := by have := rs.length; rw [Array.length_toList] at this; simpa using this
  have hL : s2.heap.IsList ax vs := IsL.isList (j2.sub _ _ g)
  have hlt : ax < s2.heap.objs.size := Heap.lt_size (j2.sub _ _ g)
  refine wpAny_pyIter_list hL ?_
  have W := Walks.list (prog := PySem.Challenge.rw_on0065_01.row.prog) (w := w) r.hd s2.heap.objs.size ax (Nat.ne_of_lt hlt) vs
  have j3 := j2.pushRes { cls := .type "list_iterator", data := .fields #[.ref ax, .int 0 0] } rfl
  generalize hI : s2.heap.objs.size = I at *
  refine codeAny_forLoop (fun k s' => ∃ i z' o', i ≤ vs.size ∧ k = vs.size - i ∧ Le z2 z' ∧ SpJ w F codes [(I, o')] (codes.take i) z' s' ∧ (s'.heap.IsListIter I ax i ∧ s'.heap.IsList ax vs)) (fun k s' hI => ?_) vs.size
    ⟨0, z2, _, Nat.zero_le _, rfl, .refl _, ⟨d, e, [], #[], 0, k0, none, j3, rfl, rfl⟩, ⟨⟨_, hI ▸ Heap.get?_push_size _ rfl, rfl, rfl⟩, hL.push _⟩⟩ (fun _ => rfl)
  obtain ⟨i, z', o', hi, rfl, lz, ⟨d', e', ini, us, k1, k2, x, j4, r1, r2⟩, hS⟩ := hI
  by_cases hlt2 : i < vs.size
  · refine W.item i s' _ _ hlt2 hS fun v h' tk hP hS2 hk => ?_
    obtain ⟨o2, ho2⟩ : ∃ o, h'.get? I = some o := let ⟨o, e, _⟩ := hS2.1; ⟨o, e⟩
    have j5 := J.updRes (tk := tk) j4 (fun b x hb e => hk b x (by simpa using hb) e) ho2
    have hic : i < codes.length := by omega
    have hrep : Rep z' v (.int (codes.getD i 0)) := by
      obtain ⟨a, ha, hr⟩ := rs.get' i v (by simpa using hP)
      have : (codes.map AV.int)[i]? = some (.int (codes.getD i 0)) := by rw [getD_at _ _ hic]; simp [hic]
      rw [this] at ha; cases ha
      exact Rep.mono lz _ hr
    have hdl := (spF_len (codes.take i) ([], [])).1
    have hul := (spF_len (codes.take i) ([], [])).2
    rw [show List.foldl spS ([], []) (codes.take i) = spF (codes.take i) from rfl] at hdl hul
    simp only [List.length_nil, List.length_take] at hdl hul
    have hil : ini.length = (spF (codes.take i)).1.length := by have := r1.length; simpa using this
    have hul2 : us.size = (spF (codes.take i)).2.length := by have := r2.length; simpa using this
    have hst : spF (codes.take (i + 1)) = spS (spF (codes.take i)) (codes.getD i 0) := by rw [take_snoc codes i 0 hic, spF_snoc]
    generalize codes.getD i 0 = c at *
    refine wpAny_mono (As.name (P := fun σ' => σ' = [some (.v (iL codes)), some (.r d'), some (.v (.int c))]) (by walk_at "lk") rfl z' v hrep A _ r j5) (fun _ s3 hh => ?_) fun _ _ e => e.elim
    obtain ⟨z3, σ3, l3, j6, rfl⟩ := hh
    suffices hbody : ∀ Q : Flow → Shared → Prop, (∀ z4 s4, Le z3 z4 → SpJ w F codes [(I, o2)] (codes.take (i + 1)) z4 s4 → Q .next s4) → wpAny (MM w) A (execs _ F.env) Q NoE s3 by
      refine wpAny_mono (hbody (fun f s4 => f = .next ∧ ∃ z4, Le z3 z4 ∧ SpJ w F codes [(I, o2)] (codes.take (i + 1)) z4 s4) fun z4 s4 l4 h4 => ⟨rfl, z4, l4, h4⟩) (fun f s4 hh => ?_) fun _ _ e => e.elim
      obtain ⟨rfl, z4, l4, h4⟩ := hh
      refine ⟨vs.size - (i + 1), by omega, i + 1, z4, o2, hlt2, rfl, (lz.trans l3).trans l4, h4, W.frame _ _ _ hS2 fun b hb x e => ?_⟩
      obtain ⟨_, _, _, _, _, _, _, j7, _⟩ := h4
      simp only [List.mem_cons, List.not_mem_nil, or_false] at hb
      have e : h'.get? b = some x := e
      rcases hb with rfl | rfl
      · rw [ho2] at e; cases e
        exact (j7.rs (_, o2) (.head _)).1
      · have h1 : h'.get? b = some _ := j5.sub _ _ (lz _ _ g)
        rw [h1] at e; cases e
        exact j7.sub _ _ (((lz.trans l3).trans l4) _ _ g)
    intro Q hQ
    refine Eq.mpr (congrArg (fun m => wpAny (MM w) A m _ NoE s3) (execs_cons ..)) (wpAny_bind ?_)
    refine Eq.mpr (congrArg (fun m => wpAny (MM w) A m _ NoE s3) (exec_If ..)) (wpAny_bind (wpAny_standAt (wpAny_bind ?_)))
    refine wpAny_mono (Bv.cmp (w := w) (F := F) (n := n) (P := fun b σ' => b = (c == 10) ∧ σ' = [some (.v (iL codes)), some (.r d'), some (.v (.int c))]) (Ev.name (by walk_at "lk") (Ev.glob (by walk_at "lk") G7 ⟨_, CmpV.eq, rfl, rfl⟩)) rfl z3 A s3 r j6) (fun b s4 hh => ?_) fun _ _ e => e.elim
    obtain ⟨z4, σ4, l4, j7, rfl, rfl⟩ := hh
    cases hc : (c == 10)
    · have hc' : ¬ c = 10 := by simpa using hc
      refine Eq.mpr (congrArg (fun m => wpAny (MM w) A m _ NoE s4) (execs_cons ..)) (wpAny_bind ?_)
      have hi' : ((ini ++ [Value.ref e']).toArray)[ini.length]? = some (Value.ref e') := by simp
      have hsz2 : ((ini ++ [Value.ref e']).toArray).size = ini.length + 1 := by simp
      refine appendG j7.ok.kind (wpAny_mono (Q := fun v s' => Pst w F [(I, o2), (d', lOf (ini ++ [Value.ref e']).toArray k1), (e', lOf us k2)] z4 (fun _ u σ1 => u = Value.ref e' ∧ σ1 = [some (.v (iL codes)), some (.r d'), some (.v (.int c))]) v s') ?_ (fun v s5 hh => ?_) fun _ _ e => e)
      · refine Wp.indexR (i := ini.length) (v := .ref e') (by walk_at "lk") (.tail _ (.head _)) hi' (by omega) ?_ (fun _ _ => rfl) A s4 r j7
        refine Ev.bin (Ev.lenR (by walk_at "lk") B1 (by walk_at "lk") (.tail _ (.head _)) (by omega) (Ev.int ⟨_, BinV.sub, ?_, rfl⟩))
        rw [hsz2]; congr 1; omega
      obtain ⟨z5, σ5, l5, j8, rfl, rfl⟩ := hh
      refine ⟨e', us, k2, rfl, (j8.rs _ (.tail _ (.tail _ (.head _)))).1, ?_⟩
      refine wpAny_mono (Ev.name (P := fun a σ' => a = .int c ∧ σ' = [some (.v (iL codes)), some (.r d'), some (.v (.int c))]) (by walk_at "lk") ⟨rfl, rfl⟩ z5 A s5 r j8) (fun x s6 hh => ?_) fun _ _ e => e
      obtain ⟨z6, σ6, l6, j9, a, ra, rfl, rfl⟩ := hh
      refine ⟨us, k2, (j9.rs _ (.tail _ (.tail _ (.head _)))).1, by omega, fun h7 hs7 ⟨k7, hd7⟩ => ?_⟩
      refine wpAny_execs_nil (wpAny_execs_nil ?_)
      have j10 := J.perm (res' := (e', lOf us k2) :: [(I, o2), (d', lOf (ini ++ [Value.ref e']).toArray k1)]) j9 (by
        show ([_, _, _] : List (Addr × Obj)).Perm [_, _, _]
        exact (List.Perm.swap _ _ _).trans (List.Perm.cons _ (List.Perm.swap _ _ _)))
      have j11 := J.updRes (tk := s6.toks) j10 (fun b x hb e => (hs7.2 b hb).trans e) hd7
      refine hQ z6 _ ((l4.trans l5).trans l6) ⟨d', e', ini, us.push x, k1, k7, _, J.perm (res' := [(I, o2), (d', _), (e', _)]) j11 ?_, ?_, ?_⟩
      · exact (List.Perm.cons _ (List.Perm.swap _ _ _)).trans (List.Perm.swap _ _ _)
      · rw [hst, spS, if_neg hc']
        exact Reps.mono (((l3.trans l4).trans l5).trans l6) _ r1
      · rw [hst, spS, if_neg hc', Array.toList_push, List.map_append]
        exact (Reps.mono (((l3.trans l4).trans l5).trans l6) _ r2).append (.one ra)
    · have hc' : c = 10 := by simpa using hc
      refine Eq.mpr (congrArg (fun m => wpAny (MM w) A m _ NoE s4) (execs_cons ..)) (wpAny_bind ?_)
      have j8 := J.perm (res' := (e', lOf us k2) :: [(I, o2), (d', lOf (ini ++ [Value.ref e']).toArray k1)]) j7 (by
        show ([_, _, _] : List (Addr × Obj)).Perm [_, _, _]
        exact (List.Perm.swap _ _ _).trans (List.Perm.cons _ (List.Perm.swap _ _ _)))
      obtain ⟨z5, l5, j9, he5⟩ := j8.sink hmt
      obtain ⟨m, hn, hm, kd, dbg⟩ := j9.raw (x := "rows") (d := d') (by walk_at "lk")
      refine appendG j9.ok.kind (wpAny_Name (wpAny_loadName_local j9.ok.kind kd hn hm ⟨d', _, _, rfl, (j9.rs _ (.tail _ (.head _))).1, ?_⟩) dbg)
      refine wpAny_mono (EvO.list (w := w) (F := F) (n := n + 1) (es := []) (P := fun l σ' => l = [] ∧ σ' = [some (.v (iL codes)), some (.r d'), some (.v (.int c))]) (.nil ⟨by simp, rfl, rfl⟩) z5 A s4 r j9) (fun v s5 hh => ?_) fun _ _ e => e.elim
      obtain ⟨z6, σ6, e6, vs6, k6, l6, l7, rfl, j10, rs6, rfl, rfl⟩ := hh
      have hvs : vs6 = #[] := by
        have := rs6.length
        rw [Array.length_toList] at this
        exact Array.eq_empty_of_size_eq_zero (by simpa using this)
      subst hvs
      have hd6 := (j10.rs (d', lOf (ini ++ [Value.ref e']).toArray k1) (.tail _ (.tail _ (.head _)))).1
      refine ⟨_, _, hd6, ?_, fun h7 hs7 ⟨k7, hd7⟩ => ?_⟩
      · simp only [List.size_toArray, List.length_append, List.length_cons, List.length_nil]; omega
      · refine wpAny_execs_nil (wpAny_execs_nil ?_)
        have j11 := J.perm (res' := (d', lOf (ini ++ [Value.ref e']).toArray k1) :: [(e6, lOf #[] k6), (I, o2)]) j10 (by
          show ([_, _, _] : List (Addr × Obj)).Perm [_, _, _]
          exact (List.Perm.swap _ _ _).trans (List.Perm.cons _ (List.Perm.swap _ _ _)))
        rw [List.push_toArray] at hd7
        have j12 := J.updRes (tk := s5.toks) j11 (fun b x hb e => (hs7.2 b hb).trans e) hd7
        refine hQ z6 _ ((l4.trans l5).trans l7) ⟨d', e6, ini ++ [Value.ref e'], #[], k7, k6, _, J.perm (res' := [(I, o2), (d', _), (e6, _)]) j12 ?_, ?_, ?_⟩
        · exact (List.Perm.swap _ _ _).trans (List.Perm.cons _ (List.Perm.swap _ _ _))
        · rw [hst, hc', spS, if_pos rfl]
          rw [List.map_append]
          exact (Reps.mono ((((l3.trans l4)).trans l5).trans l7) _ r1).append (.one ⟨e', us, k2, rfl, l7 _ _ he5, Reps.mono ((((l3.trans l4)).trans l5).trans l7) _ r2⟩)
        · rw [hst, hc', spS, if_pos rfl]; rfl
  · have hin : i = vs.size := by omega
    subst hin
    refine W.done s' _ _ hS fun h' tk hk => ?_
    have j5 := J.loseRes (h' := h') (tk := tk) j4 (fun b x hb e => hk b x (by simpa using hb) e) (by rw [hmt]; exact List.not_mem_nil)
    refine wpAny_execs_nil ?_
    have j6 := J.perm (res' := [(e', lOf us k2), (d', lOf (ini ++ [Value.ref e']).toArray k1)]) j5 (List.Perm.swap _ _ _)
    obtain ⟨z5, l5, j7, he5⟩ := j6.sink hmt
    rw [show List.take vs.size codes = codes by rw [hsz, List.take_length]] at r1 r2
    have j8 : J w F [] z5 [some (.v (iL codes)), some (.o ((splitI codes).map iL)), x] _ := J.giveO j7 (x := "rows") (by walk_at "lk") (by walk_at "lk") (by
      rw [splitI, List.map_append]
      exact (Reps.mono l5 _ r1).append (.one ⟨e', us, k2, rfl, he5, Reps.mono l5 _ r2⟩))
    refine wpAny_mono ((show Exs w F [] (n + 1) [Stmt.Return (some (Expr.Name (Str.ofString "rows") { line := 123, col := 11, endLine := 123, endCol := 15 })) { line := 123, col := 4, endLine := 123, endCol := 15 }] [some (.v (iL codes)), some (.o ((splitI codes).map iL)), x] (Rt (fun r => r = iLs (splitI codes))) from by (repeat' first | walk_at "s1" | walk_at "sp"); trivial) z5 A _ r j8) (fun f s6 hh => ?_) fun _ _ e => e
    obtain ⟨z6, σ6, l6, j9, q⟩ := hh
    exact ⟨z6, σ6, ((l1.trans l2).trans lz).trans (l5.trans l6), j9, q⟩
end
section
variable {w : World} {n : Nat}
noncomputable def allLead (leads row : List Int) : Bool := (leadI leads row).length == row.length
noncomputable def stT (leads : List Int) (col tab : Int) (s : List (List Int) × List (List Int)) (row : List Int) : List (List Int) × List (List Int) :=
  if allLead leads row then (s.1 ++ fillP leads col tab s.2 ++ [row], []) else (s.1, s.2 ++ [row])
noncomputable def fillS (leads : List Int) (col tab : Int) (rows : List (List Int)) : List (List Int) × List (List Int) := rows.foldl (stT leads col tab) ([], [])
noncomputable def fillRows (leads : List Int) (col tab : Int) (rows : List (List Int)) : List (List Int) := (fillS leads col tab rows).1 ++ fillP leads col tab (fillS leads col tab rows).2
theorem fillS_snoc (leads : List Int) (col tab : Int) (rows : List (List Int)) (row : List Int) : fillS leads col tab (rows ++ [row]) = stT leads col tab (fillS leads col tab rows) row := by
  simp [fillS, List.foldl_append]
theorem stT_mono (leads : List Int) (col tab : Int) : ∀ (rows : List (List Int)) (s : List (List Int) × List (List Int)), s.1.length ≤ (rows.foldl (stT leads col tab) s).1.length
  | [], s => by simp
  | r :: rs, s => by
    have := stT_mono leads col tab rs (stT leads col tab s r)
    rw [List.foldl_cons]
    refine Nat.le_trans ?_ this
    unfold stT; split
    · simp only [List.length_append]; omega
    · exact Nat.le_of_eq (by simp)
theorem stT_para (leads : List Int) (col tab : Int) : ∀ (rows : List (List Int)) (s : List (List Int) × List (List Int)), tot (rows.foldl (stT leads col tab) s).2 ≤ tot s.2 + tot rows ∧ ∀ r ∈ (rows.foldl (stT leads col tab) s).2, r ∈ s.2 ∨ r ∈ rows
  | [], s => by simp [tot]
  | r :: rs, s => by
    have ih := stT_para leads col tab rs (stT leads col tab s r)
    rw [List.foldl_cons]
    have tot_snoc : ∀ (l : List (List Int)) (x : List Int), tot (l ++ [x]) = tot l + x.length + 1 := by
      intro l x; induction l with
      | nil => simp [tot]
      | cons a l ih => simp only [List.cons_append, tot, ih]; omega
    refine ⟨?_, fun q hq => ?_⟩
    · refine Nat.le_trans ih.1 ?_
      simp only [stT, tot]; split
      · simp [tot]; omega
      · rw [tot_snoc]; omega
    · rcases ih.2 q hq with h | h
      · simp only [stT] at h
        split at h
        · cases h
        · rcases List.mem_append.mp h with h | h
          · exact .inl h
          · rw [List.mem_singleton.mp h]; exact .inr (.head _)
      · exact .inr (.tail _ h)
theorem tot_jR : ∀ l : List (List Int), (jR l).length ≤ tot l
  | [] => by simp [jR]
  | [a] => by simp [jR, tot]
  | a :: b :: r => by
    have := tot_jR (b :: r)
    simp only [jR, tot, List.length_append, List.length_cons] at *; omega
theorem filled_text_spec (codes leads : List Int) (col tab : Int) (ht : 0 < tab ∧ tab ≤ 8) (hs : codes.length ≤ 2 ^ 20) (hN : tot (splitI codes) ≤ 2 ^ 18) (hO : tot (fillRows leads col tab (splitI codes)) ≤ 2 ^ 18) (hle : leads.length ≤ 2 ^ 20) (hok : ∀ row ∈ splitI codes, Okc row) :
    Cl w (n + 6) 194 [iL codes, .fill (.int col) (.str "left") (iL leads) (.int tab)] (fun r => r = iL (jR (fillRows leads col tab (splitI codes)))) := by
  refine Cl.intro (names := ["codes", "filling"]) (vars := ["codes", "filling", "found", "paragraph", "row"]) (globs := ["split_rows", "len", "lead_of", "filled_paragraph", "joined_rows"]) (σ0 := [some (.v (iL codes)), some (.v (.fill (.int col) (.str "left") (iL leads) (.int tab))), none, none, none]) (by (show List.lookup _ (hd.heap_1 _) = _; k_is)) (by (show codeIn (hd.heap_1 _) _ _ = _; k_is)) (by (exact fb2 rfl fun _ _ => rfl)) ⟨_, rfl⟩ rfl rfl (by decide +kernel) (by decide +kernel) (by decide +kernel) rfl rfl rfl (by decide +kernel) ?_
  intro F hsc hmt; clear hsc
  generalize hrows : splitI codes = rows at *
  have hrl : rows.length ≤ 2 ^ 18 := Nat.le_trans (tot_len rows) hN
  have hfl : (fillRows leads col tab rows).length ≤ 2 ^ 18 := Nat.le_trans (tot_len _) hO
  have hfl2 : (fillS leads col tab rows).1.length + (fillP leads col tab (fillS leads col tab rows).2).length ≤ 2 ^ 18 := by
    rw [fillRows, List.length_append] at hfl; exact hfl
  (refine Exs.cons (Ex.assignO (EvO.list (El.nil ⟨by simp, _, by walk_at "lk", Nx.next ?_⟩))))
  (refine Exs.cons (Ex.assignO (EvO.list (El.nil ⟨by simp, _, by walk_at "lk", Nx.next ?_⟩))))
  refine Exs.cut (fun σ => ∃ x, σ = [some (.v (iL codes)), some (.v (.fill (.int col) (.str "left") (iL leads) (.int tab))), some (.o ((fillS leads col tab rows).1.map iL)), some (.o ((fillS leads col tab rows).2.map iL)), x]) ?_ ?_
  · refine Ex.forList ?_
    (repeat walk_at "s1")
    refine Cl.mono (Cl.room (split_rows_spec (n := n) codes hs) (by omega)) ?_
    rintro _ rfl
    rw [hrows]
    refine ⟨rows.map iL, rfl, fun i σ => ∃ x, σ = [some (.v (iL codes)), some (.v (.fill (.int col) (.str "left") (iL leads) (.int tab))), some (.o ((fillS leads col tab (rows.take i)).1.map iL)), some (.o ((fillS leads col tab (rows.take i)).2.map iL)), x], ⟨none, by rw [List.take_zero]; rfl⟩, ?_, ?_⟩
    · rintro i σ p hi ⟨x, rfl⟩
      rw [List.length_map] at hi
      refine As.cast (getD_map iL rows i _ [] hi) (As.name (by walk_at "lk") ?_)
      have hmem := mem_getD rows i [] hi
      have hx : (rows.getD i []).length ≤ 2 ^ 20 := by have := tot_mem hmem; omega
      have hst : fillS leads col tab (rows.take (i + 1)) = stT leads col tab (fillS leads col tab (rows.take i)) (rows.getD i []) := by
        rw [take_snoc rows i [] hi, fillS_snoc]
      have hmono : (fillS leads col tab (rows.take (i + 1))).1.length ≤ (fillS leads col tab rows).1.length := by
        have := stT_mono leads col tab (rows.drop (i + 1)) (fillS leads col tab (rows.take (i + 1)))
        refine Nat.le_trans this (Nat.le_of_eq ?_)
        conv => rhs; rw [← List.take_append_drop (i + 1) rows]
        rw [fillS, fillS, ← List.foldl_append]
      have hpt := (stT_para leads col tab (rows.take i) ([], [])).1
      have hpm := (stT_para leads col tab (rows.take i) ([], [])).2
      rw [show List.foldl (stT leads col tab) ([], []) (rows.take i) = fillS leads col tab (rows.take i) from rfl] at hpt hpm
      have htk := tot_take rows i
      simp only [tot, Nat.zero_add] at hpt
      have hpok : ∀ r ∈ (fillS leads col tab (rows.take i)).2, Okc r := fun r hr => by
        rcases hpm r hr with h | h
        · cases h
        · exact hok r (List.mem_of_mem_take h)
      unfold stT at hst
      generalize (fillS leads col tab (rows.take i)).1 = f at *
      generalize (fillS leads col tab (rows.take i)).2 = pa at *
      generalize rows.getD i [] = row at *
      have hpl := tot_len pa
      refine Exs.cons (Ex.ifC (allLead leads row) ?_ ?_ ?_)
      · (repeat walk_at "s1")
        refine Cl.mono (Cl.room (lead_of_spec' (n := n) row leads _ _ _ hx hle) (by omega)) ?_
        rintro _ rfl
        have hll := leadI_le leads row
        (repeat' first | walk_at "s1" | walk_at "sp")
        refine ⟨?_, rfl⟩
        rw [allLead, Bool.eq_iff_iff, beq_iff_eq, beq_iff_eq, List.length_map, List.length_map]; omega
      · intro hb
        rw [if_pos hb] at hst
        rw [hst] at hmono
        simp only [List.length_append, List.length_cons, List.length_nil] at hmono
        refine Exs.cut (fun σ => σ = [some (.v (iL codes)), some (.v (.fill (.int col) (.str "left") (iL leads) (.int tab))), some (.o ((f ++ fillP leads col tab pa).map iL)), some (.o []), some (.v (iL row))]) ?_ ?_
        · refine Ex.ifC (decide (0 < pa.length)) ?_ ?_ ?_
          · (repeat' first | walk_at "s1" | walk_at "sp")
            refine ⟨?_, rfl⟩
            rw [Bool.eq_iff_iff, decide_eq_true_eq, decide_eq_true_eq, List.length_map]; omega
          · intro hc
            rw [decide_eq_true_eq] at hc
            cases pa with
            | nil => cases hc
            | cons r0 rs =>
            refine Exs.cons (Ex.extend (by walk_at "lk") fun d o => ⟨_, by walk_at "lk", ?_⟩)
            (repeat walk_at "s1")
            refine Cl.mono (Cl.room (filled_paragraph_spec (n := n) r0 rs leads col tab ht (by omega) hle hpok) (by omega)) ?_
            rintro _ rfl
            refine ⟨_, rfl, by walk_at "lk", by simp only [List.length_map]; omega, _, by walk_at "lk", Nx.next ?_⟩
            rw [← List.map_append]
            (repeat' first | walk_at "s1" | walk_at "sp")
            rfl
          · intro hc
            rw [decide_eq_false_iff_not] at hc
            have : pa = [] := List.length_eq_zero_iff.mp (by omega)
            subst this
            (repeat' first | walk_at "s1" | walk_at "sp")
            simp [fillP]
        · rintro σ rfl
          (refine Exs.cons (Ex.append (by walk_at "lk") fun d o => ⟨_, by walk_at "lk", ?_⟩))
          (repeat' first | walk_at "s1" | walk_at "sp")
          refine ⟨some (.v (iL row)), ?_⟩
          rw [hst]
          simp
      · intro hb
        rw [if_neg (by rw [hb]; exact Bool.false_ne_true)] at hst
        (refine Exs.cons (Ex.append (by walk_at "lk") fun d o => ⟨_, by walk_at "lk", ?_⟩))
        (repeat' first | walk_at "s1" | walk_at "sp")
        refine ⟨some (.v (iL row)), ?_⟩
        rw [hst, List.map_append]
        rfl
    · rw [List.length_map]
      rintro σ ⟨x, rfl⟩
      exact ⟨x, by rw [List.take_length]⟩
  · rintro σ ⟨x, rfl⟩
    have hpt := (stT_para leads col tab rows ([], [])).1
    have hpm := (stT_para leads col tab rows ([], [])).2
    rw [show List.foldl (stT leads col tab) ([], []) rows = fillS leads col tab rows from rfl] at hpt hpm
    simp only [tot, Nat.zero_add] at hpt
    have hpok : ∀ r ∈ (fillS leads col tab rows).2, Okc r := fun r hr => by
      rcases hpm r hr with h | h
      · cases h
      · exact hok r h
    unfold fillRows at hO ⊢
    clear hfl
    generalize (fillS leads col tab rows).1 = f at *
    generalize (fillS leads col tab rows).2 = pa at *
    have hpl := tot_len pa
    refine Exs.cut (fun σ => ∃ y, σ = [some (.v (iL codes)), some (.v (.fill (.int col) (.str "left") (iL leads) (.int tab))), some (.o ((f ++ fillP leads col tab pa).map iL)), y, x]) ?_ ?_
    · refine Ex.ifC (decide (0 < pa.length)) ?_ ?_ ?_
      · (repeat' first | walk_at "s1" | walk_at "sp")
        refine ⟨?_, rfl⟩
        rw [Bool.eq_iff_iff, decide_eq_true_eq, decide_eq_true_eq, List.length_map]; omega
      · intro hc
        rw [decide_eq_true_eq] at hc
        cases pa with
        | nil => cases hc
        | cons r0 rs =>
        refine Exs.cons (Ex.extend (by walk_at "lk") fun d o => ⟨_, by walk_at "lk", ?_⟩)
        (repeat walk_at "s1")
        refine Cl.mono (Cl.room (filled_paragraph_spec (n := n) r0 rs leads col tab ht (by omega) hle hpok) (by omega)) ?_
        rintro _ rfl
        refine ⟨_, rfl, by walk_at "lk", by simp only [List.length_map]; omega, _, by walk_at "lk", Nx.next ?_⟩
        rw [← List.map_append]
        (repeat' first | walk_at "s1" | walk_at "sp")
        exact ⟨_, rfl⟩
      · intro hc
        rw [decide_eq_false_iff_not] at hc
        have : pa = [] := List.length_eq_zero_iff.mp (by omega)
        subst this
        (repeat' first | walk_at "s1" | walk_at "sp")
        exact ⟨_, by simp [fillP]; rfl⟩
    · rintro σ ⟨y, rfl⟩
      have hjr := tot_jR (f ++ fillP leads col tab pa)
      have hjl := tot_len (f ++ fillP leads col tab pa)
      (repeat walk_at "s1")
      refine Cl.mono (Cl.room (joined_rows_spec (n := n) _ (by omega) (by omega)) (by omega)) ?_
      rintro _ rfl
      (repeat' first | walk_at "s1" | walk_at "sp")
      trivial
end
section
variable {w : World} {n : Nat}
noncomputable def restN (r0 : List Nat) (rs : List (List Nat)) : List Nat := if rs = [] then (if blankN (ldN r0) then ldN r0 else []) else sharedN rs
noncomputable def wordsN (first rest r0 : List Nat) (rs : List (List Nat)) : List (List Nat) := wsN (r0.drop first.length) ++ (rs.map fun row => wsN (row.drop rest.length)).flatten
noncomputable def stW (first rest : List Nat) (col tab : Int) (s : List (List Nat) × List (List Nat)) (x : List Nat) : List (List Nat) × List (List Nat) :=
  if (!decide (s.2.length = 0)) && decide (col - wide tab 0 (cs (if s.1.length = 0 then first else rest)) < (jn [32] (s.2 ++ [x])).length) then
    (s.1 ++ [(if s.1.length = 0 then first else rest) ++ jn [32] s.2], [x]) else (s.1, s.2 ++ [x])
noncomputable def wrapW (first rest : List Nat) (col tab : Int) (ws : List (List Nat)) : List (List Nat) :=
  (ws.foldl (stW first rest col tab) ([], [])).1 ++ [(if (ws.foldl (stW first rest col tab) ([], [])).1.length = 0 then first else rest) ++ jn [32] (ws.foldl (stW first rest col tab) ([], [])).2]
noncomputable def wrapN (col tab : Int) : List (List Nat) → List (List Nat)
  | [] => []
  | r0 :: rs => wrapW (ldN r0) (restN r0 rs) col tab (wordsN (ldN r0) (restN r0 rs) r0 rs)
theorem sharedN_le : ∀ (rs : List (List Nat)), (sharedN rs).length ≤ tG rs
  | [] => by simp [sharedN]
  | r :: rs => by
    have h1 := shared_le rs (ldN r)
    have h2 := ldN_le r
    simp only [sharedN, tG]; omega
theorem restN_le (r0 : List Nat) (rs : List (List Nat)) : (restN r0 rs).length ≤ tG (r0 :: rs) := by
  have h1 := ldN_le r0
  have h2 := sharedN_le rs
  simp only [restN, tG]
  split
  · split
    · omega
    · simp
  · omega
theorem wordsN_tG (first rest r0 : List Nat) : ∀ rs : List (List Nat), tG (wordsN first rest r0 rs) ≤ tG (r0 :: rs)
  | [] => by
    have := tG_wsN (r0.drop first.length)
    simp only [List.length_drop] at this
    simp only [wordsN, tG, List.map_nil, List.flatten_nil, List.append_nil]; omega
  | r :: rs => by
    have h1 := wordsN_tG first rest r0 rs
    have h2 := tG_wsN (r.drop rest.length)
    simp only [List.length_drop] at h2
    simp only [wordsN, tG, List.map_cons, List.flatten_cons, tG_app] at *; omega
theorem wordsN_snoc (first rest r0 : List Nat) (rs : List (List Nat)) (x : List Nat) : wordsN first rest r0 (rs ++ [x]) = wordsN first rest r0 rs ++ wsN (x.drop rest.length) := by
  simp [wordsN]
theorem stW_own (first rest : List Nat) (col tab : Int) : ∀ (ws : List (List Nat)) (s : List (List Nat) × List (List Nat)), tG (ws.foldl (stW first rest col tab) s).2 ≤ tG s.2 + tG ws ∧ (ws.foldl (stW first rest col tab) s).1.length ≤ s.1.length + ws.length
  | [], s => by simp [tG]
  | x :: ws, s => by
    have ih := stW_own first rest col tab ws (stW first rest col tab s x)
    rw [List.foldl_cons]
    simp only [tG, List.length_cons]
    have key : ∀ (b : Bool) (l : List Nat), tG (if b = true then (s.1 ++ [l], [x]) else (s.1, s.2 ++ [x])).2 ≤ tG s.2 + (x.length + 1) ∧ (if b = true then (s.1 ++ [l], [x]) else (s.1, s.2 ++ [x])).1.length ≤ s.1.length + 1 := by
      intro b l
      cases b
      · simp [tG_app, tG]
      · simp [tG] <;> omega
    have : tG (stW first rest col tab s x).2 ≤ tG s.2 + (x.length + 1) ∧ (stW first rest col tab s x).1.length ≤ s.1.length + 1 := key _ _
    omega
theorem cstN_le2 (a b : List Nat) : (cstN a b).length ≤ b.length := by
  induction a generalizing b with
  | nil => cases b <;> simp [cstN]
  | cons x l ih =>
    cases b with
    | nil => simp [cstN]
    | cons y m => simp only [cstN]; split <;> simp [ih]
theorem fold_le_row : ∀ (rs : List (List Nat)) (f : List Nat), ∀ row ∈ rs, (rs.foldl (fun f row => cstN f (ldN row)) f).length ≤ (ldN row).length
  | r :: rs, f, row, h => by
    rw [List.foldl_cons]
    rcases List.mem_cons.mp h with rfl | h
    · exact Nat.le_trans (shared_le rs _) (cstN_le2 _ _)
    · exact fold_le_row rs _ row h
theorem sharedN_le_row : ∀ (rs : List (List Nat)), ∀ row ∈ rs, (sharedN rs).length ≤ (ldN row).length
  | r :: rs, row, h => by
    rw [sharedN]
    rcases List.mem_cons.mp h with rfl | h
    · exact shared_le rs _
    · exact fold_le_row rs _ row h
theorem restN_le_row (r0 : List Nat) (rs : List (List Nat)) : ∀ row ∈ rs, (restN r0 rs).length ≤ row.length := fun row h => by
  rw [restN, if_neg (fun e => by rw [e] at h; cases h)]
  exact Nat.le_trans (sharedN_le_row rs row h) (ldN_le row)
theorem law_wrapped_spec (r0 : List Nat) (rs : List (List Nat)) (col tab : Int) (ht : 0 < tab ∧ tab ≤ 8) (hN : tG (r0 :: rs) ≤ 2 ^ 18) :
    Cl w (n + 4) 246 [.list ((r0 :: rs).map sL), .int col, .int tab] (fun r => r = .list ((wrapN col tab (r0 :: rs)).map sL)) := by
  refine Cl.intro (names := ["_law_rows", "_law_column", "_law_tab"]) (vars := ["_law_rows", "_law_column", "_law_tab", "_law_first", "_law_rest", "_law_words", "_law_row", "_law_found", "_law_own", "_law_word", "_law_room"]) (globs := ["_law_lead", "_law_shared", "len", "_law_wide"]) (σ0 := [some (.v (.list ((r0 :: rs).map sL))), some (.v (.int col)), some (.v (.int tab)), none, none, none, none, none, none, none, none]) (by (show List.lookup _ (hd.heap_1 _) = _; k_is)) (by (show codeIn (hd.heap_1 _) _ _ = _; k_is)) (by (exact fb3 rfl fun _ _ _ => rfl)) ⟨_, rfl⟩ rfl rfl (by decide +kernel) (by decide +kernel) (by decide +kernel) rfl rfl rfl (by decide +kernel) ?_
  intro F hsc hmt; clear hsc
  have hlen : ∀ x ∈ r0 :: rs, x.length ≤ 2 ^ 18 := fun x hx => by have := tG_mem hx; omega
  have hcnt := tG_len (r0 :: rs)
  have hr0 := hlen r0 (.head _)
  have hfl := ldN_le r0
  have hrl : (restN r0 rs).length ≤ 2 ^ 18 := by have := restN_le r0 rs; omega
  have hlm : ((r0 :: rs).map sL).length = rs.length + 1 := by simp
  rw [List.length_cons] at hcnt
  (repeat walk_at "s1")
  refine ⟨_, idx_list (k := 0) .none (by simp) (by omega), ?_⟩
  rw [show ((r0 :: rs).map sL).getD 0 .none = sL r0 from rfl]
  (repeat walk_at "s1")
  refine Cl.mono (Cl.room (law_lead_spec (n := n) r0 (by omega)) (by omega)) ?_
  rintro _ rfl
  walk_at "s1"
  refine Nx.next ?_
  refine Exs.cons (Ex.assign (EvIs.go (c := sL (restN r0 rs)) ?_ ?_))
  · (repeat' first | walk_at "s1" | walk_at "sp")
    · rename_i hc
      cases rs with
      | nil => simp at hc
      | cons r1 rs =>
      rw [show List.drop 1 (List.map sL (r0 :: r1 :: rs)) = (r1 :: rs).map sL from rfl]
      refine Cl.mono (Cl.room (law_shared_spec (n := n) r1 rs (fun x hx => by have := hlen x (.tail _ hx); omega) (by simp only [List.length_cons] at hcnt; omega)) (by omega)) ?_
      rintro _ rfl
      (repeat' first | walk_at "s1" | walk_at "sp")
      rw [restN, if_neg (by simp)]
      exact ⟨rfl, rfl⟩
    · rename_i h1 h2
      have : rs = [] := by cases rs with | nil => rfl | cons => simp at h1; omega
      subst this
      rw [restN, if_pos rfl, if_pos (by rw [blankN, decide_eq_true_eq]; exact h2)]
      exact ⟨rfl, rfl⟩
    · rename_i h1 h2
      have : rs = [] := by cases rs with | nil => rfl | cons => simp at h1; omega
      subst this
      rw [restN, if_pos rfl, if_neg (by rw [blankN, decide_eq_true_eq]; exact h2)]
      exact ⟨nilS, rfl⟩
  have hfit := restN_le_row r0 rs
  walk_at "s1"
  refine Nx.next ?_
  generalize hfe : ldN r0 = first at *
  generalize hre : restN r0 rs = rest at *
  (repeat walk_at "s1")
  refine ⟨_, idx_list (k := 0) .none (by simp) (by omega), ?_⟩
  rw [show ((r0 :: rs).map sL).getD 0 .none = sL r0 from rfl]
  (repeat walk_at "s1")
  refine Exs.cut (fun σ => ∃ x, σ = [some (.v (.list ((r0 :: rs).map sL))), some (.v (.int col)), some (.v (.int tab)), some (.v (sL first)), some (.v (sL rest)), some (.v (.list ((wordsN first rest r0 rs).map sL))), x, none, none, none, none]) ?_ ?_
  · refine Ex.forList ?_
    (repeat walk_at "s1")
    rw [show List.drop 1 (List.map sL (r0 :: rs)) = rs.map sL from rfl]
    refine ⟨fun i σ => ∃ x, σ = [some (.v (.list ((r0 :: rs).map sL))), some (.v (.int col)), some (.v (.int tab)), some (.v (sL first)), some (.v (sL rest)), some (.v (.list ((wordsN first rest r0 (rs.take i)).map sL))), x, none, none, none, none], ⟨none, by simp [wordsN]⟩, ?_, ?_⟩
    · rintro i σ p hi ⟨x, rfl⟩
      rw [List.length_map] at hi
      refine As.cast (getD_map sL rs i _ [] hi) (As.name (by walk_at "lk") ?_)
      have hmem := mem_getD rs i [] hi
      have hx := hlen _ (.tail _ hmem)
      have hf := hfit _ hmem
      have hw1 := wordsN_tG first rest r0 (rs.take i)
      have hw2 := tG_len (wordsN first rest r0 (rs.take i))
      have htk := tG_take rs i
      have hwl := tG_len (wsN ((rs.getD i []).drop rest.length))
      have hwl2 := tG_wsN ((rs.getD i []).drop rest.length)
      simp only [tG, List.length_drop] at hw1 hN hwl2
      (repeat walk_at "s1")
      refine ⟨some (.v (sL (rs.getD i []))), ?_⟩
      rw [take_snoc rs i [] hi, wordsN_snoc, List.map_append]
    · rw [List.length_map]
      rintro σ ⟨x, rfl⟩
      exact ⟨x, by rw [List.take_length]⟩
  · rintro σ ⟨x, rfl⟩
    have hw1 := wordsN_tG first rest r0 rs
    have hw2 := tG_len (wordsN first rest r0 rs)
    rw [show wrapN col tab (r0 :: rs) = wrapW first rest col tab (wordsN first rest r0 rs) by rw [wrapN, hfe, hre]]
    have hfb : first.length ≤ 2 ^ 18 := by omega
    clear hfe hre hfit hlm hfl
    generalize wordsN first rest r0 rs = ws at *
    refine Exs.cons (Ex.pairNil (by walk_at "lk") (by walk_at "lk") (by decide +kernel) (Nx.next ?_))
    refine Exs.freeze (x := "_law_own") (by walk_at "lk") (by walk_at "lk") hmt ?_
    refine Exs.cut (fun σ => ∃ y1 y2, σ = [some (.v (.list ((r0 :: rs).map sL))), some (.v (.int col)), some (.v (.int tab)), some (.v (sL first)), some (.v (sL rest)), some (.v (.list (ws.map sL))), x, some (.o ((ws.foldl (stW first rest col tab) ([], [])).1.map sL)), some (.v (.list ((ws.foldl (stW first rest col tab) ([], [])).2.map sL))), y1, y2]) ?_ ?_
    · refine Ex.forList ?_
      (repeat walk_at "s1")
      refine ⟨fun i σ => ∃ y1 y2, σ = [some (.v (.list ((r0 :: rs).map sL))), some (.v (.int col)), some (.v (.int tab)), some (.v (sL first)), some (.v (sL rest)), some (.v (.list (ws.map sL))), x, some (.o (((ws.take i).foldl (stW first rest col tab) ([], [])).1.map sL)), some (.v (.list (((ws.take i).foldl (stW first rest col tab) ([], [])).2.map sL))), y1, y2], ⟨none, none, rfl⟩, ?_, ?_⟩
      · rintro i σ p hi ⟨y1, y2, rfl⟩
        rw [List.length_map] at hi
        refine As.cast (getD_map sL ws i _ [] hi) (As.name (by walk_at "lk") ?_)
        have hst : (ws.take (i + 1)).foldl (stW first rest col tab) ([], []) = stW first rest col tab ((ws.take i).foldl (stW first rest col tab) ([], [])) (ws.getD i []) := by
          rw [take_snoc ws i [] hi, List.foldl_append]; rfl
        generalize hs1 : (ws.take (i + 1)).foldl (stW first rest col tab) ([], []) = st1 at hst
        have hown := stW_own first rest col tab (ws.take i) ([], [])
        have htk := tG_take ws i
        have hxm := tG_mem (mem_getD ws i [] hi)
        simp only [tG, List.length_nil, List.length_take, Nat.zero_add] at hown
        rw [stW] at hst
        generalize ((ws.take i).foldl (stW first rest col tab) ([], [])).1 = f at *
        generalize ((ws.take i).foldl (stW first rest col tab) ([], [])).2 = own at *
        generalize ws.getD i [] = word at *
        have hwide : ∀ l : List Nat, Cl w (n + 3) 232 [sL l, .int tab] (fun r => r = .int (wide tab 0 (cs l))) := fun l => Cl.room (law_wide_spec (n := n) l tab ht) (by omega)
        have hj1 := jn_len 32 own
        have hj2 := jn_len 32 (own ++ [word])
        have hol := tG_len own
        have hsum1 := tG_sum own
        have hsum2 := tG_sum (own ++ [word])
        have htg2 : tG (own ++ [word]) = tG own + (word.length + 1) := by simp [tG_app, tG]
        have hmap : own.map sL ++ [sL word] = (own ++ [word]).map sL := by simp
        generalize hlead : (if f.length = 0 then first else rest) = lead at *
        have hll : lead.length ≤ 2 ^ 18 := by rw [← hlead]; split <;> assumption
        refine Exs.cons (Ex.assign (Ev.bin (Ev.name (by walk_at "lk") ?_)))
        refine Ev.callD (by walk_at "lk") (by walk_at "gd") ?_
        refine El.cons (EvIs.go (c := sL lead) ?_ ?_)
        · refine Ev.ifExp ?_
          refine Bv.taken (x := "_law_found") (by walk_at "lk") fun d vs k hsz => ⟨_, by walk_at "lk", ?_⟩
          refine Bv.eqNilR (by walk_at "lk") (.head _) ⟨by walk_at "lk", _, by walk_at "lk", fun hb => ?_, fun hb => ?_⟩
          · rw [decide_eq_true_eq, hsz, List.length_map] at hb
            refine Ev.name (by walk_at "lk") ⟨?_, rfl⟩
            rw [← hlead, if_pos hb]
          · rw [decide_eq_false_iff_not, hsz, List.length_map] at hb
            refine Ev.name (by walk_at "lk") ⟨?_, rfl⟩
            rw [← hlead, if_neg hb]
        (repeat walk_at "s1")
        refine Cl.mono (hwide lead) ?_
        rintro _ rfl
        (repeat walk_at "s1")
        refine Exs.cut (fun σ => σ = [some (.v (.list ((r0 :: rs).map sL))), some (.v (.int col)), some (.v (.int tab)), some (.v (sL first)), some (.v (sL rest)), some (.v (.list (ws.map sL))), x,
            some (.o (st1.1.map sL)), some (.v (.list ((if ((!decide (own.length = 0)) && decide (col - wide tab 0 (cs lead) < (jn [32] (own ++ [word])).length)) = true then [] else own).map sL))), some (.v (sL word)), some (.v (.int (col - wide tab 0 (cs lead))))]) ?_ ?_
        · refine Ex.ifC ((!decide (own.length = 0)) && decide (col - wide tab 0 (cs lead) < (jn [32] (own ++ [word])).length)) ?_ ?_ ?_
          · (repeat' first | walk_at "s1" | walk_at "sp")
            · rw [hmap]
              refine ⟨_, FunV.joinSp (by omega), ?_⟩
              (repeat' first | walk_at "s1" | walk_at "sp")
              all_goals (first | (simp_all; done) | (simp_all; omega) | (simp_all; intros; omega))
            · (first | (simp_all; done) | (simp_all; omega) | (simp_all; intros; omega))
          · intro hc
            rw [if_pos hc] at hst ⊢
            rw [hst]
            refine Exs.cons (Ex.appendR (by walk_at "lk") fun d vs k hsz => ⟨_, by walk_at "lk", ?_⟩)
            refine Ev.bin (EvIs.go (c := sL lead) ?_ ?_)
            · refine Ev.ifExp ?_
              refine Bv.eqNilR (by walk_at "lk") (.head _) ⟨fun hb => ?_, fun hb => ?_⟩
              · rw [decide_eq_true_eq, hsz, List.length_map] at hb
                refine Ev.name (by walk_at "lk") ⟨?_, rfl⟩
                rw [← hlead, if_pos hb]
              · rw [decide_eq_false_iff_not, hsz, List.length_map] at hb
                refine Ev.name (by walk_at "lk") ⟨?_, rfl⟩
                rw [← hlead, if_neg hb]
            (repeat walk_at "s1")
            refine ⟨_, FunV.joinSp (by omega), ?_⟩
            refine ⟨_, BinV.catS (by omega), ?_⟩
            refine ⟨by walk_at "lk", by simp only [List.length_map]; omega, _, by walk_at "lk", Nx.next ?_⟩
            refine Exs.cons (Ex.assign (Ev.list (El.nil ⟨by simp, _, by walk_at "lk", Nx.next (Exs.nil (Nx.next ?_))⟩)))
            rw [List.map_append]
            rfl
          · intro hc
            rw [if_neg (by rw [hc]; exact Bool.false_ne_true)] at hst ⊢
            rw [hst]
            (repeat' first | walk_at "s1" | walk_at "sp")
            rfl
        · rintro σ rfl
          rw [show st1 = (st1.1, st1.2) from rfl] at hst
          by_cases hc : ((!decide (own.length = 0)) && decide (col - wide tab 0 (cs lead) < (jn [32] (own ++ [word])).length)) = true
          · rw [if_pos hc] at hst ⊢
            have h2 : st1.2 = [word] := congrArg Prod.snd hst
            (repeat' first | walk_at "s1" | walk_at "sp")
            refine ⟨some (.v (sL word)), some (.v (.int (col - wide tab 0 (cs lead)))), ?_⟩
            rw [hs1, h2]
            rfl
          · rw [if_neg hc] at hst ⊢
            have h2 : st1.2 = own ++ [word] := congrArg Prod.snd hst
            (repeat' first | walk_at "s1" | walk_at "sp")
            refine ⟨some (.v (sL word)), some (.v (.int (col - wide tab 0 (cs lead)))), ?_⟩
            rw [hs1, h2, ← hmap]
      · rw [List.length_map]
        rintro σ ⟨y1, y2, rfl⟩
        exact ⟨y1, y2, by rw [List.take_length]⟩
    · rintro σ ⟨y1, y2, rfl⟩
      have hown := stW_own first rest col tab ws ([], [])
      simp only [tG, List.length_nil, Nat.zero_add] at hown
      unfold wrapW
      generalize (ws.foldl (stW first rest col tab) ([], [])).1 = f at *
      generalize (ws.foldl (stW first rest col tab) ([], [])).2 = own at *
      have hj1 := jn_len 32 own
      have hsum1 := tG_sum own
      generalize hlead : (if f.length = 0 then first else rest) = lead at *
      have hll : lead.length ≤ 2 ^ 18 := by rw [← hlead]; split <;> assumption
      refine Exs.cons (Ex.ret (Ev.bin (Ev.nameO (by walk_at "lk") (by walk_at "lk") hmt (Ev.list (El.cons (Ev.bin (EvIs.go (c := sL lead) ?_ ?_)))))))
      · (repeat' first | walk_at "s1" | walk_at "sp")
        · rename_i h1
          rw [← hlead, if_pos h1]; exact ⟨rfl, rfl⟩
        · rename_i h1
          rw [← hlead, if_neg h1]; exact ⟨rfl, rfl⟩
      (repeat walk_at "s1")
      refine ⟨_, FunV.joinSp (by omega), ?_⟩
      (repeat' first | walk_at "s1" | walk_at "sp")
      rw [List.map_append]
      rfl
end
section
variable {w : World} {n : Nat}
noncomputable def stD (col tab : Int) (s : List (List Nat) × List (List Nat)) (row : List Nat) : List (List Nat) × List (List Nat) :=
  if (!decide (ldN row = row)) = true then (s.1, s.2 ++ [row]) else (s.1 ++ wrapN col tab s.2 ++ [row], [])
noncomputable def dueS (col tab : Int) (rows : List (List Nat)) : List (List Nat) × List (List Nat) := rows.foldl (stD col tab) ([], [])
noncomputable def dueN (col tab : Int) (rows : List (List Nat)) : List (List Nat) := (dueS col tab rows).1 ++ wrapN col tab (dueS col tab rows).2
theorem dueS_snoc (col tab : Int) (rows : List (List Nat)) (row : List Nat) : dueS col tab (rows ++ [row]) = stD col tab (dueS col tab rows) row := by
  simp [dueS, List.foldl_append]
theorem stD_mono (col tab : Int) : ∀ (rows : List (List Nat)) (s : List (List Nat) × List (List Nat)), s.1.length ≤ (rows.foldl (stD col tab) s).1.length
  | [], s => by simp
  | r :: rs, s => by
    have := stD_mono col tab rs (stD col tab s r)
    rw [List.foldl_cons]
    refine Nat.le_trans ?_ this
    unfold stD; split
    · exact Nat.le_refl _
    · simp only [List.length_append]; omega
theorem stD_para (col tab : Int) : ∀ (rows : List (List Nat)) (s : List (List Nat) × List (List Nat)), tG (rows.foldl (stD col tab) s).2 ≤ tG s.2 + tG rows
  | [], s => by simp [tG]
  | r :: rs, s => by
    have ih := stD_para col tab rs (stD col tab s r)
    rw [List.foldl_cons]
    refine Nat.le_trans ih ?_
    have : tG (stD col tab s r).2 ≤ tG s.2 + (r.length + 1) := by
      unfold stD; split
      · simp [tG_app, tG]
      · simp [tG]
    simp only [tG]; omega
theorem getD_app1 {α} (l m : List α) (i : Nat) (d : α) (h : i < l.length) : (l ++ m).getD i d = l.getD i d := by
  rw [getD_at _ _ (by rw [List.length_append]; omega), getD_at _ _ h, List.getElem_append_left]
theorem getD_app2 {α} (l : List α) (x d : α) : (l ++ [x]).getD l.length d = x := by
  rw [getD_at _ _ (by simp)]; simp
theorem law_due_spec (text : List Nat) (col tab : Int) (ht : 0 < tab ∧ tab ≤ 8) (hN : text.length + 1 ≤ 2 ^ 18) (hO : tG (dueN col tab (lnN text)) ≤ 2 ^ 18) :
    Cl w (n + 5) 253 [sL text, .int col, .int tab] (fun r => r = sL (jn [10] (dueN col tab (lnN text)))) := by
  refine Cl.intro (names := ["_law_text", "_law_column", "_law_tab"]) (vars := ["_law_text", "_law_column", "_law_tab", "_law_found", "_law_block", "_law_row"]) (globs := ["_law_lead", "_law_wrapped"]) (σ0 := [some (.v (sL text)), some (.v (.int col)), some (.v (.int tab)), none, none, none]) (by (show List.lookup _ (hd.heap_1 _) = _; k_is)) (by (show codeIn (hd.heap_1 _) _ _ = _; k_is)) (by (exact fb3 rfl fun _ _ _ => rfl)) ⟨_, rfl⟩ rfl rfl (by decide +kernel) (by decide +kernel) (by decide +kernel) rfl rfl rfl (by decide +kernel) ?_
  intro F hsc hmt; clear hsc
  have hrt := tG_lnN text
  refine Exs.cons (Ex.pairNil (by walk_at "lk") (by walk_at "lk") (by decide +kernel) (Nx.next ?_))
  refine Exs.cut (fun σ => ∃ x, σ = [some (.v (sL text)), some (.v (.int col)), some (.v (.int tab)), some (.o ((dueN col tab (lnN text)).map sL)), some (.o []), x]) ?_ ?_
  · refine Ex.forList ?_
    refine Ev.bin ?_
    (repeat walk_at "s1")
    refine ⟨_, FunV.splitNl (by omega), ?_⟩
    generalize hrows : lnN text = rows at *
    have hrl := tG_len rows
    (repeat walk_at "s1")
    refine ⟨fun i σ => ∃ x, σ = (if i ≤ rows.length then [some (.v (sL text)), some (.v (.int col)), some (.v (.int tab)), some (.o ((dueS col tab (rows.take i)).1.map sL)), some (.o ((dueS col tab (rows.take i)).2.map sL)), x]
      else [some (.v (sL text)), some (.v (.int col)), some (.v (.int tab)), some (.o ((dueN col tab rows).map sL)), some (.o []), x]), ⟨none, by rw [if_pos (Nat.zero_le _), List.take_zero]; rfl⟩, ?_, ?_⟩
    · rintro i σ p hi ⟨x, rfl⟩
      have hi : i ≤ rows.length := by simp at hi; omega
      rw [if_pos hi]
      have hfl : (dueS col tab rows).1.length + (wrapN col tab (dueS col tab rows).2).length ≤ 2 ^ 18 := by
        have := tG_len (dueN col tab rows); rw [dueN, List.length_append] at this; unfold dueN at hO; omega
      have hpt := stD_para col tab (rows.take i) ([], [])
      rw [show List.foldl (stD col tab) ([], []) (rows.take i) = dueS col tab (rows.take i) from rfl] at hpt
      have htk := tG_take rows i
      simp only [tG, Nat.zero_add] at hpt
      rcases Nat.lt_or_ge i rows.length with hlt | hge
      · have hst : dueS col tab (rows.take (i + 1)) = stD col tab (dueS col tab (rows.take i)) (rows.getD i []) := by
          rw [take_snoc rows i [] hlt, dueS_snoc]
        have hmono : (dueS col tab (rows.take (i + 1))).1.length ≤ (dueS col tab rows).1.length := by
          have := stD_mono col tab (rows.drop (i + 1)) (dueS col tab (rows.take (i + 1)))
          refine Nat.le_trans this (Nat.le_of_eq ?_)
          conv => rhs; rw [← List.take_append_drop (i + 1) rows]
          rw [dueS, dueS, ← List.foldl_append]
        rw [stD] at hst
        have hmem := tG_mem (mem_getD rows i [] hlt)
        refine As.cast ((getD_app1 _ _ _ _ (by simpa using hlt)).trans (getD_map sL rows i _ [] hlt)) (As.name (by walk_at "lk") ?_)
        generalize (dueS col tab (rows.take i)).1 = f at *
        generalize (dueS col tab (rows.take i)).2 = b at *
        generalize rows.getD i [] = row at *
        have hbl := tG_len b
        have hll := ldN_le row
        refine Exs.cons (Ex.ifC (!decide (ldN row = row)) ?_ ?_ ?_)
        · (repeat' first | walk_at "s1" | walk_at "sp")
          refine Cl.mono (Cl.room (law_lead_spec (n := n) row (by omega)) (by omega)) ?_
          rintro _ rfl
          (repeat' first | walk_at "s1" | walk_at "sp")
          all_goals (first | (simp_all; done) | (simp_all; omega) | (simp_all; intros; omega))
        · intro hc
          rw [if_pos hc] at hst
          (refine Exs.cons (Ex.append (by walk_at "lk") fun d o => ⟨_, by walk_at "lk", ?_⟩))
          (repeat' first | walk_at "s1" | walk_at "sp")
          refine ⟨some (.v (sL row)), ?_⟩
          rw [if_pos (by omega), hst, List.map_append]
          rfl
        · intro hc
          rw [if_neg (by rw [hc]; exact Bool.false_ne_true)] at hst
          rw [hst] at hmono
          simp only [List.length_append, List.length_cons, List.length_nil] at hmono
          refine Exs.cons (Ex.assignO (EvO.cat (Ev.nameO (by walk_at "lk") (by walk_at "lk") hmt ?_)))
          refine Ev.mono (P := fun a σ' => a = .list ((wrapN col tab b).map sL) ∧ σ' = [some (.v (sL text)), some (.v (.int col)), some (.v (.int tab)), some (.v (.list (f.map sL))), some (.v (.list (b.map sL))), some (.v (sL row))]) ?_ ?_
          · (repeat' first | walk_at "s1" | walk_at "sp")
            · rename_i h1
              cases b with
              | nil => simp at h1
              | cons r0 rs =>
              refine Cl.mono (Cl.room (law_wrapped_spec (n := n) r0 rs col tab ht (by omega)) (by omega)) ?_
              rintro _ rfl
              (repeat' first | walk_at "s1" | walk_at "sp")
              exact ⟨rfl, rfl⟩
            · rename_i h1
              have : b = [] := by simpa using h1
              subst this
              exact ⟨rfl, rfl⟩
          · rintro _ _ ⟨rfl, rfl⟩
            refine ⟨_, _, rfl, rfl, by simp only [List.length_map]; omega, _, by walk_at "lk", Nx.next ?_⟩
            (repeat walk_at "s1")
            refine Exs.cons (Ex.ifC true ?_ (fun _ => ?_) (fun h => nomatch h))
            · (repeat' first | walk_at "s1" | walk_at "sp")
              exact ⟨rfl, rfl⟩
            · (refine Exs.cons (Ex.append (by walk_at "lk") fun d o => ⟨_, by walk_at "lk", ?_⟩))
              (repeat' first | walk_at "s1" | walk_at "sp")
              refine ⟨some (.v (sL row)), ?_⟩
              rw [if_pos (by omega), hst, List.map_append, List.map_append]
              rfl
      · have hie : i = rows.length := by omega
        subst hie
        rw [List.take_length] at htk hpt ⊢
        refine As.cast (b := AV.none) (by have := getD_app2 (rows.map sL) AV.none AV.none; rw [List.length_map] at this; exact this) (As.name (by walk_at "lk") ?_)
        unfold dueN
        generalize (dueS col tab rows).1 = f at *
        generalize (dueS col tab rows).2 = b at *
        have hbl := tG_len b
        refine Exs.cons (Ex.ifC false ?_ (fun h => nomatch h) (fun _ => ?_))
        · (repeat' first | walk_at "s1" | walk_at "sp")
          exact ⟨rfl, rfl⟩
        · refine Exs.cons (Ex.assignO (EvO.cat (Ev.nameO (by walk_at "lk") (by walk_at "lk") hmt ?_)))
          refine Ev.mono (P := fun a σ' => a = .list ((wrapN col tab b).map sL) ∧ σ' = [some (.v (sL text)), some (.v (.int col)), some (.v (.int tab)), some (.v (.list (f.map sL))), some (.v (.list (b.map sL))), some (.v .none)]) ?_ ?_
          · (repeat' first | walk_at "s1" | walk_at "sp")
            · rename_i h1
              cases b with
              | nil => simp at h1
              | cons r0 rs =>
              refine Cl.mono (Cl.room (law_wrapped_spec (n := n) r0 rs col tab ht (by omega)) (by omega)) ?_
              rintro _ rfl
              (repeat' first | walk_at "s1" | walk_at "sp")
              exact ⟨rfl, rfl⟩
            · rename_i h1
              have : b = [] := by simpa using h1
              subst this
              exact ⟨rfl, rfl⟩
          · rintro _ _ ⟨rfl, rfl⟩
            refine ⟨_, _, rfl, rfl, by simp only [List.length_map]; omega, _, by walk_at "lk", Nx.next ?_⟩
            (repeat walk_at "s1")
            refine Exs.cons (Ex.ifC false ?_ (fun h => nomatch h) (fun _ => ?_))
            · (repeat' first | walk_at "s1" | walk_at "sp")
              exact ⟨rfl, rfl⟩
            · (repeat' first | walk_at "s1" | walk_at "sp")
              refine ⟨some (.v .none), ?_⟩
              rw [if_neg (by omega), List.map_append]
    · rintro σ ⟨x, rfl⟩
      rw [if_neg (by simp)]
      exact ⟨x, rfl⟩
  · rintro σ ⟨x, rfl⟩
    have hs := tG_sum (dueN col tab (lnN text))
    (repeat walk_at "s1")
    refine ⟨_, FunV.joinNl (by omega), ?_⟩
    (repeat' first | walk_at "s1" | walk_at "sp")
    trivial
end
section
variable {w : World} {n : Nat} {d : Addr}
noncomputable def InR (many : Nat) (a : AV) : Prop := ∃ i : Nat, i < many ∧ a = .int i
theorem inR_mod {i : Int} {many : Nat} (h : 0 < many) : InR many (.int (i % (many : Int))) := by
  have h1 := Int.emod_nonneg i (show (many : Int) ≠ 0 by omega)
  have h2 := Int.emod_lt_of_pos i (show (0 : Int) < many by omega)
  exact ⟨(i % many).toNat, by omega, by rw [Int.toNat_of_nonneg h1]⟩
theorem draw_spec (many : Nat) (hm : 0 < many ∧ many ≤ 64) : ClD w (n + 2) 201 d [.int many] (InR many) := by
  refine ClD.intro (names := ["_law_deck", "_law_many"]) (vars := ["_law_deck", "_law_many", "_law_found"]) (globs := ["len"]) (σ0 := [some (.r d), some (.v (.int many)), none]) (by (show List.lookup _ (hd.heap_1 _) = _; k_is)) (by (show codeIn (hd.heap_1 _) _ _ = _; k_is)) (by (exact fb2 rfl fun _ _ => rfl)) ⟨_, rfl⟩ rfl rfl (by decide +kernel) (by decide +kernel) (by decide +kernel) rfl rfl rfl (by decide +kernel) ?_
  intro F hsc; clear hsc
  refine XsD.cons (XD.whilePop (fun vs k hv => ?_) (fun z A s vs k Q r hv h1 j hQ => ?_) (Nx.next ?_))
  · have hfew := hv.few
    refine Bv.and (Bv.cmp (Ev.lenR (by walk_at "lk") B1 (by walk_at "lk") (.head _) (by omega) (Ev.int ⟨_, CmpV.gt, fun h1 => ?_, fun h1 => ?_⟩)))
    · rw [decide_eq_true_eq] at h1
      refine Bv.and (Bv.cmp (Ev.deck0 (by walk_at "lk") (.head _) hv fun i => Ev.int ⟨_, CmpV.eq, fun h2 => Bv.andNil ⟨rfl, fun _ => by omega⟩, fun _ => ⟨rfl, fun h => nomatch h⟩⟩))
    · exact ⟨rfl, fun h => nomatch h⟩
  · refine Eq.mpr (congrArg (fun m => wpAny (MM w) A m _ NoE s) (execs_cons ..)) (wpAny_bind (popD r j (by walk_at "lk") hv h1 fun z' s' vs' k' l hv' hs' j' => ?_))
    exact wpAny_execs_nil (hQ z' s' vs' k' l hv' hs' j')
  refine XsD.cons (XD.if (fun vs k hv => ?_) ?_ (XsD.nil (Nx.next ?_)))
  · have hfew := hv.few
    refine Bv.cmp (Ev.lenR (by walk_at "lk") B1 (by walk_at "lk") (.head _) (by omega) (Ev.int ⟨_, CmpV.gt, rfl⟩))
  · refine XsD.cons (XD.lift fun vs k hv => Ex.assign (Ev.bin (Ev.deck0 (by walk_at "lk") (.head _) hv fun i => Ev.name (by walk_at "lk") ⟨_, BinV.mod (by omega), _, by walk_at "lk", Nx.next ?_⟩)))
    refine XsD.cons (XD.put0 (by walk_at "lk") (fun vs k hv => Ev.bin (Ev.deck0 (by walk_at "lk") (.head _) hv fun i => Ev.name (by walk_at "lk") ⟨_, BinV.fdivS (by omega), ⟨_, rfl⟩, rfl⟩)) (Nx.next ?_))
    refine XsD.cons (XD.lift fun vs k hv => Ex.ret (Ev.name (by walk_at "lk") ?_))
    exact inR_mod hm.1
  · refine XsD.cons (XD.put0 (by walk_at "lk") (fun vs k hv => Ev.bin (Ev.bin (Ev.bin (Ev.deck0 (by walk_at "lk") (.head _) hv fun i => Ev.int ⟨_, BinV.mulS (by omega), Ev.int ⟨_, BinV.add, Ev.int ⟨_, BinV.mod (by omega), ⟨_, rfl⟩, rfl⟩⟩⟩)))) (Nx.next ?_))
    refine XsD.cons (XD.lift fun vs k hv => Ex.ret (Ev.bin (Ev.bin (Ev.deck0 (by walk_at "lk") (.head _) hv fun i => Ev.int ⟨_, BinV.fdivS (by omega), Ev.name (by walk_at "lk") ⟨_, BinV.mod (by omega), ?_⟩⟩))))
    exact inR_mod hm.1
end
section
variable {w : World} {n : Nat} {d : Addr}
theorem one_spec (l : List AV) (h1 : 0 < l.length) (h2 : l.length ≤ 64) : ClD w (n + 3) 213 d [.list l] (fun a => ∃ i, i < l.length ∧ a = l.getD i .none) := by
  refine ClD.intro (names := ["_law_deck", "_law_items"]) (vars := ["_law_deck", "_law_items"]) (globs := ["_law_draw", "len"]) (σ0 := [some (.r d), some (.v (.list l))]) (by (show List.lookup _ (hd.heap_1 _) = _; k_is)) (by (show codeIn (hd.heap_1 _) _ _ = _; k_is)) (by (exact fb2 rfl fun _ _ => rfl)) ⟨[], rfl⟩ rfl rfl (by decide +kernel) (by decide +kernel) (by decide +kernel) rfl rfl rfl (by decide +kernel) ?_
  intro F hsc; clear hsc
  refine XsD.cons (XD.ret (EvD.index fun vs k hv => Ev.name (by walk_at "lk") (EvD.call (by walk_at "lk") D201 (fun vs k z hv => Wp.nameR (by walk_at "lk")) fun vs k hv => ?_)))
  (repeat walk_at "s1")
  refine (draw_spec (n := n) l.length ⟨h1, h2⟩).mono ?_
  rintro _ ⟨i, hi, rfl⟩
  refine ⟨_, idx_list .none hi (by omega), ?_⟩
  exact ⟨i, hi, rfl⟩
end
section
variable {w : World} {n : Nat}
noncomputable def absP : AV → Bool
  | .int c => decide ((10 : Int) ^ (9 : Int).toNat ≤ (if c < 0 then -c else c))
  | _ => false
noncomputable def absF : AV → AV
  | .int c => .int ((if c < 0 then -c else c) % (10 : Int) ^ (60 : Int).toNat)
  | a => a
theorem deck_of_spec (ns : List Int) (hs : ns.length ≤ 64) : ClN w (n + 2) 206 [iL ns] := fun A s z vs r c l rs => by
  refine callRaw (names := ["script"]) (vars := ["script", "_law_mixed", "_law_cell"]) (globs := ["abs"]) (sls := [.v (iL ns)]) (σ0 := [some (.v (iL ns)), none, none]) (mt := []) (res := []) (by (show List.lookup _ (hd.heap_1 _) = _; k_is)) (by (show codeIn (hd.heap_1 _) _ _ = _; k_is)) (by (exact fb1 rfl fun _ => rfl)) ⟨_, rfl⟩ rfl rfl (by decide +kernel) (by decide +kernel) (by decide +kernel) rfl rfl rfl (by decide +kernel) r c l rs.length ?_ (fun _ h => nomatch h) (fun _ h => nomatch h) .nil ?_
  · intro i v sl hi hsl
    obtain ⟨a, ha, ra⟩ := rs.get' i v hi
    cases i with
    | zero => simp at ha hsl; subst ha hsl; exact ra
    | succ i => simp at ha
  intro F hsc hmt h0 z0 hos hgs A' s' r' j
  clear hsc
  have hsl : ((ns.map AV.int).take 24).length ≤ 24 := by simp; omega
  refine execsStep r' j (R := fun σ => σ = [some (.v (iL ns)), some (.v (.int 7)), none]) (Ex.assign (Ev.int ⟨_, by walk_at "lk", rfl, rfl⟩)) ?_
  rintro z1 σ1 s1 l1 rfl j1
  refine execsStep r' j1 (R := fun σ => ∃ m x, σ = [some (.v (iL ns)), some (.v (.int m)), x]) ?_ ?_
  · refine Ex.forList ?_
    (repeat walk_at "s1")
    refine ⟨fun i σ => ∃ m x, σ = [some (.v (iL ns)), some (.v (.int m)), x], ⟨_, _, rfl⟩, ?_, fun σ h => ⟨rfl, h⟩⟩
    rintro i σ p hi ⟨m, x, rfl⟩
    have hi2 : i < (ns.take 24).length := by rw [← List.map_take, List.length_map] at hi; exact hi
    rw [← List.map_take]
    refine As.cast (getD_map AV.int (ns.take 24) i _ 0 hi2) (As.name (by walk_at "lk") ?_)
    refine Exs.cons (Ex.assign ?_)
    (repeat walk_at "s1")
    refine ⟨_, BinV.pow (by decide), ?_⟩
    refine ⟨_, BinV.mod (by decide), ?_⟩
    (repeat walk_at "s1")
    exact ⟨_, _, rfl⟩
  · rintro z2 σ2 s2 l2 ⟨m, x, rfl⟩ j2
    refine execsRetO (P := fun l => (∀ a ∈ l, ∃ i, a = .int i) ∧ 1 ≤ l.length ∧ l.length ≤ 64) r' j2 (EvO.cat ?_) ?_
    · refine Ev.compList (V' := ["_law_cell"]) (G' := ["abs"]) ⟨rfl, by decide +kernel, by decide +kernel, by decide +kernel, by decide +kernel, by decide +kernel⟩ ?_ (fun A s I ax i v Q E h q x => goName s I ax i v Q E h q x)
      (repeat walk_at "s1")
      refine ⟨absP, absF, fun a ha => ?_, ?_⟩
      · obtain ⟨c, _, rfl⟩ := List.mem_map.mp (List.mem_of_mem_take ha)
        intro F' r1 r2 hm
        show As w F' _ _ _ _ [none] _
        refine As.name (by walk_at "lk") (Tests.one ?_)
        (repeat walk_at "s1")
        refine ⟨_, BinV.pow (by decide), ?_⟩
        refine ⟨_, CmpV.ge, rfl, fun _ => ?_⟩
        (repeat walk_at "s1")
        refine ⟨_, BinV.pow (by decide), ?_⟩
        exact ⟨_, BinV.mod (by decide), rfl⟩
      · (repeat walk_at "s1")
        have hlen : (List.map absF (List.filter absP (List.take 24 (List.map AV.int ns)))).length ≤ 24 := by
          rw [List.length_map]
          exact Nat.le_trans (List.length_filter_le _ _) hsl
        refine ⟨_, _, rfl, rfl, by simp only [List.length_cons, List.length_nil]; omega, ?_, ?_, ?_⟩
        · intro a ha
          rcases List.mem_append.mp ha with h | h
          · obtain ⟨b, hb, rfl⟩ := List.mem_map.mp h
            obtain ⟨c, _, rfl⟩ := List.mem_map.mp (List.mem_of_mem_take (List.mem_filter.mp hb).1)
            exact ⟨_, rfl⟩
          · exact ⟨m, List.mem_singleton.mp h⟩
        · simp only [List.length_append, List.length_cons]; omega
        · simp only [List.length_append, List.length_cons, List.length_nil]; omega
    · intro z3 σ3 s3 d vs3 k l l3 j3 rs3 ⟨p1, p2, p3⟩
      obtain ⟨e1, e2, e3, e4⟩ := j3.rs (d, lOf vs3 k) (.head _)
      refine ⟨d, vs3, k, z3, rfl, ?_, e1, deckV_of rs3 p2 p3 p1, fun b x e => j3.kp b x (by rw [hmt]; exact List.not_mem_nil) (by rw [h0]; exact e), (l1.trans l2).trans l3, j3.sub, e2, fun b x e => ?_, j3.os.trans hos, j3.gens.trans hgs⟩
      · rw [hmt, h0] at e4
        exact e4.elim id fun q => nomatch q
      · have := j3.frz b x e
        rw [z0, h0] at this
        exact this
end
section
variable {w : World} {n : Nat} {d : Addr}
noncomputable def lawBody : List Stmt := match PySem.Challenge.pw_on0065_01.main.body.getLast? with
  | some (.FunctionDef _ _ body _ _ _ _ _ _ _) => body
  | _ => []
noncomputable def lawScope : Scope := match PySem.Challenge.pw_on0065_01.main.body.getLast? with
  | some (.FunctionDef _ _ _ _ _ _ scope _ _ _) => scope
  | _ => default
noncomputable abbrev lawV : List Str := ["script", "_law_column", "_law_tab", "_law_rows", "_law_turn", "_law_words", "_law_gaps", "_law_text", "_law_codes", "_law_filling", "_law_told", "_law_hand"]
noncomputable abbrev lawG : List Str := ["_law_deck_of", "_law_draw", "range", "_law_one", "Filling", "filled_text", "_law_due_of"]
noncomputable def wordsL : List (List Nat) := [[97], [98, 99], [100, 101, 102], [103, 104, 105, 106, 107], [97, 62, 98]]
noncomputable def gapsL : List (List Nat) := [[32], [32, 32], [9]]
noncomputable def leadsL : List (List Nat) := [[], [], [32], [32, 32], [62, 32], [9], [62, 62]]
noncomputable def RowOk (row : List Nat) : Prop := ∃ lead gap words, lead ∈ leadsL ∧ gap ∈ gapsL ∧ words.length ≤ 4 ∧ (∀ x ∈ words, x ∈ wordsL) ∧ row = lead ++ jn gap words
theorem words_are : ([.str "a", .str "bc", .str "def", .str "ghijk", .str "a>b"] : List AV) = wordsL.map sL := by with_unfolding_all rfl
theorem gaps_are : ([.str " ", .str "  ", .str "\t"] : List AV) = gapsL.map sL := by with_unfolding_all rfl
theorem leads_are : ([.str "", .str "", .str " ", .str "  ", .str "> ", .str "\t", .str ">>"] : List AV) = leadsL.map sL := by with_unfolding_all rfl
theorem strsOf {m : List (List Nat)} : ∀ {l : List AV}, (∀ a ∈ l, ∃ x ∈ m, a = sL x) → ∃ ws : List (List Nat), l = ws.map sL ∧ ∀ x ∈ ws, x ∈ m
  | [], _ => ⟨[], rfl, fun _ h => nomatch h⟩
  | a :: l, h => by
    obtain ⟨x, hx, rfl⟩ := h a (.head _)
    obtain ⟨ws, rfl, hws⟩ := strsOf (m := m) (l := l) fun b hb => h b (.tail _ hb)
    refine ⟨x :: ws, rfl, fun y hy => ?_⟩
    rcases List.mem_cons.mp hy with rfl | hy
    · exact hx
    · exact hws y hy
theorem wordsL_small : ∀ x ∈ wordsL, x.length ≤ 5 := by decide
theorem gapsL_small : ∀ x ∈ gapsL, x.length ≤ 2 := by decide
theorem leadsL_small : ∀ x ∈ leadsL, x.length ≤ 2 := by decide
theorem wordsOf_small : ∀ (ws : List (List Nat)), (∀ x ∈ ws, x ∈ wordsL) → (ws.map (·.length)).sum ≤ 5 * ws.length
  | [], _ => by simp
  | x :: ws, h => by
    have h1 := wordsL_small x (h x (.head _))
    have h2 := wordsOf_small ws fun y hy => h y (.tail _ hy)
    simp only [List.map_cons, List.sum_cons, List.length_cons]; omega
theorem jn_small (gap : List Nat) : ∀ (ws : List (List Nat)), (jn gap ws).length ≤ (ws.map (·.length)).sum + ws.length * gap.length
  | [] => by simp [jn]
  | [a] => by simp [jn]
  | a :: b :: r => by
    have := jn_small gap (b :: r)
    simp only [jn, List.length_append, List.map_cons, List.sum_cons, List.length_cons] at *
    rw [Nat.add_mul (r.length + 1)]
    omega
theorem one_of (l : List AV) (m : List (List Nat)) (e : l = m.map sL) (h1 : 0 < m.length) (h2 : m.length ≤ 64) : ClD w (n + 3) 213 d [.list l] (fun a => ∃ x ∈ m, a = sL x) := by
  subst e
  refine (one_spec (n := n) (m.map sL) (by simpa using h1) (by simpa using h2)).mono ?_
  rintro _ ⟨i, hi, rfl⟩
  rw [List.length_map] at hi
  exact ⟨m.getD i [], mem_getD m i [] hi, getD_map sL m i _ [] hi⟩
theorem law_rows {A : Around} {z : Heap} {s : Shared} {c : Addr} {cell : Obj} {ns : List Int} {Q : Flow → Shared → Prop} {F : Fm lawV lawG} {v0 : Option Value} (r : Room (n + 8) A) (hns : ns.length ≤ 64) (hsc : F.env.scope = lawScope) (hmt : F.mt = []) (hcell : cell.data = .cell v0)
    (hc : F.env.cells = [(("_law_deck" : Str), c)]) (j : J w F [(c, cell)] z [some (.v (iL ns)), none, none, none, none, none, none, none, none, none, none, none] s)
    (h : ∀ z' s' (col tab : Int) (rows : List (List Nat)) x1 x2 x3, 6 ≤ col → col ≤ 17 → 1 ≤ tab → tab ≤ 8 → 1 ≤ rows.length → rows.length ≤ 6 → (∀ row ∈ rows, RowOk row) →
      J w F [] z' [some (.v (iL ns)), some (.v (.int col)), some (.v (.int tab)), some (.o (rows.map sL)), x1, x2, x3, none, none, none, none, none] s' → wpAny (MM w) A (execs (lawBody.drop 3) F.env) Q NoE s') :
    wpAny (MM w) A (execs lawBody F.env) Q NoE s := by
  show wpAny _ _ (execs (_ :: _ :: _ :: _) _) _ _ _
  have hkd : F.env.kindOf "_law_deck" = some .cell := by unfold Env.kindOf; rw [hsc]; rfl
  have hcl : F.env.cells.lookup ("_law_deck" : Str) = some c := by rw [hc]; rfl
  have hdb : (("_law_deck" : Str) == ("__debug__" : Str)) = false := by decide +kernel
  refine Eq.mpr (congrArg (fun m => wpAny (MM w) A m _ NoE s) (execs_cons ..)) (wpAny_bind ?_)
  refine deckAssign (n := n + 8) r j hmt hcell hkd hcl (by walk_at "lk") D206 (by walk_at "lk") (deck_of_spec (n := n + 6) ns hns) fun z1 s1 d vs k o' l1 hv ho' j1 => ?_
  refine execsStepD (n := n + 8) (R := fun σ => ∃ (col tab : Int), 6 ≤ col ∧ col ≤ 17 ∧ 1 ≤ tab ∧ tab ≤ 8 ∧ σ = [some (.v (iL ns)), some (.v (.int col)), some (.v (.int tab)), some (.o []), none, none, none, none, none, none, none, none]) r ⟨vs, k, rfl, hv⟩ j1 ?_ ?_
  · refine XD.three ?_ (by walk_at "lk") (by walk_at "lk") (by walk_at "lk") (by decide +kernel) (by decide +kernel) (by decide +kernel) (fun _ _ e => by cases e) (fun _ _ e => by cases e) rfl rfl
    refine EvD.bin (EvD.lift fun vs k hv => Ev.int ?_)
    refine EvD.call (by walk_at "lk") D201 (fun vs k z hv => Wp.nameC hkd hdb hcl (.tail _ (.head _)) ho') fun vs k hv => Ev.int ?_
    refine (draw_spec (n := n + 6) 12 (by decide)).mono ?_
    rintro _ ⟨i, hi, rfl⟩
    refine ⟨_, BinV.add, ?_⟩
    refine EvD.bin (EvD.lift fun vs k hv => Ev.int ?_)
    refine EvD.call (by walk_at "lk") D201 (fun vs k z hv => Wp.nameC hkd hdb hcl (.tail _ (.head _)) ho') fun vs k hv => Ev.int ?_
    refine (draw_spec (n := n + 6) 8 (by decide)).mono ?_
    rintro _ ⟨i2, hi2, rfl⟩
    refine ⟨_, BinV.add, _, _, _, by walk_at "lk", by walk_at "lk", by walk_at "lk", rfl, _, _, ?_, ?_, ?_, ?_, rfl⟩ <;> omega
  · rintro z2 σ2 s2 o2 l2 ho2 ⟨col, tab, b1, b2, b3, b4, rfl⟩ j2
    refine execsStepD (n := n + 8) (R := fun σ => ∃ (rows : List (List Nat)) (x1 x2 x3 : Option Slot), 1 ≤ rows.length ∧ rows.length ≤ 6 ∧ (∀ row ∈ rows, RowOk row) ∧ σ = [some (.v (iL ns)), some (.v (.int col)), some (.v (.int tab)), some (.o (rows.map sL)), x1, x2, x3, none, none, none, none, none]) r ho2 j2 ?_ ?_
    · refine XD.forRange (by walk_at "lk") B2 ?_
      refine EvD.bin (EvD.lift fun vs k hv => Ev.int ?_)
      refine EvD.call (by walk_at "lk") D201 (fun vs k z hv => Wp.nameC hkd hdb hcl (.tail _ (.head _)) ho') fun vs k hv => Ev.int ?_
      refine (draw_spec (n := n + 6) 6 (by decide)).mono ?_
      rintro _ ⟨N, hN, rfl⟩
      refine ⟨_, BinV.add, 1 + N, by rw [Int.natCast_add]; rfl, by omega, fun i σ => ∃ (rows : List (List Nat)) (x1 x2 x3 : Option Slot), rows.length = i ∧ (∀ row ∈ rows, RowOk row) ∧ σ = [some (.v (iL ns)), some (.v (.int col)), some (.v (.int tab)), some (.o (rows.map sL)), x1, x2, x3, none, none, none, none, none], ⟨[], none, none, none, rfl, (fun _ h => nomatch h), rfl⟩, ?_, ?_⟩
      · rintro i σ p o hi ⟨rows, x1, x2, x3, hrl, hro, rfl⟩
        refine As.name (by walk_at "lk") ?_
        refine XsD.cons (XD.assignComp (V' := ["_law_step"]) (G' := ["_law_one"]) (N0 := 4) (c := c) (oc := o') (cl := [(("_law_deck" : Str), c)]) (Pe := fun a => ∃ x ∈ wordsL, a = sL x) ?hsw ?hclos (by decide +kernel) rfl (by decide +kernel) (by decide +kernel) ?loc ?glo hmt (.tail _ (.head _)) (by walk_at "lk") B2 ?he (by decide) ?turn (by walk_at "lk") ?fin)
        case hsw =>
          have hbk : F.env.blockKind = .function := by unfold Env.blockKind; rw [hsc]; rfl
          have hy : F.env.kindOf "_law_words" = some .local := by unfold Env.kindOf; rw [hsc]; rfl
          show (pure (F.env.blockKind == .function && F.env.kindOf "_law_words" == some .local && _ && _) : Sem Bool) = pure true
          rw [hbk, hy]; rfl
        case hclos =>
          have e : cellOf F.env "_law_deck" = pure c := by unfold cellOf; rw [hcl]
          have h1 : (NameKind.local == NameKind.free) = false := rfl
          have h2 : (NameKind.globalImplicit == NameKind.free) = false := rfl
          have h3 : (NameKind.free == NameKind.free) = true := rfl
          unfold closureFor
          simp only [List.forIn_cons, List.forIn_nil, h1, h2, h3, if_true, Bool.false_eq_true, if_false, e, pure_bind]
        case loc =>
          intro x hx
          rw [List.mem_singleton.mp hx]
          exact ⟨rfl, by decide +kernel⟩
        case glo =>
          intro x hx
          rw [List.mem_singleton.mp hx]
          exact ⟨rfl, by decide +kernel, by decide +kernel⟩
        case he =>
          refine EvD.call (by walk_at "lk") D201 (fun vs k z hv => Wp.nameC hkd hdb hcl (.tail _ (.tail _ (.head _))) ho') fun vs k hv => Ev.int ?_
          refine (draw_spec (n := n + 6) 5 (by decide)).mono ?_
          rintro _ ⟨m, hm, rfl⟩
          exact ⟨m, rfl, by omega, rfl⟩
        case turn =>
          intro F' hcl' hsc' i p q o
          have hkd' : F'.env.kindOf "_law_deck" = some .cell := by
            unfold Env.kindOf; rw [hsc']
            unfold relabel
            simp only [List.map]
            rw [hkd, hsc]; rfl
          show As w F' _ _ _ _ [none] _
          refine As.name (by walk_at "lk") ?_
          refine EvD.call (by walk_at "lk") D213 (fun vs k z hv => Wp.nameC hkd' hdb (by rw [hcl']; rfl) (.tail _ (.tail _ (.tail _ (.head _)))) ho') fun vs k hv => ?_
          (repeat walk_at "s1")
          exact one_of (n := n + 5) _ wordsL words_are (by decide) (by decide)
        case fin =>
          intro l hl hpe
          obtain ⟨ws, rfl, hws⟩ := strsOf hpe
          rw [List.length_map] at hl
          refine ⟨_, by walk_at "lk", Nx.next ?_⟩
          refine XsD.cons (XD.assign (EvD.call (by walk_at "lk") D213 (fun vs k z hv => Wp.nameC hkd hdb hcl (.tail _ (.tail _ (.head _))) ho') fun vs k hv => ?_))
          (repeat walk_at "s1")
          refine (one_of (n := n + 5) _ gapsL gaps_are (by decide) (by decide)).mono ?_
          rintro _ ⟨gap, hgap, rfl⟩
          refine ⟨_, by walk_at "lk", Nx.next ?_⟩
          refine XsD.cons (XD.append (by walk_at "lk") fun dl ol => ⟨_, by walk_at "lk", ?_⟩)
          refine EvD.bin (EvD.call (by walk_at "lk") D213 (fun vs k z hv => Wp.nameC hkd hdb hcl (.tail _ (.tail _ (.tail _ (.head _)))) ho') fun vs k hv => ?_)
          (repeat walk_at "s1")
          refine (one_of (n := n + 5) _ leadsL leads_are (by decide) (by decide)).mono ?_
          rintro _ ⟨lead, hlead, rfl⟩
          refine EvD.lift fun vs k hv => ?_
          (repeat walk_at "s1")
          refine ⟨_, FunV.joinS (by have := wordsOf_small ws hws; have := gapsL_small gap hgap; have := Nat.mul_le_mul hl (gapsL_small gap hgap); omega), _, BinV.catS ?_, by walk_at "lk", by walk_at "sz", _, by walk_at "lk", Nx.next (XsD.nil (Lp.next ⟨rows ++ [lead ++ jn gap ws], _, _, _, by simp [hrl], fun row hrow => ?_, by rw [List.map_append]; rfl⟩))⟩
          · have h1 := jn_small gap ws
            have h2 := wordsOf_small ws hws
            have h3 := Nat.mul_le_mul hl (gapsL_small gap hgap)
            have h4 := leadsL_small lead hlead
            omega
          · rcases List.mem_append.mp hrow with hrow | hrow
            · exact hro row hrow
            · rw [List.mem_singleton.mp hrow]
              exact ⟨lead, gap, ws, hlead, hgap, hl, hws, rfl⟩
      · rintro σ ⟨rows, x1, x2, x3, hrl, hro, rfl⟩
        exact ⟨rfl, rows, x1, x2, x3, by omega, by omega, hro, rfl⟩
    · rintro z3 σ3 s3 o3 l3 ho3 ⟨rows, x1, x2, x3, c1, c2, c3, rfl⟩ j3
      exact h z3 s3 col tab rows x1 x2 x3 b1 b2 b3 b4 c1 c2 c3 j3.dropRes.dropRes
end
section
variable {w : World} {n : Nat}
structure Plain (rows : List (List Nat)) (col tab : Int) : Prop where
  size : tG rows + 1 ≤ 2 ^ 18
  ln : lnN (jn [10] rows) = rows
  due : tG (dueN col tab rows) ≤ 2 ^ 18
  sp : splitI (cs (jn [10] rows)) = rows.map cs
  okc : ∀ row ∈ rows.map cs, Okc row
  fill : fillRows [62] col tab (rows.map cs) = (dueN col tab rows).map cs
  tsp : splitI (cs (jn [10] (dueN col tab rows))) = (dueN col tab rows).map cs
  tokc : ∀ row ∈ (dueN col tab rows).map cs, Okc row
  again : (∀ row ∈ rows, 62 ∉ ldN row) → fillRows [62] col tab ((dueN col tab rows).map cs) = (dueN col tab rows).map cs
theorem jR_cs : ∀ l : List (List Nat), jR (l.map cs) = cs (jn [10] l)
  | [] => rfl
  | [a] => rfl
  | a :: b :: r => by
    have ih := jR_cs (b :: r)
    simp only [List.map_cons, jR, jn] at *
    rw [ih]; simp [cs]
theorem tot_cs : ∀ l : List (List Nat), tot (l.map cs) = tG l
  | [] => rfl
  | a :: l => by simp only [List.map_cons, tot, tG, tot_cs l, cs, List.length_map]
noncomputable def ordF : AV → AV
  | .str x => .int (x.cps.toList.getD 0 0 : Nat)
  | a => a
theorem ordF_list (l : List Nat) : ((l.map fun c => AV.str ⟨#[c]⟩).filter fun _ => true).map ordF = (cs l).map .int := by
  rw [List.filter_eq_self.mpr fun _ _ => rfl]
  simp [cs, ordF, Function.comp_def]
theorem ordF_str (l : List Nat) : (((⟨l.toArray⟩ : Str).cps.toList.map fun c => AV.str ⟨#[c]⟩).filter fun _ => true).map ordF = (cs l).map .int := ordF_list l
noncomputable def gtP : AV → Bool
  | .str x => decide (62 ∈ ldN x.cps.toList)
  | _ => false
theorem K1 : GlobF w "Filling" 134 := by show nsIn (hd.heap_1 _) mainGlobals _ = _; k_is
theorem K2 : keepIn (KK w) (.ref 134) = true := by show keepIn (hd.heap_1 _) _ = _; k_is
theorem K3 : MakeOk w := fun n A s z v1 v2 v3 v4 Q r c l h => by
  refine makeFill (n := n) (by (show List.lookup _ (hd.heap_1 _) = _; k_is)) (by (show codeIn (hd.heap_1 _) _ _ = _; k_is)) (fun a b c d e => rfl) (by decide +kernel) rfl rfl rfl (by decide +kernel) ?_ ?_ ?_ ?_ ?_ ?_ ?_ ?_ ?_ ?_ r c l h
  · show makesIn (hd.heap_1 _) _ = _; k_is
  · show findIn (hd.heap_1 _) _ _ = _; k_is
  · show typeIn (hd.heap_1 _) _ = _; k_is
  · show findIn (hd.heap_1 _) _ _ = _; k_is
  · show plainOver (hd.heap_1 _) _ = _; k_is
  · show hasDictIn (hd.heap_1 _) _ = _; k_is
  · show takerIn (hd.heap_1 _) _ _ = _; k_is
  · show takerIn (hd.heap_1 _) _ _ = _; k_is
  · show takerIn (hd.heap_1 _) _ _ = _; k_is
  · show takerIn (hd.heap_1 _) _ _ = _; k_is
noncomputable abbrev lawT (ns : List Int) (col tab : Int) (rows : List (List Nat)) (x1 x2 x3 : Option Slot) : St :=
  [some (.v (iL ns)), some (.v (.int col)), some (.v (.int tab)), some (.v (.list (rows.map sL))), x1, x2, x3, some (.v (sL (jn [10] rows))), some (.v (iL (cs (jn [10] rows)))), some (.v (.fill (.int col) (.str "left") (iL [62]) (.int tab))), some (.v (iL (cs (jn [10] (dueN col tab rows))))), none]
theorem jn10_len (rows : List (List Nat)) : (jn [10] rows).length ≤ tG rows := jn_len 10 rows
theorem ordTurn {c : Nat} {px : Pos} {elt : Expr} {p1 p2 p3 : Pos} (he : elt = .Call (.Name "ord" p1) [.Name "_law_sign" p2] [] p3) : Turn w ["_law_sign"] ["ord"] (n + 1) (.Name "_law_sign" px) [] elt (.str ⟨#[c]⟩) true (ordF (.str ⟨#[c]⟩)) := by
  subst he
  intro F' r1 r2 hm
  show As w F' _ _ _ _ [none] _
  refine As.name (by walk_at "lk") (Tests.nil ⟨rfl, fun _ => ?_⟩)
  (repeat walk_at "s1")
  rfl
theorem hand_are : ((("a b\n\nc\nd" : Str).cps.toList.map fun c => AV.str ⟨#[c]⟩).map ordF) = [97, 32, 98, 10, 10, 99, 10, 100].map AV.int := by with_unfolding_all rfl
theorem hand_due : ((("a b\n\nc d" : Str).cps.toList.map fun c => AV.str ⟨#[c]⟩).map ordF) = [97, 32, 98, 10, 10, 99, 32, 100].map AV.int := by with_unfolding_all rfl
theorem hand_ok : ∀ row ∈ splitI [97, 32, 98, 10, 10, 99, 10, 100], Okc row := by
  have h : ((splitI [97, 32, 98, 10, 10, 99, 10, 100]).all fun row => row.all fun c => isBl c || Pl c) = true := by decide +kernel
  intro row hr c hc hb
  have := List.all_eq_true.mp (List.all_eq_true.mp h row hr) c hc
  rw [hb] at this
  exact this
theorem hand_fill : jR (fillRows [] 9 8 (splitI [97, 32, 98, 10, 10, 99, 10, 100])) = [97, 32, 98, 10, 10, 99, 32, 100] := by decide +kernel
theorem law_rest2 {col tab : Int} {rows : List (List Nat)} {x1 x2 x3 : Option Slot} {ns : List Int} {F : Fm lawV lawG} (ht : 0 < tab ∧ tab ≤ 8) (hsc : F.env.scope = lawScope) (hmt : F.mt = []) (hp : Plain rows col tab) :
    Exs w F [] (n + 8) (lawBody.drop 7) (lawT ns col tab rows x1 x2 x3) (Rt fun a => a = .bool true) := by
  show Exs _ _ _ _ (_ :: _ :: _ :: []) _ _
  have h1 := hp.size
  have h2 := jn10_len rows
  have h4 := hp.due
  have h5 := jn10_len (dueN col tab rows)
  have h6 := tG_len rows
  refine Exs.cut (fun σ => σ = lawT ns col tab rows x1 x2 x3) ?_ ?_
  · refine Ex.ifC false ?_ (fun h => nomatch h) fun _ => Exs.nil (Nx.next rfl)
    refine Bv.and (Bv.cmp (Ev.compList (V' := ["_law_row"]) (G' := ["_law_lead"]) ⟨rfl, by decide +kernel, by decide +kernel, by decide +kernel, by decide +kernel, by decide +kernel⟩ ?_ (fun A s I ax i v Q E h q x => goName s I ax i v Q E h q x)))
    refine Ev.name (by walk_at "lk") ⟨_, rfl, by simp only [List.length_map]; omega, gtP, fun _ => .int 1, fun a ha => ?_, ?_⟩
    · obtain ⟨row, hrow, rfl⟩ := List.mem_map.mp ha
      have := tG_mem hrow
      intro F' r1 r2 hm
      show As w F' _ _ _ _ [none] _
      refine As.name (by walk_at "lk") (Tests.one (Bv.cmp (Ev.strL (l := [62]) (by decide +kernel) ?_)))
      (repeat walk_at "s1")
      refine Cl.mono (law_lead_spec (n := n + 6) row (by omega)) ?_
      rintro _ rfl
      refine ⟨_, CmpV.inS, by simp [gtP], fun _ => ?_⟩
      (repeat walk_at "s1")
      rfl
    · (repeat walk_at "s1")
      refine ⟨fun hb => ?_, fun _ => ⟨rfl, rfl⟩⟩
      have hno : ∀ row ∈ rows, 62 ∉ ldN row := fun row hrow h => by
        rw [decide_eq_true_eq, List.length_map, List.length_eq_zero_iff, List.filter_eq_nil_iff] at hb
        exact hb (sL row) (List.mem_map.mpr ⟨row, hrow, rfl⟩) (by simpa [gtP] using h)
      refine Bv.and (Bv.cmp ?_)
      (repeat walk_at "s1")
      refine Cl.mono (filled_text_spec (n := n + 2) (cs (jn [10] (dueN col tab rows))) [62] col tab ht (by simp only [cs, List.length_map]; omega) (by rw [hp.tsp, tot_cs]; omega) (by rw [hp.tsp, hp.again hno, tot_cs]; omega) (by simp) (by rw [hp.tsp]; exact hp.tokc)) ?_
      rintro _ rfl
      rw [hp.tsp, hp.again hno, jR_cs]
      (repeat walk_at "s1")
      exact ⟨_, CmpV.intsNe, fun h => by simp at h, fun _ => ⟨rfl, rfl⟩⟩
  · rintro σ rfl
    refine Exs.cons (Ex.assignCompStr (V' := ["_law_sign"]) (G' := ["ord"]) (f := ordF) ?_ ⟨rfl, by decide +kernel, by decide +kernel, by decide +kernel, by decide +kernel, by decide +kernel⟩ (by decide +kernel) (by decide +kernel) hmt (fun c _ => ordTurn (n := n + 7) rfl) (by walk_at "lk") ⟨_, by walk_at "lk", Nx.next ?_⟩)
    · have hbk : F.env.blockKind = .function := by unfold Env.blockKind; rw [hsc]; rfl
      have hy : F.env.kindOf "_law_hand" = some .local := by unfold Env.kindOf; rw [hsc]; rfl
      show (pure (F.env.blockKind == .function && F.env.kindOf "_law_hand" == some .local && _ && _) : Sem Bool) = pure true
      rw [hbk, hy]; rfl
    · rw [hand_are]
      (repeat walk_at "s1")
      refine Ev.fill (n := n + 6) (by walk_at "lk") K1 K2 K3 ?_
      (repeat walk_at "s1")
      refine ⟨_, _, _, _, rfl, ?_⟩
      (repeat walk_at "s1")
      refine Cl.mono (filled_text_spec (n := n + 2) [97, 32, 98, 10, 10, 99, 10, 100] [] 9 8 (by decide) (by decide) (by decide +kernel) (by decide +kernel) (by decide) hand_ok) ?_
      rintro _ rfl
      rw [hand_fill]
      refine Ev.compStr (V' := ["_law_sign"]) (G' := ["ord"]) ⟨rfl, by decide +kernel, by decide +kernel, by decide +kernel, by decide +kernel, by decide +kernel⟩ ?_
      refine Ev.str ⟨_, rfl, by decide +kernel, fun _ => true, ordF, fun c _ => ordTurn (n := n + 7) rfl, ?_⟩
      rw [List.filter_eq_self.mpr fun _ _ => rfl, hand_due]
      refine ⟨_, CmpV.intsEq, ?_⟩
      (repeat' first | walk_at "s1" | walk_at "sp")
      rfl
theorem law_rest {col tab : Int} {rows : List (List Nat)} {x1 x2 x3 : Option Slot} {ns : List Int} {F : Fm lawV lawG} (ht : 0 < tab ∧ tab ≤ 8) (hsc : F.env.scope = lawScope) (hmt : F.mt = []) (hp : Plain rows col tab) :
    Exs w F [] (n + 8) (lawBody.drop 3) [some (.v (iL ns)), some (.v (.int col)), some (.v (.int tab)), some (.o (rows.map sL)), x1, x2, x3, none, none, none, none, none] (Rt fun a => a = .bool true) := by
  show Exs _ _ _ _ (_ :: _ :: _ :: _ :: _ :: _ :: _ :: []) _ _
  have h1 := hp.size
  have h2 := jn10_len rows
  have h3 := tG_sum rows
  have h4 := hp.due
  have h5 := jn10_len (dueN col tab rows)
  refine Exs.cons (Ex.assign ?_)
  (repeat walk_at "s1")
  refine ⟨_, FunV.joinNl (by omega), ?_⟩
  (repeat walk_at "s1")
  refine Ex.pairV ?_ (by walk_at "lk") (by walk_at "lk") (by decide +kernel) (fun _ _ e => by cases e) (fun _ _ e => by cases e) rfl rfl
  refine Ev.compStr (V' := ["_law_sign"]) (G' := ["ord"]) ⟨rfl, by decide +kernel, by decide +kernel, by decide +kernel, by decide +kernel, by decide +kernel⟩ ?_
  refine Ev.name (by walk_at "lk") ⟨_, rfl, by simp only [Str.length, List.size_toArray]; omega, fun _ => true, ordF, fun c _ => ordTurn (n := n + 7) rfl, ?_⟩
  rw [ordF_str]
  refine Ev.fill (n := n + 6) (by walk_at "lk") K1 K2 K3 ?_
  (repeat walk_at "s1")
  refine ⟨_, _, _, _, rfl, _, _, by walk_at "lk", by walk_at "lk", Nx.next ?_⟩
  (repeat walk_at "s1")
  refine Cl.mono (filled_text_spec (n := n + 2) (cs (jn [10] rows)) [62] col tab ht (by simp only [cs, List.length_map]; omega) (by rw [hp.sp, tot_cs]; omega) (by rw [hp.sp, hp.fill, tot_cs]; exact h4) (by simp) (by rw [hp.sp]; exact hp.okc)) ?_
  rintro _ rfl
  rw [hp.sp, hp.fill, jR_cs]
  walk_at "s1"
  refine Nx.next ?_
  refine Exs.cut (fun σ => σ = lawT ns col tab rows x1 x2 x3) ?_ ?_
  · refine Ex.ifC false ?_ (fun h => nomatch h) fun _ => Exs.nil (Nx.next rfl)
    refine Bv.or (Bv.cmp (Ev.name (by walk_at "lk") (Ev.compStr (V' := ["_law_sign"]) (G' := ["ord"]) ⟨rfl, by decide +kernel, by decide +kernel, by decide +kernel, by decide +kernel, by decide +kernel⟩ ?_)))
    (repeat walk_at "s1")
    refine Cl.mono (law_due_spec (n := n + 3) (jn [10] rows) col tab ht (by omega) (by rw [hp.ln]; exact h4)) ?_
    rintro _ rfl
    rw [hp.ln]
    refine ⟨_, rfl, by simp only [Str.length, List.size_toArray]; omega, fun _ => true, ordF, fun c _ => ordTurn (n := n + 7) rfl, ?_⟩
    rw [ordF_str]
    refine ⟨_, CmpV.intsNe, fun _ => ?_, fun h => by simp at h⟩
    refine Bv.or (Bv.cmp (Ev.name (by walk_at "lk") (Ev.compStr (V' := ["_law_sign"]) (G' := ["ord"]) ⟨rfl, by decide +kernel, by decide +kernel, by decide +kernel, by decide +kernel, by decide +kernel⟩ ?_)))
    refine Ev.name (by walk_at "lk") ⟨_, rfl, by simp only [Str.length, List.size_toArray]; omega, fun _ => true, ordF, fun c _ => ordTurn (n := n + 7) rfl, ?_⟩
    rw [ordF_str]
    exact ⟨_, CmpV.intsNe, fun _ => Bv.orNil ⟨rfl, rfl⟩, fun h => by simp at h⟩
  · rintro σ rfl
    exact law_rest2 ht hsc hmt hp
end
end Fil
namespace Fil
/-- the signs of the law's rows -/
noncomputable def Al (c : Nat) : Prop := c = 9 ∨ c = 32 ∨ c = 62 ∨ (97 ≤ c ∧ c ≤ 122)
theorem leadsL_al : ∀ l ∈ leadsL, ∀ c ∈ l, Al c := by unfold Al; decide
theorem gapsL_al : ∀ l ∈ gapsL, ∀ c ∈ l, Al c := by unfold Al; decide
theorem wordsL_al : ∀ l ∈ wordsL, ∀ c ∈ l, Al c := by unfold Al; decide
theorem jn_mem (gap : List Nat) : ∀ (ws : List (List Nat)) (c : Nat), c ∈ jn gap ws → c ∈ gap ∨ ∃ x ∈ ws, c ∈ x
  | [], c, h => by simp [jn] at h
  | [a], c, h => .inr ⟨a, .head _, by simpa [jn] using h⟩
  | a :: b :: r, c, h => by
    simp only [jn, List.mem_append] at h
    rcases h with (h | h) | h
    · exact .inr ⟨a, .head _, h⟩
    · exact .inl h
    · rcases jn_mem gap (b :: r) c h with h | ⟨x, hx, h⟩
      · exact .inl h
      · exact .inr ⟨x, .tail _ hx, h⟩
theorem rowOk_al {row : List Nat} (h : RowOk row) : ∀ c ∈ row, Al c := fun c hc => by
  obtain ⟨lead, gap, ws, h1, h2, h3, h4, rfl⟩ := h
  rcases List.mem_append.mp hc with hc | hc
  · exact leadsL_al lead h1 c hc
  · rcases jn_mem gap ws c hc with hc | ⟨x, hx, hc⟩
    · exact gapsL_al gap h2 c hc
    · exact wordsL_al x (h4 x hx) c hc
theorem rowOk_len {row : List Nat} (h : RowOk row) : row.length ≤ 30 := by
  obtain ⟨lead, gap, ws, h1, h2, h3, h4, rfl⟩ := h
  have a1 := leadsL_small lead h1
  have a2 := jn_small gap ws
  have a3 := wordsOf_small ws h4
  have a4 := Nat.mul_le_mul h3 (gapsL_small gap h2)
  rw [List.length_append]; omega
theorem rows_len : ∀ {rows : List (List Nat)}, (∀ row ∈ rows, RowOk row) → tG rows ≤ 31 * rows.length
  | [], _ => by simp [tG]
  | r :: rs, h => by
    have h1 := rowOk_len (h r (.head _))
    have h2 := rows_len fun row hr => h row (.tail _ hr)
    simp only [tG, List.length_cons]; omega
/-- rows, put together and cut again -/
theorem spF_run : ∀ (r : List Int) (d : List (List Int)) (c rest : List Int), 10 ∉ r → (r ++ rest).foldl spS (d, c) = rest.foldl spS (d, c ++ r)
  | [], d, c, rest, _ => by simp
  | x :: r, d, c, rest, h => by
    have hx : ¬ x = 10 := fun e => h (by rw [e]; exact .head _)
    rw [List.cons_append, List.foldl_cons, spS, if_neg hx, spF_run r d (c ++ [x]) rest fun h2 => h (.tail _ h2)]
    simp
theorem split_jR : ∀ (L : List (List Int)) (a : List Int) (d : List (List Int)), (∀ r ∈ a :: L, 10 ∉ r) → ((jR (a :: L)).foldl spS (d, [])).1 ++ [((jR (a :: L)).foldl spS (d, [])).2] = d ++ a :: L
  | [], a, d, h => by
    have := spF_run a d [] [] (h a (.head _))
    rw [List.append_nil] at this
    rw [jR, this]; simp
  | b :: L, a, d, h => by
    have e : jR (a :: b :: L) = a ++ 10 :: jR (b :: L) := rfl
    rw [e, spF_run a d [] _ (h a (.head _)), List.foldl_cons, spS, if_pos rfl, split_jR L b _ fun r hr => h r (.tail _ hr)]
    simp
theorem splitI_jR {L : List (List Int)} (h0 : L ≠ []) (h : ∀ r ∈ L, 10 ∉ r) : splitI (jR L) = L := by
  cases L with
  | nil => exact absurd rfl h0
  | cons a L =>
    have := split_jR L a [] h
    rw [List.nil_append] at this
    rw [splitI, spF, this]
theorem splitI_cs {rows : List (List Nat)} (h0 : rows ≠ []) (h : ∀ r ∈ rows, 10 ∉ r) : splitI (cs (jn [10] rows)) = rows.map cs := by
  rw [← jR_cs]
  refine splitI_jR (by simpa using h0) fun r hr hc => ?_
  obtain ⟨row, hrow, rfl⟩ := List.mem_map.mp hr
  obtain ⟨c, hc, e⟩ := List.mem_map.mp hc
  have : c = 10 := by omega
  exact h row hrow (this ▸ hc)
theorem jn_inj10 : ∀ {a b : List (List Nat)}, (∀ r ∈ a, 10 ∉ r) → (∀ r ∈ b, 10 ∉ r) → a ≠ [] → b ≠ [] → jn [10] a = jn [10] b → a = b := fun {a b} h1 h2 h3 h4 e => by
  have e1 := splitI_cs h3 h1
  have e2 := splitI_cs h4 h2
  rw [e, e2] at e1
  have inj : ∀ x y : List Nat, cs x = cs y → x = y := fun x y e => (List.map_inj_right (fun p q h => by have h : (p : Int) = q := h; omega)).mp e
  exact (List.map_inj_right inj).mp e1.symm
theorem strs_back (l : List Str) : (l.map fun x => x.cps.toList).map (fun x => (⟨x.toArray⟩ : Str)) = l := by
  rw [List.map_map]
  exact (List.map_congr_left fun x _ => by cases x; simp).trans (List.map_id l)
theorem jn_lnN (l : List Nat) : jn [10] (lnN l) = l := by
  have h := StrLaws.join_split ⟨l.toArray⟩ "\n"
  have e := jn_str [10] (lnN l)
  rw [lnN, strs_back, show (⟨[10].toArray⟩ : Str) = "\n" from by decide +kernel, h] at e
  have := congrArg (fun x : Str => x.cps.toList) e
  simpa [lnN] using this.symm
theorem lnN_jn {rows : List (List Nat)} (h0 : rows ≠ []) (h : ∀ r ∈ rows, 10 ∉ r) : lnN (jn [10] rows) = rows := by
  refine jn_inj10 (fun r hr => ?_) h ?_ h0 (jn_lnN _)
  · obtain ⟨x, hx, rfl⟩ := List.mem_map.mp hr
    exact StrLaws.split_free ⟨(jn [10] rows).toArray⟩ 10 x hx
  · intro e
    have := split_pos ⟨(jn [10] rows).toArray⟩ "\n"
    rw [lnN, List.map_eq_nil_iff] at e
    rw [e] at this
    cases this
end Fil
namespace Fil
/-- words, beside one another -/
theorem wgo_app {c : Int} (hc : isBl c = true) (b : List Int) : ∀ (a cur : List Int), wgo cur (a ++ c :: b) = wgo cur a ++ wgo [] b
  | [], cur => by
    simp only [List.nil_append, wgo, hc, if_true]
    split <;> simp
  | x :: a, cur => by
    simp only [List.cons_append, wgo]
    split
    · split
      · exact wgo_app hc b a []
      · rw [wgo_app hc b a []]; rfl
    · exact wgo_app hc b a (cur ++ [x])
theorem wgo_blank : ∀ (a b : List Int), (∀ c ∈ a, isBl c = true) → wgo [] (a ++ b) = wgo [] b
  | [], b, _ => rfl
  | c :: a, b, h => by rw [List.cons_append, wgo_skip (h c (.head _)), wgo_blank a b fun d hd => h d (.tail _ hd)]
theorem wgo_word : ∀ (a cur : List Int), (∀ c ∈ a, isBl c = false) → cur ++ a ≠ [] → wgo cur a = [cur ++ a]
  | [], cur, _, h => by
    rw [List.append_nil] at h
    simp [wgo, h]
  | c :: a, cur, h, _ => by
    rw [wgo_more (h c (.head _)), wgo_word a (cur ++ [c]) (fun d hd => h d (.tail _ hd)) (by simp)]
    simp
/-- a word: signs that are no blanks -/
noncomputable def Wf (x : List Int) : Prop := x ≠ [] ∧ ∀ c ∈ x, isBl c = false
theorem wds_jI : ∀ (ws : List (List Int)), (∀ x ∈ ws, Wf x) → wds (jI ws) = ws
  | [], _ => rfl
  | [a], h => wgo_word a [] (h a (.head _)).2 (h a (.head _)).1
  | a :: b :: r, h => by
    have e : jI (a :: b :: r) = a ++ 32 :: jI (b :: r) := rfl
    have ih := wds_jI (b :: r) fun x hx => h x (.tail _ hx)
    rw [e, wds, wgo_app rfl, wgo_word a [] (h a (.head _)).2 (h a (.head _)).1]
    rw [wds] at ih
    rw [ih]; rfl
theorem wds_wf : ∀ (cur l : List Int), (∀ c ∈ cur, isBl c = false) → ∀ x ∈ wgo cur l, Wf x
  | cur, [], h, x, hx => by
    simp only [wgo] at hx
    split at hx
    · cases hx
    · rename_i hc
      rw [List.mem_singleton.mp hx]
      exact ⟨fun e => hc (by rw [e]; rfl), h⟩
  | cur, c :: l, h, x, hx => by
    simp only [wgo] at hx
    split at hx
    · split at hx
      · exact wds_wf [] l (fun _ h => nomatch h) x hx
      · rename_i hc
        rcases List.mem_cons.mp hx with rfl | hx
        · exact ⟨fun e => hc (by rw [e]; rfl), h⟩
        · exact wds_wf [] l (fun _ h => nomatch h) x hx
    · rename_i hb
      refine wds_wf (cur ++ [c]) l (fun d hd => ?_) x hx
      rcases List.mem_append.mp hd with hd | hd
      · exact h d hd
      · rw [List.mem_singleton.mp hd]; simpa using hb
theorem space_al {c : Nat} (h : Al c) : Unicode.isSpace c = isBl (c : Int) := by
  rcases h with rfl | rfl | rfl | h
  · decide +kernel
  · decide +kernel
  · decide +kernel
  · have e : ∀ k : Fin 26, Unicode.isSpace (97 + k.val) = false := by decide +kernel
    have := e ⟨c - 97, by omega⟩
    rw [show 97 + (⟨c - 97, by omega⟩ : Fin 26).val = c from by show 97 + (c - 97) = c; omega] at this
    rw [this]
    simp only [isBl]
    have h1 : ((c : Int) == 32) = false := by simp; omega
    have h2 : ((c : Int) == 9) = false := by simp; omega
    have h3 : ((c : Int) == 10) = false := by simp; omega
    rw [h1, h2, h3]; rfl
theorem step_a {c : Nat} {ws : List Str} {run : Str} (h : Unicode.isSpace c = true) (hr : run.length = 0) : KWd.step (ws, run) c = (ws, run) := by unfold KWd.step; rw [if_pos h, if_pos hr]
theorem step_b {c : Nat} {ws : List Str} {run : Str} (h : Unicode.isSpace c = true) (hr : ¬ run.length = 0) : KWd.step (ws, run) c = (ws ++ [run], Str.empty) := by unfold KWd.step; rw [if_pos h, if_neg hr]
theorem step_c {c : Nat} {ws : List Str} {run : Str} (h : ¬ Unicode.isSpace c = true) : KWd.step (ws, run) c = (ws, run ++ ⟨#[c]⟩) := by unfold KWd.step; rw [if_neg h]
theorem fin_a {ws : List Str} {run : Str} (hr : run.length = 0) : KWd.fin (ws, run) = ws := by unfold KWd.fin; rw [if_pos hr]
theorem fin_b {ws : List Str} {run : Str} (hr : ¬ run.length = 0) : KWd.fin (ws, run) = ws ++ [run] := by unfold KWd.fin; rw [if_neg hr]
theorem len_nil {run : Str} : run.length = 0 ↔ run.cps.toList = [] := by
  rw [← List.length_eq_zero_iff, Array.length_toList]; exact Iff.rfl
theorem scan_wgo : ∀ (l : List Nat) (ws : List Str) (run : Str), (∀ c ∈ l, Al c) → ((KWd.fin (l.foldl KWd.step (ws, run))).map fun x : Str => cs x.cps.toList) = (ws.map fun x : Str => cs x.cps.toList) ++ wgo (cs run.cps.toList) (cs l)
  | [], ws, run, _ => by
    rw [List.foldl_nil]
    by_cases h : run.length = 0
    · rw [fin_a h, len_nil.mp h]; simp [cs, wgo]
    · rw [fin_b h]
      have : ¬ run.cps = #[] := fun e => h (len_nil.mpr (by rw [e]))
      simp [cs, wgo, this]
  | c :: l, ws, run, h => by
    have hs := space_al (h c (.head _))
    have hl : ∀ d ∈ l, Al d := fun d hd => h d (.tail _ hd)
    rw [List.foldl_cons]
    by_cases hb : isBl (c : Int) = true
    · by_cases hr : run.length = 0
      · rw [step_a (hs.trans hb) hr, scan_wgo l ws run hl, len_nil.mp hr]
        simp [cs, wgo, hb]
      · rw [step_b (hs.trans hb) hr, scan_wgo l _ _ hl]
        have : ¬ run.cps = #[] := fun e => hr (len_nil.mpr (by rw [e]))
        rw [show (Str.empty).cps.toList = [] from rfl]
        simp [cs, wgo, hb, this]
    · rw [step_c (by rw [hs]; exact hb), scan_wgo l _ _ hl, Str.cps_append, Array.toList_append]
      simp [cs, wgo, hb]
theorem wds_cs {l : List Nat} (h : ∀ c ∈ l, Al c) : wds (cs l) = (wsN l).map cs := by
  have := scan_wgo l [] Str.empty h
  rw [wsN, KWd.words_scan, List.map_map]
  exact this.symm
/-- nothing but blanks and tabs -/
theorem strip_nil (goes : Nat → Bool) (x : Str) : (Txt.stripBy goes true true x).cps.toList = [] ↔ ∀ k, k < x.length → goes (x.cps.getD k 0) = true := by
  rw [PyProof.Rows.stripBy_eq, StrLaws.strSub_toList]
  obtain ⟨l1, l2, l3⟩ := lo_facts goes x
  obtain ⟨h1, h2, h3, h4⟩ := hi_facts goes x _ l1
  have hn : x.cps.toList.length = x.length := by simp [Str.length]
  constructor
  · intro e k hk
    have := congrArg List.length e
    rw [List.length_take, List.length_drop, List.length_nil] at this
    rcases Nat.lt_or_ge k (stripLo goes true x) with h | h
    · exact l2 k h
    · exact h3 k (by omega) hk
  · intro h
    refine List.length_eq_zero_iff.mp ?_
    rw [List.length_take, List.length_drop]
    rcases l3 with l3 | l3
    · omega
    · rcases Nat.lt_or_ge (stripLo goes true x) x.length with q | q
      · rw [h _ q] at l3; cases l3
      · omega
theorem blankN_cs (l : List Nat) : blankI (cs l) = blankN l := by
  rw [blankN, Bool.eq_iff_iff, decide_eq_true_eq]
  show _ ↔ (Txt.stripBy _ true true _).cps.toList = ("" : Str).cps.toList
  rw [show ("" : Str).cps.toList = [] from by decide +kernel, strip_nil, blankI, List.all_eq_true]
  have hg : ∀ c : Nat, (" \t" : Str).cps.contains c = ((c : Int) == 32 || (c : Int) == 9) := fun c => by
    have : (" \t" : Str).cps = #[32, 9] := by decide +kernel
    rw [this, Bool.eq_iff_iff]; simp; omega
  simp only [hg]
  constructor
  · intro h k hk
    have hk : k < l.length := by simpa [Str.length] using hk
    refine h _ (List.mem_map.mpr ⟨_, ?_, rfl⟩)
    rw [← getD_list]
    exact mem_getD l k 0 hk
  · intro h c hc
    obtain ⟨d, hd, rfl⟩ := List.mem_map.mp hc
    obtain ⟨k, hk, rfl⟩ := List.mem_iff_getElem.mp hd
    have := h k (by simpa [Str.length] using hk)
    simpa [Array.getD, hk] using this
end Fil
namespace Fil
theorem jI_cs : ∀ l : List (List Nat), jI (l.map cs) = cs (jn [32] l)
  | [] => rfl
  | [a] => rfl
  | a :: b :: r => by
    have ih := jI_cs (b :: r)
    simp only [List.map_cons, jI, jn] at *
    rw [ih]; simp [cs]
theorem jn_snoc_len : ∀ (own : List (List Nat)) (x : List Nat), own ≠ [] → (jn [32] (own ++ [x])).length = (jn [32] own).length + 1 + x.length
  | [], x, h => absurd rfl h
  | [a], x, _ => by simp [jn]; omega
  | a :: b :: r, x, _ => by
    have := jn_snoc_len (b :: r) x (by simp)
    simp only [List.cons_append, jn, List.length_append, List.length_cons, List.length_nil] at *
    omega
theorem rowEnd_fit (width : Int) (x : List Int) (r : List (List Int)) : rowEnd width (x :: r) = 1 + fit width (x.length + 1) r := by
  simp only [rowEnd]
  split
  · cases r with
    | nil => rfl
    | cons y r =>
      simp only [fit]
      rw [if_pos (by omega)]
  · rfl
theorem rowsF_nil (w2 : Int) (n : Nat) (w1 : Int) : rowsF w2 n w1 [] = [] := by cases n <;> rfl
/-- the law's own greedy way, against the program's -/
theorem greedy (first rest : List Nat) (col tab : Int) : ∀ (r found own : List (List Nat)) (n : Nat), own ≠ [] → r.length ≤ n →
    ((r.foldl (stW first rest col tab) (found, own)).1 ++ [(if (r.foldl (stW first rest col tab) (found, own)).1.length = 0 then first else rest) ++ jn [32] (r.foldl (stW first rest col tab) (found, own)).2]).map cs =
      found.map cs ++ (cs (if found.length = 0 then first else rest) ++ jI ((own ++ r.take (fit (col - wide tab 0 (cs (if found.length = 0 then first else rest))) ((jn [32] own).length + 1) (r.map cs))).map cs)) ::
        (rowsF (col - wide tab 0 (cs rest)) n (col - wide tab 0 (cs rest)) ((r.drop (fit (col - wide tab 0 (cs (if found.length = 0 then first else rest))) ((jn [32] own).length + 1) (r.map cs))).map cs)).map (fun p => cs rest ++ jI p)
  | [], found, own, n, _, _ => by
    simp only [List.foldl_nil, List.map_nil, fit, List.take_zero, List.drop_zero, List.append_nil, rowsF_nil, jI_cs]
    simp [cs]
  | x :: r, found, own, n, ho, hn => by
    rw [List.foldl_cons]
    have hlen := jn_snoc_len own x ho
    have hol : ¬ own.length = 0 := fun e => ho (List.length_eq_zero_iff.mp e)
    have hcl : (cs x).length = x.length := List.length_map ..
    by_cases hroom : col - wide tab 0 (cs (if found.length = 0 then first else rest)) < (((jn [32] own).length + 1 + x.length : Nat) : Int)
    · have hst : stW first rest col tab (found, own) x = (found ++ [(if found.length = 0 then first else rest) ++ jn [32] own], [x]) := by
        unfold stW
        rw [if_pos]
        simp only [hol, decide_false, Bool.not_false, Bool.true_and, decide_eq_true_eq]
        rw [hlen]; exact hroom
      have hfit : fit (col - wide tab 0 (cs (if found.length = 0 then first else rest))) (((jn [32] own).length : Int) + 1) (List.map cs (x :: r)) = 0 := by
        rw [List.map_cons, fit, if_pos (by rw [hcl]; omega)]
      obtain ⟨m, rfl⟩ : ∃ m, n = m + 1 := ⟨n - 1, by simp only [List.length_cons] at hn; omega⟩
      have ih := greedy first rest col tab r (found ++ [(if found.length = 0 then first else rest) ++ jn [32] own]) [x] m (by simp) (by simp only [List.length_cons] at hn; omega)
      rw [hst, ih, hfit]
      have hf : ¬ (found ++ [(if found.length = 0 then first else rest) ++ jn [32] own]).length = 0 := by simp
      simp only [hf, if_false]
      rw [List.take_zero, List.append_nil, List.drop_zero, List.map_cons, rowsF, rowEnd_fit]
      rw [show (cs x :: List.map cs r) = List.map cs (x :: r) from rfl, ← List.map_take, ← List.map_drop, hcl]
      rw [show (jn [32] [x]).length = x.length from rfl, jI_cs own, Nat.add_comm 1]
      simp only [List.take_succ_cons, List.drop_succ_cons]
      simp [cs]
    · have hst : stW first rest col tab (found, own) x = (found, own ++ [x]) := by
        unfold stW
        rw [if_neg]
        simp only [hol, decide_false, Bool.not_false, Bool.true_and, decide_eq_true_eq]
        rw [hlen]; exact hroom
      have hfit : fit (col - wide tab 0 (cs (if found.length = 0 then first else rest))) (((jn [32] own).length : Int) + 1) (List.map cs (x :: r)) = 1 + fit (col - wide tab 0 (cs (if found.length = 0 then first else rest))) (((jn [32] (own ++ [x])).length : Int) + 1) (List.map cs r) := by
        rw [List.map_cons, fit, if_neg (by rw [hcl]; omega), hlen, hcl]
        congr 2
      have ih := greedy first rest col tab r found (own ++ [x]) n (by simp) (by simp only [List.length_cons] at hn; omega)
      rw [hst, ih, hfit, Nat.add_comm 1]
      simp only [List.take_succ_cons, List.drop_succ_cons, List.append_assoc, List.singleton_append]
theorem wrapW_cs (first rest : List Nat) (col tab : Int) (W : List (List Nat)) (h : W ≠ []) :
    (wrapW first rest col tab W).map cs = glueP (cs first) (cs rest) (rowsOf (col - wide tab 0 (cs first)) (col - wide tab 0 (cs rest)) (W.map cs)) := by
  cases W with
  | nil => exact absurd rfl h
  | cons x r =>
    have hst : stW first rest col tab ([], []) x = ([], [x]) := by
      unfold stW
      rw [if_neg (by simp)]; rfl
    have g := greedy first rest col tab r [] [x] r.length (by simp) (Nat.le_refl _)
    have hcl : (cs x).length = x.length := List.length_map ..
    unfold wrapW
    rw [List.foldl_cons, hst, g]
    simp only [List.length_nil, if_true, List.map_nil, List.nil_append]
    rw [rowsOf, List.map_cons, List.length_cons, List.length_map, rowsF, rowEnd_fit, glueP]
    rw [show (cs x :: List.map cs r) = List.map cs (x :: r) from rfl, ← List.map_take, ← List.map_drop, hcl, Nat.add_comm 1]
    rw [show (jn [32] [x]).length = x.length from rfl]
    simp only [List.take_succ_cons, List.drop_succ_cons, List.singleton_append]
/-- leads -/
theorem leadI_cs (r : List Nat) : leadI [62] (cs r) = cs (ldN r) := by
  have h : ∀ c : Nat, isLead [62] (c : Int) = isLd c := fun c => by
    rw [Bool.eq_iff_iff]; simp [isLead, isLd]; omega
  induction r with
  | nil => rfl
  | cons c r ih =>
    simp only [leadI, ldN, cs, List.map_cons, List.takeWhile_cons, h] at *
    split
    · rw [ih]; rfl
    · rfl
theorem restI_cs (r0 : List Nat) (rs : List (List Nat)) : restI [62] (cs r0) (rs.map cs) = cs (restN r0 rs) := by
  cases rs with
  | nil =>
    rw [restN, if_pos rfl, List.map_nil, restI, leadI_cs, blankN_cs]
    split <;> rfl
  | cons r1 rs =>
    rw [restN, if_neg (by simp), List.map_cons, restI, sharedN, leadI_cs]
    have : ∀ (rs : List (List Nat)) (f : List Nat), (rs.map cs).foldl (fun f row => cst f (leadI [62] row)) (cs f) = cs (rs.foldl (fun f row => cstN f (ldN row)) f) := by
      intro rs
      induction rs with
      | nil => intro f; rfl
      | cons r rs ih => intro f; rw [List.map_cons, List.foldl_cons, List.foldl_cons, leadI_cs, ← cs_cst, ih]
    exact this rs (ldN r1)
/-- words of a paragraph -/
theorem wds_flat (k : Nat) : ∀ (rs : List (List Int)) (a : List Int), wds (a ++ (rs.map fun row => 10 :: row.drop k).flatten) = wds a ++ (rs.map fun row => wds (row.drop k)).flatten
  | [], a => by simp
  | r :: rs, a => by
    rw [List.map_cons, List.flatten_cons, List.cons_append, wds, wgo_app rfl]
    have := wds_flat k rs (r.drop k)
    rw [wds] at this
    rw [this, List.map_cons, List.flatten_cons]
theorem words_cs (first rest r0 : List Nat) (rs : List (List Nat)) (h : ∀ r ∈ r0 :: rs, ∀ c ∈ r, Al c) : wds (wordsI (cs first) (cs rest) (cs r0) (rs.map cs)) = (wordsN first rest r0 rs).map cs := by
  have e : ∀ (k : Nat) (r : List Nat), (∀ c ∈ r, Al c) → wds ((cs r).drop k) = (wsN (r.drop k)).map cs := fun k r hr => by
    rw [cs, ← List.map_drop]; exact wds_cs fun c hc => hr c (List.mem_of_mem_drop hc)
  have l1 : (cs first).length = first.length := List.length_map ..
  have l2 : (cs rest).length = rest.length := List.length_map ..
  rw [wordsI, wds_flat, l1, l2, e _ r0 (h r0 (.head _)), wordsN, List.map_append, List.map_flatten, List.map_map, List.map_map]
  congr 2
  exact List.map_congr_left fun r hr => e _ r (h r (.tail _ hr))
theorem wgo_ne : ∀ (l cur : List Int), cur ≠ [] → wgo cur l ≠ []
  | [], cur, h => by simp [wgo, h]
  | c :: l, cur, h => by
    simp only [wgo]
    split
    · have : cur.isEmpty = false := by simpa using h
      rw [this]; simp
    · exact wgo_ne l _ (by simp)
theorem dropLead {p : Nat → Bool} : ∀ (l : List Nat), l.takeWhile p ≠ l → ∃ c t, l.drop (l.takeWhile p).length = c :: t ∧ p c = false
  | [], h => absurd rfl h
  | c :: l, h => by
    rw [List.takeWhile_cons] at h ⊢
    by_cases hc : p c = true
    · rw [if_pos hc] at h ⊢
      obtain ⟨d, t, e, hd⟩ := dropLead l fun q => h (by rw [q])
      exact ⟨d, t, by rw [List.length_cons, List.drop_succ_cons, e], hd⟩
    · rw [if_neg hc]
      exact ⟨c, l, rfl, by simpa using hc⟩
theorem bl_of_ld {c : Nat} (h : isLd c = false) (ha : Al c) : isBl (c : Int) = false := by
  rcases ha with rfl | rfl | rfl | ha
  · cases h
  · cases h
  · cases h
  · simp only [isBl]
    have h1 : ((c : Int) == 32) = false := by simp; omega
    have h2 : ((c : Int) == 9) = false := by simp; omega
    have h3 : ((c : Int) == 10) = false := by simp; omega
    rw [h1, h2, h3]; rfl
theorem words_ne (rest r0 : List Nat) (rs : List (List Nat)) (h : ∀ c ∈ r0, Al c) (hl : ldN r0 ≠ r0) : wordsN (ldN r0) rest r0 rs ≠ [] := by
  obtain ⟨c, t, e, hc⟩ := dropLead r0 hl
  intro q
  have q1 := (List.append_eq_nil_iff.mp q).1
  rw [e] at q1
  have hm : ∀ d ∈ c :: t, Al d := fun d hd => h d (List.mem_of_mem_drop (e ▸ hd))
  have w := wds_cs hm
  rw [q1, List.map_nil] at w
  rw [show cs (c :: t) = (c : Int) :: cs t from rfl, wds, wgo_more (bl_of_ld hc (hm c (.head _)))] at w
  exact wgo_ne _ _ (by simp) w
/-- a paragraph, filled -/
theorem fillP_cs (col tab : Int) (para : List (List Nat)) (h : ∀ r ∈ para, (∀ c ∈ r, Al c) ∧ ldN r ≠ r) : fillP [62] col tab (para.map cs) = (wrapN col tab para).map cs := by
  cases para with
  | nil => rfl
  | cons r0 rs =>
    rw [List.map_cons, fillP, wrapN, leadI_cs, restI_cs, words_cs _ _ _ _ fun r hr => (h r hr).1]
    rw [wrapW_cs _ _ _ _ _ (words_ne _ _ _ (h r0 (.head _)).1 (h r0 (.head _)).2)]
end Fil
namespace Fil
noncomputable def GoodN (r : List Nat) : Prop := (∀ c ∈ r, Al c) ∧ ldN r ≠ r
theorem allLead_cs (r : List Nat) : allLead [62] (cs r) = decide (ldN r = r) := by
  have l1 : ∀ l : List Nat, (cs l).length = l.length := fun l => List.length_map ..
  rw [allLead, leadI_cs, l1, l1, Bool.eq_iff_iff, beq_iff_eq, decide_eq_true_eq]
  constructor
  · exact fun e => (List.takeWhile_prefix isLd).eq_of_length e
  · exact fun e => congrArg List.length e
theorem fold_cs (col tab : Int) : ∀ (rows s1 s2 : List (List Nat)), (∀ r ∈ rows, ∀ c ∈ r, Al c) → (∀ r ∈ s2, GoodN r) →
    (rows.map cs).foldl (stT [62] col tab) (s1.map cs, s2.map cs) = ((rows.foldl (stD col tab) (s1, s2)).1.map cs, (rows.foldl (stD col tab) (s1, s2)).2.map cs) ∧ ∀ r ∈ (rows.foldl (stD col tab) (s1, s2)).2, GoodN r
  | [], s1, s2, _, h2 => ⟨rfl, h2⟩
  | r :: rows, s1, s2, h1, h2 => by
    rw [List.map_cons, List.foldl_cons, List.foldl_cons]
    have h1' : ∀ r ∈ rows, ∀ c ∈ r, Al c := fun q hq => h1 q (.tail _ hq)
    by_cases hl : ldN r = r
    · have e1 : stT [62] col tab (s1.map cs, s2.map cs) (cs r) = ((s1 ++ wrapN col tab s2 ++ [r]).map cs, ([] : List (List Nat)).map cs) := by
        rw [stT, if_pos (by rw [allLead_cs, decide_eq_true_eq]; exact hl), fillP_cs _ _ _ h2]
        simp
      have e2 : stD col tab (s1, s2) r = (s1 ++ wrapN col tab s2 ++ [r], []) := by
        rw [stD, if_neg (by simp [hl])]
      rw [e1, e2]
      exact fold_cs col tab rows _ [] h1' fun _ h => nomatch h
    · have e1 : stT [62] col tab (s1.map cs, s2.map cs) (cs r) = (s1.map cs, (s2 ++ [r]).map cs) := by
        rw [stT, if_neg (by rw [allLead_cs, decide_eq_true_eq]; exact hl)]
        simp
      have e2 : stD col tab (s1, s2) r = (s1, s2 ++ [r]) := by
        rw [stD, if_pos (by simp [hl])]
      rw [e1, e2]
      refine fold_cs col tab rows _ _ h1' fun q hq => ?_
      rcases List.mem_append.mp hq with hq | hq
      · exact h2 q hq
      · rw [List.mem_singleton.mp hq]; exact ⟨h1 r (.head _), hl⟩
theorem fillRows_cs (col tab : Int) (rows : List (List Nat)) (h : ∀ r ∈ rows, ∀ c ∈ r, Al c) : fillRows [62] col tab (rows.map cs) = (dueN col tab rows).map cs := by
  obtain ⟨e, g⟩ := fold_cs col tab rows [] [] h fun _ h => nomatch h
  rw [List.map_nil] at e
  rw [fillRows, fillS, dueN, dueS, e, List.map_append, fillP_cs _ _ _ g]
/-- the rows of a paragraph, all of them -/
theorem rowsF_flat (w2 : Int) : ∀ (n : Nat) (w1 : Int) (l : List (List Int)), l.length ≤ n → (rowsF w2 n w1 l).flatten = l
  | 0, w1, l, h => by
    have : l = [] := List.length_eq_zero_iff.mp (by omega)
    subst this; rfl
  | n + 1, w1, [], _ => rfl
  | n + 1, w1, x :: r, h => by
    have hp := rowEnd_pos w1 x r
    rw [rowsF, List.flatten_cons, rowsF_flat w2 n w2 _ (by rw [List.length_drop]; simp only [List.length_cons] at *; omega), List.take_append_drop]
theorem rowsF_ne (w2 : Int) : ∀ (n : Nat) (w1 : Int) (l : List (List Int)), ∀ p ∈ rowsF w2 n w1 l, p ≠ []
  | 0, w1, l, p, h => nomatch h
  | n + 1, w1, [], p, h => nomatch h
  | n + 1, w1, x :: r, p, h => by
    rw [rowsF] at h
    rcases List.mem_cons.mp h with rfl | h
    · have hp := rowEnd_pos w1 x r
      intro e
      rw [List.take_eq_nil_iff] at e
      rcases e with e | e
      · omega
      · cases e
    · exact rowsF_ne w2 n w2 _ p h
theorem rowsOf_flat (w1 w2 : Int) (l : List (List Int)) : (rowsOf w1 w2 l).flatten = l := rowsF_flat _ _ _ _ (Nat.le_refl _)
theorem rowsOf_ne (w1 w2 : Int) (l : List (List Int)) : ∀ p ∈ rowsOf w1 w2 l, p ≠ [] := rowsF_ne _ _ _ _
/-- how long -/
theorem tot_app : ∀ a b : List (List Int), tot (a ++ b) = tot a + tot b
  | [], b => by simp [tot]
  | x :: a, b => by simp only [List.cons_append, tot, tot_app a b]; omega
theorem wordsI_len1 (first rest r0 : List Int) : ∀ rs : List (List Int), (wordsI first rest r0 rs).length + 1 ≤ tot (r0 :: rs)
  | [] => by simp [wordsI, tot]
  | r :: rs => by
    have := wordsI_len1 first rest r0 rs
    simp only [wordsI, tot, List.map_cons, List.flatten_cons, List.length_append, List.length_cons, List.length_drop] at *; omega
theorem glue_tot (M : Nat) (first rest : List Int) (hf : first.length ≤ M) (hr : rest.length ≤ M) : ∀ (parts : List (List (List Int))), (∀ p ∈ parts, p ≠ []) → tot (glueP first rest parts) ≤ tot parts.flatten * (M + 2) := by
  have one : ∀ (l : List Int) (p : List (List Int)), l.length ≤ M → p ≠ [] → (l ++ jI p).length + 1 ≤ tot p * (M + 2) := fun l p hl hp => by
    have h1 := jI_tot p
    have h2 : 1 ≤ tot p := by
      cases p with
      | nil => exact absurd rfl hp
      | cons x p => simp only [tot]; omega
    have h3 : tot p * (M + 2) = tot p * M + 2 * tot p := by rw [Nat.mul_add]; omega
    have h4 : M ≤ tot p * M := Nat.le_mul_of_pos_left M h2
    rw [List.length_append]; omega
  have many : ∀ parts : List (List (List Int)), (∀ p ∈ parts, p ≠ []) → tot (parts.map fun q => rest ++ jI q) ≤ tot parts.flatten * (M + 2) := by
    intro parts
    induction parts with
    | nil => intro _; simp [tot]
    | cons p ps ih =>
      intro h
      have h1 := one rest p hr (h p (.head _))
      have h2 := ih fun q hq => h q (.tail _ hq)
      rw [List.flatten_cons, tot_app, Nat.add_mul, List.map_cons, tot]; omega
  intro parts h
  cases parts with
  | nil => simp [glueP, tot]
  | cons p ps =>
    have h1 := one first p hf (h p (.head _))
    have h2 := many ps fun q hq => h q (.tail _ hq)
    rw [List.flatten_cons, tot_app, Nat.add_mul, glueP, tot]; omega
theorem fillP_tot (M : Nat) (col tab : Int) (para : List (List Int)) (h : tot para ≤ M) : tot (fillP [62] col tab para) ≤ tot para * (M + 2) := by
  cases para with
  | nil => simp [fillP, tot]
  | cons r0 rs =>
    have h1 := leadI_le [62] r0
    have h2 := restI_le [62] r0 rs
    have h3 := tot_mem (l := r0 :: rs) (x := r0) (.head _)
    have h4 := wordsI_len1 (leadI [62] r0) (restI [62] r0 rs) r0 rs
    have h5 := wgo_tot [] (wordsI (leadI [62] r0) (restI [62] r0 rs) r0 rs)
    rw [fillP]
    refine Nat.le_trans (glue_tot M _ _ (by omega) (by omega) _ (rowsOf_ne _ _ _)) (Nat.mul_le_mul_right _ ?_)
    rw [rowsOf_flat]
    simp only [List.length_nil] at h5
    show tot (wgo [] _) ≤ _
    omega
theorem fillS_tot (M : Nat) (col tab : Int) : ∀ (rows s1 s2 : List (List Int)), tot s2 + tot rows ≤ M → tot (rows.foldl (stT [62] col tab) (s1, s2)).1 + tot (rows.foldl (stT [62] col tab) (s1, s2)).2 * (M + 2) ≤ tot s1 + (tot s2 + tot rows) * (M + 2) ∧ tot (rows.foldl (stT [62] col tab) (s1, s2)).2 ≤ M
  | [], s1, s2, h => by simp only [List.foldl_nil, tot] at *; exact ⟨by simp, by omega⟩
  | r :: rows, s1, s2, h => by
    simp only [tot] at h
    rw [List.foldl_cons, stT]
    split
    · have ih := fillS_tot M col tab rows (s1 ++ fillP [62] col tab s2 ++ [r]) [] (by simp only [tot]; omega)
      have hp := fillP_tot M col tab s2 (by omega)
      refine ⟨Nat.le_trans ih.1 ?_, ih.2⟩
      simp only [tot_app, tot, Nat.zero_add, Nat.add_zero]
      have : (tot s2 + (r.length + 1 + tot rows)) * (M + 2) = tot s2 * (M + 2) + (r.length + 1) * (M + 2) + tot rows * (M + 2) := by rw [Nat.add_mul, Nat.add_mul]; omega
      have h2 : r.length + 1 ≤ (r.length + 1) * (M + 2) := Nat.le_mul_of_pos_right _ (by omega)
      omega
    · have ih := fillS_tot M col tab rows s1 (s2 ++ [r]) (by simp only [tot_app, tot]; omega)
      refine ⟨Nat.le_trans ih.1 (Nat.le_of_eq ?_), ih.2⟩
      simp only [tot_app, tot, Nat.add_zero]
      congr 2; omega
theorem fillRows_tot (col tab : Int) (rows : List (List Int)) : tot (fillRows [62] col tab rows) ≤ tot rows * (tot rows + 2) := by
  have h := fillS_tot (tot rows) col tab rows [] [] (by simp [tot])
  rw [fillRows, fillS, tot_app]
  have hp := fillP_tot (tot rows) col tab _ h.2
  have h1 := h.1
  simp only [tot, Nat.zero_add] at h1
  omega
/-- what stands in the rows -/
noncomputable def AlI (c : Int) : Prop := ∃ d : Nat, Al d ∧ c = d
theorem wgo_from : ∀ (cur l : List Int) (x : List Int), x ∈ wgo cur l → ∀ c ∈ x, c ∈ cur ∨ c ∈ l := fun cur l x hx => (wgo_mem cur l x hx).2
theorem jI_from : ∀ (ws : List (List Int)) (c : Int), c ∈ jI ws → c = 32 ∨ ∃ x ∈ ws, c ∈ x
  | [], c, h => nomatch h
  | [a], c, h => .inr ⟨a, .head _, h⟩
  | a :: b :: r, c, h => by
    rcases List.mem_append.mp h with h | h
    · exact .inr ⟨a, .head _, h⟩
    · rcases List.mem_cons.mp h with h | h
      · exact .inl h
      · rcases jI_from (b :: r) c h with h | ⟨x, hx, h⟩
        · exact .inl h
        · exact .inr ⟨x, .tail _ hx, h⟩
theorem cst_mem : ∀ (a b : List Int) (c : Int), c ∈ cst a b → c ∈ a
  | [], b, c, h => by cases b <;> simp [cst] at h
  | x :: a, [], c, h => by simp [cst] at h
  | x :: a, y :: b, c, h => by
    simp only [cst] at h
    split at h
    · rcases List.mem_cons.mp h with rfl | h
      · exact .head _
      · exact .tail _ (cst_mem a b c h)
    · cases h
theorem foldC_mem : ∀ (rs : List (List Int)) (f : List Int) (c : Int), c ∈ rs.foldl (fun f row => cst f (leadI [62] row)) f → c ∈ f
  | [], f, c, h => h
  | r :: rs, f, c, h => cst_mem _ _ c (foldC_mem rs _ c h)
theorem leadI_mem (r : List Int) (c : Int) (h : c ∈ leadI [62] r) : c ∈ r := (List.takeWhile_sublist _).subset h
theorem restI_mem (r0 : List Int) (rs : List (List Int)) (c : Int) (h : c ∈ restI [62] r0 rs) : ∃ r ∈ r0 :: rs, c ∈ leadI [62] r := by
  cases rs with
  | nil =>
    simp only [restI] at h
    split at h
    · exact ⟨r0, .head _, h⟩
    · cases h
  | cons r1 rs => exact ⟨r1, .tail _ (.head _), foldC_mem rs _ c h⟩
theorem glue_mem (first rest : List Int) (parts : List (List (List Int))) (row : List Int) (h : row ∈ glueP first rest parts) : ∃ p ∈ parts, row = first ++ jI p ∨ row = rest ++ jI p := by
  cases parts with
  | nil => cases h
  | cons p ps =>
    rw [glueP] at h
    rcases List.mem_cons.mp h with rfl | h
    · exact ⟨p, .head _, .inl rfl⟩
    · obtain ⟨q, hq, rfl⟩ := List.mem_map.mp h
      exact ⟨q, .tail _ hq, .inr rfl⟩
theorem fillP_al (col tab : Int) (para : List (List Int)) (h : ∀ r ∈ para, ∀ c ∈ r, AlI c) : ∀ row ∈ fillP [62] col tab para, ∀ c ∈ row, AlI c := by
  cases para with
  | nil => intro row hr; cases hr
  | cons r0 rs =>
    intro row hr c hc
    obtain ⟨p, hp, e⟩ := glue_mem _ _ _ _ hr
    have lead : ∀ r ∈ r0 :: rs, ∀ c ∈ leadI [62] r, AlI c := fun r hr c hc => h r hr c (leadI_mem r c hc)
    have words : ∀ c ∈ jI p, AlI c := fun c hc => by
      rcases jI_from p c hc with rfl | ⟨x, hx, hc⟩
      · exact ⟨32, .inr (.inl rfl), rfl⟩
      · have hx' : x ∈ wds (wordsI (leadI [62] r0) (restI [62] r0 rs) r0 rs) := by
          rw [← rowsOf_flat (col - wide tab 0 (leadI [62] r0)) (col - wide tab 0 (restI [62] r0 rs)) (wds _)]
          exact List.mem_flatten.mpr ⟨p, hp, hx⟩
        have hb := (wds_wf [] _ (fun _ h => nomatch h) x hx').2 c hc
        rcases wgo_from [] _ x hx' c hc with q | q
        · cases q
        · rcases wordsI_mem _ _ _ _ _ q with rfl | ⟨r, hr, hc⟩
          · cases hb
          · exact h r hr c hc
    rcases e with rfl | rfl
    · rcases List.mem_append.mp hc with hc | hc
      · exact lead r0 (.head _) c hc
      · exact words c hc
    · rcases List.mem_append.mp hc with hc | hc
      · obtain ⟨r, hr, hc⟩ := restI_mem _ _ _ hc
        exact lead r hr c hc
      · exact words c hc
theorem fillS_al (col tab : Int) : ∀ (rows s1 s2 : List (List Int)), (∀ r ∈ rows, ∀ c ∈ r, AlI c) → (∀ r ∈ s1, ∀ c ∈ r, AlI c) → (∀ r ∈ s2, ∀ c ∈ r, AlI c) →
    (∀ r ∈ (rows.foldl (stT [62] col tab) (s1, s2)).1, ∀ c ∈ r, AlI c) ∧ ∀ r ∈ (rows.foldl (stT [62] col tab) (s1, s2)).2, ∀ c ∈ r, AlI c
  | [], s1, s2, _, h1, h2 => ⟨h1, h2⟩
  | r :: rows, s1, s2, h, h1, h2 => by
    have h' : ∀ r ∈ rows, ∀ c ∈ r, AlI c := fun q hq => h q (.tail _ hq)
    rw [List.foldl_cons, stT]
    split
    · refine fillS_al col tab rows _ _ h' (fun q hq => ?_) fun _ h => nomatch h
      rcases List.mem_append.mp hq with hq | hq
      · rcases List.mem_append.mp hq with hq | hq
        · exact h1 q hq
        · exact fillP_al col tab s2 h2 q hq
      · rw [List.mem_singleton.mp hq]; exact h r (.head _)
    · refine fillS_al col tab rows _ _ h' h1 fun q hq => ?_
      rcases List.mem_append.mp hq with hq | hq
      · exact h2 q hq
      · rw [List.mem_singleton.mp hq]; exact h r (.head _)
theorem fillRows_al (col tab : Int) (rows : List (List Int)) (h : ∀ r ∈ rows, ∀ c ∈ r, AlI c) : ∀ r ∈ fillRows [62] col tab rows, ∀ c ∈ r, AlI c := by
  obtain ⟨h1, h2⟩ := fillS_al col tab rows [] [] h (fun _ h => nomatch h) (fun _ h => nomatch h)
  intro r hr
  rcases List.mem_append.mp hr with hr | hr
  · exact h1 r hr
  · exact fillP_al col tab _ h2 r hr
theorem okc_al {r : List Int} (h : ∀ c ∈ r, AlI c) : Okc r := fun c hc hb => by
  obtain ⟨d, hd, rfl⟩ := h c hc
  rcases hd with rfl | rfl | rfl | hd
  · cases hb
  · cases hb
  · rfl
  · have e : ∀ k : Fin 26, Pl (((97 + k.val : Nat)) : Int) = true := by decide +kernel
    have := e ⟨d - 97, by omega⟩
    rw [show 97 + (⟨d - 97, by omega⟩ : Fin 26).val = d from by show 97 + (d - 97) = d; omega] at this
    exact this
theorem al_no10 {r : List Nat} (h : ∀ c ∈ cs r, AlI c) : 10 ∉ r := fun hc => by
  obtain ⟨d, hd, e⟩ := h 10 (List.mem_map.mpr ⟨10, hc, rfl⟩)
  have : d = 10 := by omega
  subst this
  rcases hd with hd | hd | hd | hd <;> omega
theorem dueN_ne (col tab : Int) (rows : List (List Nat)) (h : rows ≠ []) : dueN col tab rows ≠ [] := by
  have wr : ∀ para : List (List Nat), para ≠ [] → wrapN col tab para ≠ [] := fun para hp => by
    cases para with
    | nil => exact absurd rfl hp
    | cons r0 rs => simp [wrapN, wrapW]
  obtain ⟨ini, x, rfl⟩ : ∃ ini x, rows = ini ++ [x] := ⟨_, _, (List.dropLast_concat_getLast h).symm⟩
  rw [dueN, dueS_snoc]
  generalize dueS col tab ini = s
  rw [stD]
  split
  · intro e
    exact wr _ (by simp) (List.append_eq_nil_iff.mp e).2
  · simp
end Fil
namespace Fil
/-- a row whose lead is blank and whose words begin with no lead's sign -/
structure GI (r : List Int) : Prop where
  al : ∀ c ∈ r, AlI c
  bl : ∀ c ∈ leadI [62] r, isBl c = true
  hd : ∀ x ∈ wds r, isLead [62] (x.headD 0) = false
/-- a word of such a row -/
noncomputable def Gw (x : List Int) : Prop := Wf x ∧ isLead [62] (x.headD 0) = false
theorem cst_le2 (a b : List Int) : (cst a b).length ≤ b.length := by
  induction a generalizing b with
  | nil => cases b <;> simp [cst]
  | cons x l ih =>
    cases b with
    | nil => simp [cst]
    | cons y m => simp only [cst]; split <;> simp [ih]
theorem foldC_le_row : ∀ (rs : List (List Int)) (f : List Int), ∀ row ∈ rs, (rs.foldl (fun f row => cst f (leadI [62] row)) f).length ≤ (leadI [62] row).length
  | r :: rs, f, row, h => by
    rw [List.foldl_cons]
    rcases List.mem_cons.mp h with rfl | h
    · exact Nat.le_trans (foldC_le [62] rs _) (cst_le2 _ _)
    · exact foldC_le_row rs _ row h
theorem restI_le_row (r0 : List Int) (rs : List (List Int)) : ∀ row ∈ rs, (restI [62] r0 rs).length ≤ (leadI [62] row).length := fun row h => by
  cases rs with
  | nil => cases h
  | cons r1 rs =>
    rw [restI]
    rcases List.mem_cons.mp h with rfl | h
    · exact foldC_le [62] rs _
    · exact foldC_le_row rs _ row h
theorem wds_dropLead (r : List Int) (k : Nat) (hk : k ≤ (leadI [62] r).length) (hb : ∀ c ∈ leadI [62] r, isBl c = true) : wds (r.drop k) = wds r := by
  have hp : leadI [62] r <+: r := List.takeWhile_prefix _
  obtain ⟨t, ht⟩ := hp
  have e : r.take k = (leadI [62] r).take k := by
    conv => lhs; rw [← ht]
    rw [List.take_append_of_le_length hk]
  conv => rhs; rw [← List.take_append_drop k r]
  rw [wds, wds, wgo_blank (r.take k) _ fun c hc => hb c (List.mem_of_mem_take (e ▸ hc))]
theorem leadI_is (r : List Int) : ∀ c ∈ leadI [62] r, isLead [62] c = true := fun c hc => List.all_eq_true.mp (List.all_takeWhile (l := r)) c hc
theorem jI_head (p : List (List Int)) (hp : p ≠ []) (hw : ∀ x ∈ p, Gw x) : ∃ c t, jI p = c :: t ∧ isLead [62] c = false := by
  have one : ∀ x : List Int, Gw x → ∃ c t, x = c :: t ∧ isLead [62] c = false := fun x hx => by
    cases x with
    | nil => exact absurd rfl hx.1.1
    | cons c t => exact ⟨c, t, rfl, hx.2⟩
  cases p with
  | nil => exact absurd rfl hp
  | cons x r =>
    obtain ⟨c, t, rfl, hc⟩ := one x (hw x (.head _))
    cases r with
    | nil => exact ⟨c, t, rfl, hc⟩
    | cons y r => exact ⟨c, t ++ 32 :: jI (y :: r), rfl, hc⟩
theorem takeWhile_lead : ∀ (l : List Int) (c : Int) (t : List Int), (∀ d ∈ l, isLead [62] d = true) → isLead [62] c = false → leadI [62] (l ++ c :: t) = l
  | [], c, t, _, hc => by simp [leadI, List.takeWhile_cons, hc]
  | d :: l, c, t, h, hc => by
    have := takeWhile_lead l c t (fun e he => h e (.tail _ he)) hc
    rw [leadI] at this ⊢
    rw [List.cons_append, List.takeWhile_cons, if_pos (h d (.head _)), this]
theorem leadI_glue (l : List Int) (p : List (List Int)) (hl : ∀ d ∈ l, isLead [62] d = true) (hp : p ≠ []) (hw : ∀ x ∈ p, Gw x) : leadI [62] (l ++ jI p) = l := by
  obtain ⟨c, t, e, hc⟩ := jI_head p hp hw
  rw [e]; exact takeWhile_lead l c t hl hc
theorem notLead_glue (l : List Int) (p : List (List Int)) (hl : ∀ d ∈ l, isLead [62] d = true) (hp : p ≠ []) (hw : ∀ x ∈ p, Gw x) : allLead [62] (l ++ jI p) = false := by
  rw [allLead, leadI_glue l p hl hp hw]
  obtain ⟨c, t, e, hc⟩ := jI_head p hp hw
  rw [e]
  rw [Bool.eq_false_iff]
  intro h
  rw [beq_iff_eq, List.length_append, List.length_cons] at h
  omega
theorem cst_self : ∀ a : List Int, cst a a = a
  | [] => rfl
  | x :: a => by simp [cst, cst_self a]
/-- a paragraph's words -/
theorem para_words (r0 : List Int) (rs : List (List Int)) (h : ∀ r ∈ r0 :: rs, GI r) : ∀ x ∈ wds (wordsI (leadI [62] r0) (restI [62] r0 rs) r0 rs), Gw x := fun x hx => by
  refine ⟨wds_wf [] _ (fun _ h => nomatch h) x hx, ?_⟩
  rw [wordsI, wds_flat, wds_dropLead r0 _ (Nat.le_refl _) (h r0 (.head _)).bl] at hx
  rcases List.mem_append.mp hx with hx | hx
  · exact (h r0 (.head _)).hd x hx
  · obtain ⟨l, hl, hx⟩ := List.mem_flatten.mp hx
    obtain ⟨row, hr, rfl⟩ := List.mem_map.mp hl
    have g := h row (.tail _ hr)
    rw [wds_dropLead row _ (restI_le_row r0 rs row hr) g.bl] at hx
    exact g.hd x hx
theorem dropLeadI {p : Int → Bool} : ∀ (l : List Int), (l.takeWhile p).length ≠ l.length → ∃ c t, l.drop (l.takeWhile p).length = c :: t ∧ p c = false
  | [], h => absurd rfl h
  | c :: l, h => by
    rw [List.takeWhile_cons] at h ⊢
    by_cases hc : p c = true
    · rw [if_pos hc] at h ⊢
      obtain ⟨d, t, e, hd⟩ := dropLeadI l fun q => h (by rw [List.length_cons, List.length_cons, q])
      exact ⟨d, t, by rw [List.length_cons, List.drop_succ_cons, e], hd⟩
    · rw [if_neg hc]
      exact ⟨c, l, rfl, by simpa using hc⟩
theorem para_ne (r0 : List Int) (rs : List (List Int)) (h : GI r0) (hl : allLead [62] r0 = false) : wds (wordsI (leadI [62] r0) (restI [62] r0 rs) r0 rs) ≠ [] := by
  rw [wordsI, wds_flat]
  intro q
  have q := (List.append_eq_nil_iff.mp q).1
  obtain ⟨c, t, e, hc⟩ := dropLeadI (p := isLead [62]) r0 (fun e => by rw [allLead, leadI, e] at hl; simp at hl)
  have hm : c ∈ r0 := List.mem_of_mem_drop (e ▸ List.mem_cons_self)
  obtain ⟨d, hd, rfl⟩ := h.al c hm
  have hb : isBl (d : Int) = false := by
    refine bl_of_ld ?_ hd
    rw [← hc, Bool.eq_iff_iff]; simp [isLead, isLd]; omega
  rw [leadI, e, wds, wgo_more hb] at q
  exact wgo_ne _ _ (by simp) q
/-- a paragraph that is filled already -/
theorem fillP_again (col tab : Int) (r0 : List Int) (rs : List (List Int)) (h : ∀ r ∈ r0 :: rs, GI r) (hl : allLead [62] r0 = false) :
    fillP [62] col tab (fillP [62] col tab (r0 :: rs)) = fillP [62] col tab (r0 :: rs) ∧ ∀ row ∈ fillP [62] col tab (r0 :: rs), allLead [62] row = false := by
  have hw := para_words r0 rs h
  have hne := para_ne r0 rs (h r0 (.head _)) hl
  have f1 : ∀ d ∈ leadI [62] r0, isLead [62] d = true := leadI_is r0
  have f2 : ∀ d ∈ restI [62] r0 rs, isLead [62] d = true := fun d hd => by
    obtain ⟨r, _, hd⟩ := restI_mem r0 rs d hd
    exact leadI_is r d hd
  have f3 : blankI (leadI [62] r0) = true := List.all_eq_true.mpr fun c hc => by
    have h1 := (h r0 (.head _)).bl c hc
    have h2 := f1 c hc
    simp only [isBl, isLead, Bool.or_eq_true, beq_iff_eq] at h1 h2 ⊢
    simp at h2
    omega
  rw [fillP]
  generalize leadI [62] r0 = first at *
  generalize restI [62] r0 rs = rest at *
  generalize wds (wordsI first rest r0 rs) = ws at *
  have hflat := rowsOf_flat (col - wide tab 0 first) (col - wide tab 0 rest) ws
  have hpne := rowsOf_ne (col - wide tab 0 first) (col - wide tab 0 rest) ws
  generalize hparts : rowsOf (col - wide tab 0 first) (col - wide tab 0 rest) ws = parts at *
  have hpw : ∀ p ∈ parts, ∀ x ∈ p, Gw x := fun p hp x hx => hw x (hflat ▸ List.mem_flatten.mpr ⟨p, hp, hx⟩)
  constructor
  · cases parts with
    | nil => exact absurd hflat.symm (by simpa using hne)
    | cons p0 ps =>
      have g0 := leadI_glue first p0 f1 (hpne p0 (.head _)) (hpw p0 (.head _))
      have wj : ∀ p ∈ p0 :: ps, wds (jI p) = p := fun p hp => wds_jI p fun x hx => (hpw p hp x hx).1
      rw [glueP, fillP, g0]
      cases ps with
      | nil =>
        have hp0 : p0 = ws := by simpa using hflat
        subst hp0
        have hrest : restI [62] (first ++ jI p0) (List.map (fun q => rest ++ jI q) []) = first := by
          rw [List.map_nil, restI, g0, if_pos f3]
        rw [hrest]
        have hwords : wds (wordsI first first (first ++ jI p0) (List.map (fun q => rest ++ jI q) [])) = p0 := by
          rw [List.map_nil, wordsI]
          simp only [List.map_nil, List.flatten_nil, List.append_nil, List.drop_left]
          exact wj p0 (.head _)
        rw [hwords]
        cases p0 with
        | nil => exact absurd rfl hne
        | cons x r =>
          rw [rowsOf, List.length_cons, rowsF] at hparts ⊢
          have h1 := (List.cons.inj hparts).1
          rw [h1]
          have h2 : (x :: r).drop (rowEnd (col - wide tab 0 first) (x :: r)) = [] := by
            have := congrArg List.length h1
            rw [List.length_take] at this
            exact List.drop_eq_nil_of_le (by omega)
          rw [h2, rowsF_nil]; rfl
      | cons p1 ps =>
        have gr : ∀ p ∈ p1 :: ps, leadI [62] (rest ++ jI p) = rest := fun p hp => leadI_glue rest p f2 (hpne p (.tail _ hp)) (hpw p (.tail _ hp))
        have hrest : restI [62] (first ++ jI p0) (List.map (fun q => rest ++ jI q) (p1 :: ps)) = rest := by
          rw [List.map_cons, restI, gr p1 (.head _)]
          have : ∀ l : List (List (List Int)), (∀ p ∈ l, leadI [62] (rest ++ jI p) = rest) → (l.map fun q => rest ++ jI q).foldl (fun f row => cst f (leadI [62] row)) rest = rest := by
            intro l
            induction l with
            | nil => intro _; rfl
            | cons p l ih => intro hl; rw [List.map_cons, List.foldl_cons, hl p (.head _), cst_self, ih fun q hq => hl q (.tail _ hq)]
          exact this ps fun p hp => gr p (.tail _ hp)
        rw [hrest]
        have hwords : wds (wordsI first rest (first ++ jI p0) (List.map (fun q => rest ++ jI q) (p1 :: ps))) = ws := by
          rw [wordsI, wds_flat, List.drop_left, wj p0 (.head _), List.map_map, ← hflat, List.flatten_cons]
          congr 2
          refine (List.map_congr_left fun p hp => ?_).trans (List.map_id _)
          show wds ((rest ++ jI p).drop rest.length) = p
          rw [List.drop_left, wj p (.tail _ hp)]
        rw [hwords, hparts]
        rfl
  · intro row hr
    obtain ⟨p, hp, e⟩ := glue_mem _ _ _ _ hr
    rcases e with rfl | rfl
    · exact notLead_glue first p f1 (hpne p hp) (hpw p hp)
    · exact notLead_glue rest p f2 (hpne p hp) (hpw p hp)
theorem fold_para (col tab : Int) : ∀ (L a b : List (List Int)), (∀ r ∈ L, allLead [62] r = false) → L.foldl (stT [62] col tab) (a, b) = (a, b ++ L)
  | [], a, b, _ => by simp
  | r :: L, a, b, h => by
    rw [List.foldl_cons, stT, if_neg (by rw [h r (.head _)]; exact Bool.false_ne_true), fold_para col tab L a (b ++ [r]) fun q hq => h q (.tail _ hq)]
    simp
theorem fillP_still (col tab : Int) (para : List (List Int)) (h : ∀ r ∈ para, GI r ∧ allLead [62] r = false) : fillP [62] col tab (fillP [62] col tab para) = fillP [62] col tab para ∧ ∀ row ∈ fillP [62] col tab para, allLead [62] row = false := by
  cases para with
  | nil => exact ⟨rfl, fun _ h => nomatch h⟩
  | cons r0 rs => exact fillP_again col tab r0 rs (fun r hr => (h r hr).1) (h r0 (.head _)).2
theorem fold_still (col tab : Int) : ∀ (rows s1 s2 : List (List Int)), (∀ r ∈ rows, GI r) → s1.foldl (stT [62] col tab) ([], []) = (s1, []) → (∀ r ∈ s2, GI r ∧ allLead [62] r = false) →
    (rows.foldl (stT [62] col tab) (s1, s2)).1.foldl (stT [62] col tab) ([], []) = ((rows.foldl (stT [62] col tab) (s1, s2)).1, []) ∧ ∀ r ∈ (rows.foldl (stT [62] col tab) (s1, s2)).2, GI r ∧ allLead [62] r = false
  | [], s1, s2, _, h1, h2 => ⟨h1, h2⟩
  | r :: rows, s1, s2, h, h1, h2 => by
    have h' : ∀ r ∈ rows, GI r := fun q hq => h q (.tail _ hq)
    rw [List.foldl_cons]
    by_cases hl : allLead [62] r = true
    · rw [stT, if_pos hl]
      refine fold_still col tab rows _ _ h' ?_ fun _ h => nomatch h
      obtain ⟨e1, e2⟩ := fillP_still col tab s2 h2
      rw [List.append_assoc, List.foldl_append, h1, List.foldl_append, fold_para col tab _ s1 [] e2, List.nil_append, List.foldl_cons, List.foldl_nil, stT, if_pos hl]
      simp only []
      rw [e1, List.append_assoc]
    · rw [stT, if_neg hl]
      refine fold_still col tab rows _ _ h' h1 fun q hq => ?_
      rcases List.mem_append.mp hq with hq | hq
      · exact h2 q hq
      · rw [List.mem_singleton.mp hq]; exact ⟨h r (.head _), by simpa using hl⟩
theorem fillRows_again (col tab : Int) (rows : List (List Int)) (h : ∀ r ∈ rows, GI r) : fillRows [62] col tab (fillRows [62] col tab rows) = fillRows [62] col tab rows := by
  obtain ⟨h1, h2⟩ := fold_still col tab rows [] [] h rfl fun _ h => nomatch h
  have e : fillRows [62] col tab rows = (rows.foldl (stT [62] col tab) ([], [])).1 ++ fillP [62] col tab (rows.foldl (stT [62] col tab) ([], [])).2 := rfl
  rw [e]
  generalize rows.foldl (stT [62] col tab) ([], []) = s at *
  obtain ⟨e1, e2⟩ := fillP_still col tab s.2 h2
  rw [fillRows, fillS, List.foldl_append, h1, fold_para col tab _ _ [] e2, List.nil_append]
  simp only []
  rw [e1]
end Fil
namespace Fil
theorem wordsL_wf : ∀ x ∈ wordsL, cs x ≠ [] ∧ (∀ c ∈ cs x, isBl c = false) ∧ isLead [62] ((cs x).headD 0) = false := by decide
theorem gapsL_bl : ∀ g ∈ gapsL, g ≠ [] ∧ ∀ c ∈ cs g, isBl c = true := by decide
theorem leadsL_ld : ∀ l ∈ leadsL, ∀ c ∈ l, isLd c = true := by decide
theorem cs_app (a b : List Nat) : cs (a ++ b) = cs a ++ cs b := List.map_append ..
theorem wds_jn (gap : List Nat) (hg : gap ∈ gapsL) : ∀ (ws : List (List Nat)), (∀ x ∈ ws, x ∈ wordsL) → wds (cs (jn gap ws)) = ws.map cs
  | [], _ => rfl
  | [a], h => wgo_word (cs a) [] (wordsL_wf a (h a (.head _))).2.1 (wordsL_wf a (h a (.head _))).1
  | a :: b :: r, h => by
    have ih := wds_jn gap hg (b :: r) fun x hx => h x (.tail _ hx)
    obtain ⟨g1, g2⟩ := gapsL_bl gap hg
    have wa := wgo_word (cs a) [] (wordsL_wf a (h a (.head _))).2.1 (wordsL_wf a (h a (.head _))).1
    cases gap with
    | nil => exact absurd rfl g1
    | cons c g =>
      have e : cs (jn (c :: g) (a :: b :: r)) = cs a ++ (c : Int) :: (cs g ++ cs (jn (c :: g) (b :: r))) := by
        rw [jn, cs_app, cs_app]; simp [cs]
      rw [e, wds, wgo_app (g2 _ (.head _)), wa, wgo_blank _ _ fun d hd => g2 d (.tail _ hd)]
      rw [wds] at ih
      rw [ih]; rfl
theorem gi_of {row : List Nat} (h : RowOk row) (hn : 62 ∉ ldN row) : GI (cs row) := by
  have hal := rowOk_al h
  obtain ⟨lead, gap, ws, h1, h2, h3, h4, rfl⟩ := h
  have hld : ldN (lead ++ jn gap ws) = lead ++ ldN (jn gap ws) := List.takeWhile_append_of_pos (leadsL_ld lead h1)
  have bl : ∀ c : Nat, isLd c = true → c ≠ 62 → isBl (c : Int) = true := fun c hc hc2 => by
    simp only [isLd, isBl, Bool.or_eq_true, beq_iff_eq] at hc ⊢; omega
  refine ⟨fun c hc => ?_, fun c hc => ?_, fun x hx => ?_⟩
  · obtain ⟨d, hd, rfl⟩ := List.mem_map.mp hc
    exact ⟨d, hal d hd, rfl⟩
  · rw [leadI_cs] at hc
    obtain ⟨d, hd, rfl⟩ := List.mem_map.mp hc
    exact bl d (List.all_eq_true.mp (List.all_takeWhile (p := isLd)) d hd) fun e => hn (e ▸ hd)
  · rw [cs_app, wds, wgo_blank (cs lead) _ fun c hc => ?_] at hx
    · have e := wds_jn gap h2 ws h4
      rw [wds] at e
      rw [e] at hx
      obtain ⟨y, hy, rfl⟩ := List.mem_map.mp hx
      exact (wordsL_wf y (h4 y hy)).2.2
    · obtain ⟨d, hd, rfl⟩ := List.mem_map.mp hc
      exact bl d (leadsL_ld lead h1 d hd) fun e => hn (by rw [hld, ← e]; exact List.mem_append_left _ hd)
/-- the plain law -/
theorem plain_of {rows : List (List Nat)} {col tab : Int} (h1 : 1 ≤ rows.length) (h2 : rows.length ≤ 6) (ho : ∀ row ∈ rows, RowOk row) : Plain rows col tab := by
  have hne : rows ≠ [] := fun e => by rw [e] at h1; simp at h1
  have hsz : tG rows ≤ 186 := by have := rows_len ho; omega
  have hal : ∀ r ∈ rows, ∀ c ∈ r, Al c := fun r hr => rowOk_al (ho r hr)
  have hali : ∀ r ∈ rows.map cs, ∀ c ∈ r, AlI c := fun r hr c hc => by
    obtain ⟨row, hrow, rfl⟩ := List.mem_map.mp hr
    obtain ⟨d, hd, rfl⟩ := List.mem_map.mp hc
    exact ⟨d, hal row hrow d hd, rfl⟩
  have no10 : ∀ r ∈ rows, 10 ∉ r := fun r hr => al_no10 (hali (cs r) (List.mem_map.mpr ⟨r, hr, rfl⟩))
  have hfill := fillRows_cs col tab rows hal
  have hdal : ∀ r ∈ (dueN col tab rows).map cs, ∀ c ∈ r, AlI c := by rw [← hfill]; exact fillRows_al col tab _ hali
  have dno10 : ∀ r ∈ dueN col tab rows, 10 ∉ r := fun r hr => al_no10 (hdal (cs r) (List.mem_map.mpr ⟨r, hr, rfl⟩))
  refine ⟨by omega, lnN_jn hne no10, ?_, splitI_cs hne no10, fun r hr => okc_al (hali r hr), hfill, splitI_cs (dueN_ne col tab rows hne) dno10, fun r hr => okc_al (hdal r hr), fun hn => ?_⟩
  · rw [← tot_cs, ← hfill]
    refine Nat.le_trans (fillRows_tot col tab _) ?_
    rw [tot_cs]
    exact Nat.le_trans (Nat.mul_le_mul hsz (Nat.add_le_add_right hsz 2)) (by decide)
  · rw [← hfill]
    refine fillRows_again col tab _ fun r hr => ?_
    obtain ⟨row, hrow, rfl⟩ := List.mem_map.mp hr
    exact gi_of (ho row hrow) (hn row hrow)
end Fil
local macro_rules | `(tactic| k_qdec) => `(tactic| kernel_rfl)
set_option maxHeartbeats 8000000 in
theorem PySem.Challenge.cw_on0065_01_holds : PySem.Challenge.rw_on0065_01.Holds := by
  refine Fil.hd ?_
  k_go0
  rename_i w s₀ s₁ mg mb G1 Y fa o pm doc ho hg KX X V GL T B TE TW w10 w9 M w8 w7 hcd ns hs hlay0 hL0 hr hl2 q1 q2 ax vs q3 hL ra wl r0 hI hr2 hc1 hc2 K0 hD h₁ tk₁ F cell hcell N0 X0
  refine Fil.lawStart ["_law_column", "_law_tab", "_law_rows", "_law_turn", "_law_words", "_law_gaps", "_law_text", "_law_codes", "_law_filling", "_law_told", "_law_hand"]
    ["_law_deck_of", "_law_draw", "range", "_law_one", "Filling", "filled_text", "_law_due_of"] KX GL.g GL.b GL.builtins GL.nolimit F N0 rfl rfl rfl (by decide +kernel) (by kernel_rfl) (by kernel_rfl) (by with_unfolding_all rfl) wl ?_
  intro F1 hE hmt hos hgs hh0 z s j
  have hsc : F1.env.scope = Fil.lawScope := by rw [hE]; rfl
  have hcells : F1.env.cells = [(("_law_deck" : Str), s₁.heap.objs.size + 1)] := by rw [hE]; rfl
  refine wpAny_mono (E := Fil.NoE) (Q := fun f s' => f = .ret (.bool true) ∧ (∀ b o, s₁.heap.get? b = some o → s'.heap.get? b = some o) ∧ s'.os = s₁.os ∧ s'.gens = s₁.gens) ?_ (fun f s' hq => ?_) fun _ _ e => e.elim
  · refine Fil.law_rows (n := 8) ⟨rfl, by show callerA.depth + 1 + 16 ≤ 900; decide, by show callerA.units + 3 + 10 * 16 ≤ 9000; decide⟩ (by omega) hsc hmt hcell hcells j fun z2 s2 col tab rows x1 x2 x3 b1 b2 b3 b4 c1 c2 c3 j2 => ?_
    refine Fil.execsTrue (n := 16) ⟨rfl, by show callerA.depth + 1 + 16 ≤ 900; decide, by show callerA.units + 3 + 10 * 16 ≤ 9000; decide⟩ j2 (Fil.law_rest (n := 8) (by omega) hsc hmt (Fil.plain_of c1 c2 c3)) fun z3 σ3 s3 j3 => ?_
    exact ⟨rfl, fun b o e => j3.kp b o (by rw [hmt]; exact List.not_mem_nil) (by rw [hh0]; exact e), j3.os.trans hos, j3.gens.trans hgs⟩
  · obtain ⟨rfl, e1, e2, e3⟩ := hq
    exact ⟨.inl ⟨.bool true, .bool true, [], rfl, fun _ => rfl, .bool _, by kernel_rfl, fun _ => ⟨.nil, fun _ h => nomatch h⟩⟩, e1, e2, e3.trans hg⟩
