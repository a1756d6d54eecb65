import PyProof.Rows.All
import Wide.All
import OpenK.AllK
import Wide.FinOn
import PySem.Challenge.RW_nt0017_01
section
open PySem PySem.W PyProof.Rows
set_option Elab.async false
set_option maxRecDepth 100000
set_option maxHeartbeats 0
namespace Mine
noncomputable def qv : Program := view PySem.Challenge.pw_nt0017_01 ((List.range 69).filter fun i => ¬ (i = 7 ∨ i = 48 ∨ i = 49))
noncomputable def loose : List Str := ["UniError", "_law_menu", "_law_codes"]
local macro_rules | `(tactic| o_head $H) => `(tactic| exact (fun (_ : Hook) => by assumption) $H)
theorem k0 (held : PySem.Challenge.rw_nt0017_01.row.Holds) : PySem.Challenge.rw_nt0017_01.row.Holds := by k_head
end Mine
end
section
open PySem PySem.W PyProof.Rows
set_option Elab.async false
set_option maxRecDepth 100000
set_option maxHeartbeats 0
namespace Mine
noncomputable def keptAt : List Nat := [2, 3, 15, 22, 23, 25, 26, 28, 29, 30, 31, 32, 33, 36, 43, 44, 45, 48, 55, 56, 57, 60, 62, 63, 65, 66, 67, 69, 70, 72, 73, 74, 76, 77, 79, 80, 81, 83, 84, 86, 87, 88, 90, 91, 93, 94, 95, 97, 98, 100, 101, 102, 104, 105, 107, 108, 109, 111, 112, 114, 115, 116, 118, 119, 121, 122, 123, 125, 126, 128, 129, 130, 132, 133, 135, 136, 137, 139, 140, 142, 143, 144, 146, 147, 149, 150, 158, 159, 161, 162, 164, 165, 166, 167, 169, 170, 172, 173, 174, 175, 176, 177, 178, 181, 183, 184, 186, 187, 188, 190, 191, 193, 194, 195, 197, 198, 200, 201, 202, 204, 205, 207, 208, 209, 211, 212, 214, 215, 216, 218, 219, 221, 222, 223, 225, 226, 228, 229, 230, 232, 233, 235, 236, 237, 239, 240, 242, 243, 244, 246, 247, 249, 250, 251, 252, 253, 255, 256, 258, 259, 260, 262, 263, 265, 266, 267, 269, 270, 272, 273, 274, 276, 277, 279, 280, 281, 283, 284, 286, 287, 288, 290, 291, 293, 294, 295, 297, 298, 300, 301, 302, 304, 305, 307, 308, 309, 311, 312, 314, 315, 316, 318, 319, 321, 322, 323, 326, 327, 328, 330, 331, 333, 334, 335, 337, 338, 340, 341, 342, 344, 345, 347, 348, 349, 351, 352, 354, 355, 356, 358, 359, 361, 362, 363, 366, 367, 368, 371, 372, 373, 376, 377]
noncomputable def topRunT (tb : String → Option Builtin) (p : Program) (w : World) (n₀ : Nat) (ann : Option Value) : Nat → SharedT → Thread → Option SharedT
  | 0, _, _ => none
  | n + 1, s, t => match through t with
    | true => some s
    | false => match stepOk n₀ ann t with
      | false => none
      | true => match stepT (denote tb) p w s t with
        | some (s', t') => topRunT tb p w n₀ ann n s' t'
        | none => none
noncomputable def boot_tree (P : Params) : BT := (((((((((((BT.nil.ins 0 (boot_o_0 P)).ins 1 (boot_o_1 P)).ins 2 (boot_o_2 P)).ins 3 (boot_o_3 P)).ins 4 (boot_o_4 P)).ins 5 (boot_o_5 P)).ins 6 (boot_o_6 P)).ins 7 (boot_o_7 P)).ins 8 (boot_o_8 P)).ins 9 (boot_o_9 P)).ins 10 (boot_o_10 P))
theorem boot_abs (P : Params) : absHeap (boot_tree P) 11 (boot_heap P).life = boot_heap P := by kernel_rfl
noncomputable abbrev topT (w : World) (os : OsState) : Option SharedT := topRunT treeTable PySem.Challenge.pw_nt0017_01 w 11 (some (.ref 6)) 5052 ⟨boot_tree w.params, 11, (boot_heap w.params).life, #[], boot_drawn, boot_toks, os⟩ (topStub PySem.Challenge.pw_nt0017_01)
theorem topRunT_of {tb : String → Option Builtin} {p : Program} {w : World} {n₀ : Nat} {ann : Option Value} : ∀ (N : Nat) (s s' : SharedT) (t : Thread), topRunT tb p w n₀ ann N s t = some s' → topRun tb p w n₀ ann N s.abs t = some s'.abs
  | 0, _, _, _, h => by cases h
  | n + 1, s, s', t, h => by
    unfold topRunT at h
    unfold topRun
    cases ht : through t with
    | true => rw [ht] at h; exact congrArg some (congrArg SharedT.abs (Option.some.inj h))
    | false =>
      rw [ht] at h
      cases hk : stepOk n₀ ann t with
      | false => rw [hk] at h; cases h
      | true =>
        rw [hk] at h
        cases hs : stepT (denote tb) p w s t with
        | none => rw [hs] at h; cases h
        | some r =>
          obtain ⟨s₂, t₂⟩ := r
          rw [hs] at h
          dsimp only
          rw [stepT_spec hs]
          exact topRunT_of n s₂ s' t₂ h
theorem boot_ns (P : Params) : ((boot_heap P).isNs mainGlobals, (boot_heap P).objs.size, (boot_heap P).nsMap mainGlobals "__annotations__") = (true, 11, some (.ref 6)) := by kernel_rfl
theorem plain_opening : opening PySem.Challenge.pw_nt0017_01 = plainProg PySem.Challenge.pw_nt0017_01.main.scope.names := by kernel_rfl
theorem no_fence (s : Shared) : fenceModules? PySem.Challenge.pw_nt0017_01 s = some s := by kernel_rfl
theorem kept_is (P : Params) : keptAt = (k0.heap_1 P).map (·.1) := by kernel_rfl
noncomputable abbrev kH : Hook := kHook k0.heap_1 keptAt kept_is
theorem map_at {α β : Type} {o : Option α} {s : α} {f : α → β} {y : β} (h : o.map f = some y) (e : o = some s) : f s = y := by subst e; exact Option.some.inj h
theorem map_to {α β γ : Type} {o : Option α} {s : α} {f : α → β} {g : α → γ} {y : β} {z : γ} (e : o = some s) (h : f s = y) (k : g s = z) : o.map (fun s => (f s, g s)) = some (y, z) := by subst e; exact congrArg some (Prod.ext h k)
theorem left_of (ra : ∀ (w : World) (os : OsState), (topT w os).map (fun s => keptAt.map s.abs.heap.get?) = some ((k0.heap_1 w.params).map fun p => some p.2))
    (rb : ∀ (w : World) (os : OsState), (topT w os).map (fun s => openSeen qv loose (importedModules PySem.Challenge.pw_nt0017_01.main.body) (fun s => xlAt qv [] s && recOk [] s) true s.abs) = some (openGood qv loose))
    (rc : ∀ (w : World) (os : OsState), (topT w os).map (fun s => staticsOk (importedModules PySem.Challenge.pw_nt0017_01.main.body) (boot_heap w.params) s.abs.heap && namesBound PySem.Challenge.pw_nt0017_01 s.abs.heap && gensDone s.abs && laidKept (boot_heap w.params) s.abs.heap) = some true) :
    LeftO PySem.Challenge.pw_nt0017_01 qv loose (fun s => xlAt qv [] s && recOk [] s) (Hook.obs kH) (Hook.val kH) 5052 := fun w => by
  obtain ⟨⟨h, gs, d, k, os⟩, e, e'⟩ := Option.map_eq_some_iff.mp (boot_open (p := PySem.Challenge.pw_nt0017_01) (N := 5052) plain_opening rfl no_fence w)
  obtain ⟨rfl, rfl, rfl, rfl⟩ : h = boot_heap w.params ∧ gs = Array.mk [] ∧ d = boot_drawn ∧ k = boot_toks := by simpa using e'
  obtain ⟨z1, z2, z3⟩ : _ ∧ _ ∧ _ := by simpa only [Prod.mk.injEq] using boot_ns w.params
  obtain ⟨s₁, r, a1⟩ := Option.map_eq_some_iff.mp (ra w os)
  have b1 := map_at (rb w os) r
  have c1 := map_at (rc w os) r
  have r' := topRunT_of _ _ _ _ r
  have ea : (⟨boot_tree w.params, 11, (boot_heap w.params).life, #[], boot_drawn, boot_toks, os⟩ : SharedT).abs = ⟨boot_heap w.params, Array.mk [], boot_drawn, boot_toks, os⟩ := by
    unfold SharedT.abs
    dsimp only
    rw [boot_abs]
  rw [ea] at r'
  have t : topFrom treeTable PySem.Challenge.pw_nt0017_01 w 5052 ⟨boot_heap w.params, Array.mk [], boot_drawn, boot_toks, os⟩ = some s₁.abs := by
    unfold topFrom
    dsimp only
    rw [z1, z2, z3, r']
    show (match staticsOk (importedModules PySem.Challenge.pw_nt0017_01.main.body) (boot_heap w.params) s₁.abs.heap && namesBound PySem.Challenge.pw_nt0017_01 s₁.abs.heap && gensDone s₁.abs && laidKept (boot_heap w.params) s₁.abs.heap with | true => _ | false => _) = _
    rw [c1]
  have o : openEnds treeTable PySem.Challenge.pw_nt0017_01 w 5052 = some s₁.abs := by
    unfold openEnds
    rw [e]
    exact t
  exact map_to o b1 a1
end Mine
end
section
open PySem PySem.W PyProof.Rows
set_option Elab.async false
set_option maxRecDepth 100000
set_option maxHeartbeats 0
namespace Mine
theorem run_b1 (w : World) (os : OsState) : (topT w os).map (fun s => (seen ((recsOf qv).map (·.name)) (ownsOf qv) [] { s.abs with gens := #[] }, s.abs.heap.bltView, pinSeenD qv (drecsOf qv) s.abs, plainSeenE qv (looseW qv loose) s.abs, plainSeenD qv loose s.abs, wideSeen qv s.abs, clsSeenW qv loose s.abs)) = some (expectedOf qv, bltViewBooted, pinGoodD (drecsOf qv), plainGoodE qv (looseW qv loose), plainGoodD qv loose, wideGood qv, clsGoodW qv loose) := by kernel_rfl
end Mine
end
section
open PySem PySem.W PyProof.Rows
set_option Elab.async false
set_option maxRecDepth 100000
set_option maxHeartbeats 0
namespace Mine
theorem run_b3 (w : World) (os : OsState) : (topT w os).map (fun s => (tablesOk qv s.abs.heap, xlAt qv [] s.abs && recOk [] s.abs, if true then s.abs.gens.size == 0 else !leftWithCleanup s.abs.gens, tabsOk qv s.abs)) = some (true, true, true, true) := by kernel_rfl
end Mine
end
section
open PySem PySem.W PyProof.Rows
set_option Elab.async false
set_option maxRecDepth 100000
set_option maxHeartbeats 0
namespace Mine
theorem run_b2 (w : World) (os : OsState) : (topT w os).map (fun s => (s.abs.heap.keysOk (looseW qv loose) ((recsOf qv).map (·.name)) ((litsOf qv).map (·.1)) ((clssOf qv (looseW qv loose)).map (·.name)) && s.abs.heap.accountedOkI (importedModules PySem.Challenge.pw_nt0017_01.main.body) && s.abs.heap.isNs mainGlobals && s.abs.heap.isNs builtinsNs)) = some true := by kernel_rfl
end Mine
end
section
open PySem PySem.W PyProof.Rows
set_option Elab.async false
set_option maxRecDepth 100000
set_option maxHeartbeats 0
namespace Mine
theorem run_b (w : World) (os : OsState) : (topT w os).map (fun s => openSeen qv loose (importedModules PySem.Challenge.pw_nt0017_01.main.body) (fun s => xlAt qv [] s && recOk [] s) true s.abs) = some (openGood qv loose) := by
  obtain ⟨s, r, a1⟩ := Option.map_eq_some_iff.mp (run_b1 w os)
  have e3 := map_at (run_b2 w os) r
  have a3 := map_at (run_b3 w os) r
  rw [r]
  have e1 := congrArg Prod.fst a1
  have e2 := congrArg (fun x => x.2.1) a1
  have e5 := congrArg (fun x => x.2.2) a1
  have e6 := congrArg Prod.fst a3
  have e7 := congrArg (fun x => x.2.1) a3
  have e8 := congrArg (fun x => x.2.2.1) a3
  have e4 := congrArg (fun x => x.2.2.2) a3
  dsimp only at e1 e2 e3 e4 e5 e6 e7 e8
  refine congrArg some ?_
  unfold openSeen openGood
  dsimp only
  rw [e1, e2, e3, e4, e5, e6, e7, e8]
  rfl
end Mine
end
section
open PySem PySem.W PyProof.Rows
set_option Elab.async false
set_option maxRecDepth 100000
set_option maxHeartbeats 0
namespace Mine
theorem run_a (w : World) (os : OsState) : (topT w os).map (fun s => keptAt.map s.abs.heap.get?) = some ((k0.heap_1 w.params).map fun p => some p.2) := by kernel_rfl
end Mine
end
section
open PySem PySem.W PyProof.Rows
set_option Elab.async false
set_option maxRecDepth 100000
set_option maxHeartbeats 0
namespace Mine
theorem run_c (w : World) (os : OsState) : (topT w os).map (fun s => staticsOk (importedModules PySem.Challenge.pw_nt0017_01.main.body) (boot_heap w.params) s.abs.heap && namesBound PySem.Challenge.pw_nt0017_01 s.abs.heap && gensDone s.abs && laidKept (boot_heap w.params) s.abs.heap) = some true := by kernel_rfl
end Mine
end
section
open PySem PySem.W PyProof.Rows
set_option Elab.async false
set_option maxRecDepth 100000
set_option maxHeartbeats 0
namespace Mine
theorem said : PySem.Challenge.rw_nt0017_01.wellSaid = true := by kernel_rfl
end Mine
end
section
set_option Elab.async false
set_option maxRecDepth 100000
open PySem PySem.W PyProof.Rows
namespace Mine

inductive Dat where
  | none
  | bool (b : Bool)
  | int (i : Int)
  | str (s : Str)
  | bytes (b : List UInt8)
  | tuple (ds : List Dat)
  | list (ds : List Dat)
  | obj (a : Addr)

noncomputable abbrev View := Addr → Option Obj
noncomputable def vw (h : Heap) (M : List Addr) : View := fun a => if a ∈ M then none else h.get? a
theorem vw_get {h : Heap} {M : List Addr} {a : Addr} {o : Obj} (e : vw h M a = some o) : h.get? a = some o := by
  unfold vw at e; split at e <;> first | cases e | exact e
theorem vw_at {h : Heap} {M : List Addr} {a : Addr} {o : Obj} (e : h.get? a = some o) (n : a ∉ M) : vw h M a = some o := by
  unfold vw; rw [if_neg n]; exact e
theorem vw_not {h : Heap} {M : List Addr} {a : Addr} {o : Obj} (e : vw h M a = some o) : a ∉ M := by
  intro q; unfold vw at e; rw [if_pos q] at e; cases e

noncomputable def VLe (S S' : View) : Prop := ∀ a o, S a = some o → S' a = some o
theorem vw_sub {h : Heap} {M M' : List Addr} (s : ∀ a, a ∈ M' → a ∈ M) : VLe (vw h M) (vw h M') := fun _ _ e => vw_at (vw_get e) fun q => vw_not e (s _ q)

mutual
noncomputable def Rep (S : View) : Dat → Value → Prop
  | .none, v => v = .none
  | .bool b, v => v = .bool b
  | .int i, v => ∃ t, v = .int i t
  | .str s, v => ∃ t, v = .str s t
  | .bytes b, v => ∃ t, v = .bytes b.toArray t
  | .tuple ds, v => ∃ a vs n, v = .ref a ∧ S a = some { cls := .type "tuple", data := .seq (List.toArray vs) n } ∧ Reps S ds vs
  | .list ds, v => ∃ a vs n, v = .ref a ∧ S a = some { cls := .type "list", data := .seq (List.toArray vs) n } ∧ Reps S ds vs
  | .obj a, v => v = .ref a
noncomputable def Reps (S : View) : List Dat → List Value → Prop
  | [], vs => vs = []
  | d :: ds, vs => ∃ v r, vs = v :: r ∧ Rep S d v ∧ Reps S ds r
end

mutual
theorem Rep.mono {S S' : View} (x : VLe S S') : ∀ {d : Dat} {v : Value}, Rep S d v → Rep S' d v
  | .none, _, h => h
  | .bool _, _, h => h
  | .int _, _, h => h
  | .str _, _, h => h
  | .bytes _, _, h => h
  | .obj _, _, h => h
  | .tuple ds, v, h => by
    unfold Rep at h ⊢
    obtain ⟨a, vs, n, e, ho, hr⟩ := h
    exact ⟨a, vs, n, e, x _ _ ho, Reps.mono x hr⟩
  | .list ds, v, h => by
    unfold Rep at h ⊢
    obtain ⟨a, vs, n, e, ho, hr⟩ := h
    exact ⟨a, vs, n, e, x _ _ ho, Reps.mono x hr⟩
theorem Reps.mono {S S' : View} (x : VLe S S') : ∀ {ds : List Dat} {vs : List Value}, Reps S ds vs → Reps S' ds vs
  | [], _, h => h
  | d :: ds, vs, h => by
    unfold Reps at h ⊢
    obtain ⟨v, r, e, h1, h2⟩ := h
    exact ⟨v, r, e, Rep.mono x h1, Reps.mono x h2⟩
end
theorem Reps.length {S : View} : ∀ {ds : List Dat} {vs : List Value}, Reps S ds vs → vs.length = ds.length
  | [], _, h => by unfold Reps at h; subst h; rfl
  | d :: ds, vs, h => by
    unfold Reps at h
    obtain ⟨v, r, e, _, h2⟩ := h
    subst e
    simp [Reps.length h2]
theorem Reps.append {S : View} : ∀ {ds es : List Dat} {vs ws : List Value}, Reps S ds vs → Reps S es ws → Reps S (ds ++ es) (vs ++ ws)
  | [], _, _, _, h, k => by unfold Reps at h; subst h; exact k
  | d :: ds, es, vs, ws, h, k => by
    unfold Reps at h
    obtain ⟨v, r, e, h1, h2⟩ := h
    subst e
    show Reps S (d :: (ds ++ es)) (v :: (r ++ ws))
    unfold Reps
    exact ⟨v, _, rfl, h1, Reps.append h2 k⟩
theorem Reps.one {S : View} {d : Dat} {v : Value} (h : Rep S d v) : Reps S [d] [v] := by
  unfold Reps; exact ⟨v, [], rfl, h, by unfold Reps; rfl⟩
theorem Reps.get {S : View} : ∀ {ds : List Dat} {vs : List Value} {i : Nat} {d : Dat}, Reps S ds vs → ds[i]? = some d → ∃ v, vs[i]? = some v ∧ Rep S d v
  | d :: ds, vs, 0, d', h, e => by
    unfold Reps at h
    obtain ⟨v, r, e1, h1, _⟩ := h
    subst e1
    obtain rfl : d = d' := by simpa using e
    exact ⟨v, rfl, h1⟩
  | d :: ds, vs, i + 1, d', h, e => by
    unfold Reps at h
    obtain ⟨v, r, e1, _, h2⟩ := h
    subst e1
    obtain ⟨v', a, b⟩ := Reps.get (i := i) (d := d') h2 (by simpa using e)
    exact ⟨v', by simpa using a, b⟩
  | [], _, _, _, _, e => by simp at e

noncomputable def addrs (fs : List Env) : List Addr := fs.filterMap (·.frame)

/-- the heap goes on: what stood stands (frames of the stack up to their slots), but for X -/
noncomputable def Ext (X : List Addr) (fs : List Env) (h h' : Heap) : Prop :=
  ∀ b o, b ∉ X → h.get? b = some o → (∃ sl, h'.get? b = some { o with slots := sl }) ∧ (b ∉ addrs fs → h'.get? b = some o)
theorem Ext.refl (X : List Addr) (fs : List Env) (h : Heap) : Ext X fs h h := fun _ o _ e => ⟨⟨o.slots, e⟩, fun _ => e⟩
theorem Ext.trans {X : List Addr} {fs : List Env} {h₁ h₂ h₃ : Heap} (x : Ext X fs h₁ h₂) (y : Ext X fs h₂ h₃) : Ext X fs h₁ h₃ := fun b o hX e => by
  obtain ⟨⟨sl, e1⟩, k1⟩ := x b o hX e
  obtain ⟨⟨sl', e2⟩, _⟩ := y b _ hX e1
  exact ⟨⟨sl', e2⟩, fun n => (y b o hX (k1 n)).2 n⟩
theorem Ext.of_keeps {X : List Addr} {fs : List Env} {h h' : Heap} (k : ∀ b o, h.get? b = some o → h'.get? b = some o) : Ext X fs h h' := fun b o _ e => ⟨⟨o.slots, k b o e⟩, fun _ => k b o e⟩
theorem Ext.mono {X Y : List Addr} {fs : List Env} {h h' : Heap} (x : Ext X fs h h') (s : ∀ a, a ∈ X → a ∈ Y) : Ext Y fs h h' := fun b o hY e => x b o (fun q => hY (s b q)) e
theorem Ext.vle {X : List Addr} {fs : List Env} {h h' : Heap} (x : Ext X fs h h') {M : List Addr} (s : ∀ a, a ∈ X → a ∈ M) (f : ∀ a, a ∈ addrs fs → a ∈ M) : VLe (vw h M) (vw h' M) := fun a o e => by
  have n := vw_not e
  exact vw_at ((x a o (fun q => n (s a q)) (vw_get e)).2 fun q => n (f a q)) n
theorem funFrames_keep {h h' base : Heap} (k : ∀ b o, h.get? b = some o → (∀ vs, o.data ≠ .fields vs) → ∃ o', h'.get? b = some o' ∧ ∀ vs, o'.data ≠ .fields vs) : ∀ {l : List Env}, h.FunFrames base l → h'.FunFrames base l
  | [], _ => trivial
  | _ :: _, ⟨hk, ⟨L, o, hf, hn, ho, hd⟩, hr⟩ => by
    obtain ⟨o', h1, h2⟩ := k L o ho hd
    exact ⟨hk, ⟨L, o', hf, hn, h1, h2⟩, funFrames_keep k hr⟩
theorem Ext.frames {X : List Addr} {fs gs : List Env} {h h' base : Heap} (x : Ext X fs h h') (hX : ∀ a, a ∈ X → a ∉ addrs gs) (l : h.FunFrames base gs) : h'.FunFrames base gs := by
  induction gs with
  | nil => trivial
  | cons env r ih =>
    obtain ⟨hk, ⟨L, o, hf, hn, ho, hd⟩, hr⟩ := l
    have nX : L ∉ X := fun q => hX L q (by unfold addrs; rw [List.filterMap_cons, hf]; exact List.mem_cons_self)
    obtain ⟨⟨sl, e⟩, _⟩ := x L o nX ho
    refine ⟨hk, ⟨L, _, hf, hn, e, hd⟩, ih (fun a ha q => hX a ha ?_) hr⟩
    unfold addrs at q ⊢
    rw [List.filterMap_cons, hf]; exact List.mem_cons_of_mem _ q
theorem frames_none {h base : Heap} {fs : List Env} (l : h.FunFrames base fs) {a : Addr} (ha : a ∈ addrs fs) : base.get? a = none := (l.mem ha).1
theorem Ext.stays {X : List Addr} {fs : List Env} {h h' base : Heap} (x : Ext X fs h h') (hX : ∀ a, a ∈ X → base.get? a = none) (l : h.FunFrames base fs) (k : base.StaysIn h) : base.StaysIn h' := fun b o e =>
  (x b o (fun q => by rw [hX b q] at e; cases e) (k b o e)).2 fun q => by rw [frames_none l q] at e; cases e
theorem Ext.ns {X : List Addr} {fs : List Env} {h h' : Heap} {L : Addr} {m : Str → Option Value} (x : Ext X fs h h') (n : L ∉ X) (hn : h.Ns L m) : h'.Ns L m := by
  obtain ⟨o, es, ep, ho, hd, hk, hf⟩ := hn
  obtain ⟨⟨sl, e⟩, _⟩ := x L o n ho
  exact ⟨_, es, ep, e, hd, hk, hf⟩
end Mine
end
section
set_option Elab.async false
set_option maxRecDepth 100000
open PySem PySem.W PyProof.Rows
namespace Mine

structure St where
  loc : Nat → Option Dat
  own : Option (Nat × List Dat) := none
  stm : Option (Nat × Bool × List UInt8 × Int) := none

/-- a reading of the plain state: none = not spoken of; error C = raises the class at C -/
noncomputable abbrev EM (α : Type) := St → Option (Except Addr α)
noncomputable def EM.pure {α : Type} (a : α) : EM α := fun _ => some (.ok a)
noncomputable def EM.bind {α β : Type} (m : EM α) (k : α → EM β) : EM β := fun ρ => match m ρ with
  | none => none
  | some (.error C) => some (.error C)
  | some (.ok a) => k a ρ
noncomputable def EM.lift {α : Type} (o : Option α) : EM α := fun _ => o.map .ok

structure Fx where
  env : Env
  fenv : Env
  fs : List Env
  g : Heap
  X : List Addr
  M : List Addr
  P : List (Addr × Obj) := []
  V : List (Dat × Value) := []

noncomputable def nm (sc : Scope) (i : Nat) : Option Str := (sc.names[i]?).map (·.1)
noncomputable def pm (c : Fx) : List Addr := c.M ++ c.P.map (·.1)
noncomputable def hid (c : Fx) (l : Addr) : List Addr := c.env.locals :: l :: (pm c ++ addrs (c.fenv :: c.fs))
noncomputable def PinAt (h0 : Heap) (c : Fx) (l : Addr) (h : Heap) (p : Addr × Obj) : Prop :=
  h.get? p.1 = some p.2 ∧ p.1 ∉ c.X ∧ p.1 ∉ addrs (c.fenv :: c.fs) ∧ p.1 ≠ c.env.locals ∧ p.1 ≠ l ∧ h0.get? p.1 = none ∧ c.g.get? p.1 = none ∧ p.1 ∉ c.M
theorem hid_frames {c : Fx} {l a : Addr} (h : a ∈ addrs (c.fenv :: c.fs)) : a ∈ hid c l := .tail _ (.tail _ (List.mem_append_right _ h))

structure Fok (h0 : Heap) (c : Fx) (sc : Scope) : Prop where
  is : c.env.scope = sc
  kind : sc.kind = .function
  glob : c.env.globals = mainGlobals
  blt : c.env.builtins = builtinsNs
  frame : ∃ FL, c.fenv.frame = some FL ∧ c.env.frame = some FL ∧ c.g.get? FL = none
  gL : c.g.get? c.env.locals = none
  bL : h0.get? c.env.locals = none
  LX : c.env.locals ∉ c.X
  XF : ∀ a, a ∈ c.X → a ∉ addrs (c.fenv :: c.fs)
  Xb : ∀ a, a ∈ c.X → h0.get? a = none
  Mb : ∀ a, a ∈ c.M → h0.get? a = none ∧ a ∉ c.X
  dup : (sc.names.map (·.1)).Nodup
  pnd : (c.P.map (·.1)).Nodup

structure AOk (q : Bool) (H : Nat) (c : Fx) (A : Around) : Prop where
  frames : A.frames = some (c.fenv :: c.fs)
  depth : A.depth + H < recursionLimit
  units : A.units + 16 * H + 16 < cLine
  handled : q = true → A.handled = none

structure CellAt (c : Fx) (S : View) (h : Heap) (x : Str) (d : Dat) (a : Addr) (o : Obj) (v : Value) : Prop where
  c1 : c.env.cells.lookup x = some a
  c2 : h.get? a = some o
  c3 : o.data = .cell (some v)
  c4 : o = o
  c5 : a ∉ addrs (c.fenv :: c.fs)
  c6 : a ≠ c.env.locals
  c7 : a ∉ c.X
  c8 : Rep S d v
noncomputable def LocAt (c : Fx) (S : View) (h : Heap) (m : Str → Option Value) (x : Str) (d : Dat) : Prop :=
  (c.env.kindOf x = some .local ∧ ∃ v, m x = some v ∧ Rep S d v) ∨
  ((c.env.kindOf x = some .cell ∨ c.env.kindOf x = some .free) ∧ ∃ a o v, CellAt c S h x d a o v)

structure OwnX (h0 : Heap) (c : Fx) (l : Addr) (h : Heap) (m : Str → Option Value) (i : Nat) (ds : List Dat) (x : Str) (vs : List Value) (n : Nat) : Prop where
  o1 : nm c.env.scope i = some x
  o2 : c.env.kindOf x = some .local
  o3 : m x = some (.ref l)
  o4 : h.get? l = some { cls := .type "list", data := .seq (List.toArray vs) n }
  o5 : Reps (vw h (hid c l)) ds vs
  o6 : l ∉ c.M ∧ l ≠ c.env.locals ∧ l ∉ addrs (c.fenv :: c.fs) ∧ c.g.get? l = none ∧ h0.get? l = none ∧ l ∉ c.X
noncomputable def OwnAt (h0 : Heap) (c : Fx) (l : Addr) (h : Heap) (m : Str → Option Value) (i : Nat) (ds : List Dat) : Prop :=
  ∃ x vs n, OwnX h0 c l h m i ds x vs n

noncomputable def strmEs (P : Int × Int × Int) (t : Tok × Tok × Tok × Tok × Tok) (b : Bool) (wt : List UInt8) (pl : Int) : List DictEntry :=
  [⟨P.1, .str "is_strict" t.1, .bool b⟩, ⟨P.2.1, .str "waiting" t.2.1, .bytes wt.toArray t.2.2.1⟩, ⟨P.2.2, .str "place" t.2.2.2.1, .int pl t.2.2.2.2⟩]
structure StmX (h0 : Heap) (c : Fx) (l : Addr) (h : Heap) (m : Str → Option Value) (i : Nat) (b : Bool) (wt : List UInt8) (pl : Int) (x : Str) (xa dx : Addr) (P : Int × Int × Int) (t : Tok × Tok × Tok × Tok × Tok) (n : Nat) : Prop where
  h1 : nm c.env.scope i = some x
  h2 : c.env.kindOf x = some .local
  h3 : m x = some (.ref xa)
  h4 : h.get? xa = some (instObj 176 dx)
  h5 : h.get? dx = some (dictOf (strmEs P t b wt pl) n)
  h6 : xa ∉ addrs (c.fenv :: c.fs)
  h7 : dx ∉ addrs (c.fenv :: c.fs)
  h8 : dx ≠ xa
  h9 : dx ≠ l
  h10 : dx ≠ c.env.locals
  h11 : xa ≠ l
  h12 : xa ≠ c.env.locals
  h13 : h0.get? dx = none
  h14 : h0.get? xa = none
  h15 : c.g.get? dx = none ∧ dx ∉ c.X
  h16 : xa ∉ c.X
  h18 : ∀ p, p ∈ c.P → p.1 ≠ dx ∧ p.1 ≠ xa
  h19 : dx ∉ c.M
noncomputable def StmAt (h0 : Heap) (c : Fx) (l : Addr) (h : Heap) (m : Str → Option Value) (i : Nat) (b : Bool) (wt : List UInt8) (pl : Int) : Prop :=
  ∃ x xa dx P t n, StmX h0 c l h m i b wt pl x xa dx P t n

structure NsOk (h0 : Heap) (c : Fx) (l : Addr) (ρ : St) (h : Heap) (m : Str → Option Value) : Prop where
  n1 : h.Ns c.env.locals m
  n2 : ∀ i d, ρ.loc i = some d → ∃ x, nm c.env.scope i = some x ∧ LocAt c (vw h (hid c l)) h m x d
  n3 : ∀ i ds, ρ.own = some (i, ds) → OwnAt h0 c l h m i ds
  n4 : ∀ i b wt pl, ρ.stm = some (i, b, wt, pl) → StmAt h0 c l h m i b wt pl
structure Rel (h0 : Heap) (c : Fx) (l : Addr) (ρ : St) (h : Heap) : Prop where
  stays : h0.StaysIn h
  frs : h.FunFrames h0 (c.fenv :: c.fs)
  ext : Ext c.X c.fs c.g h
  lb : ρ.own = none → l = c.env.locals
  pin : ∀ p, p ∈ c.P → PinAt h0 c l h p
  xin : ∀ a, a ∈ c.X → ∃ o, h.get? a = some o
  see : ∀ p, p ∈ c.V → Rep (vw h (hid c l)) p.1 p.2
  min : ∀ a, a ∈ c.M → ∃ o, h.get? a = some o
  ns : ∃ m, NsOk h0 c l ρ h m

/-- what a piece of evaluation may have done -/
structure Goes (c : Fx) (s s' : Shared) : Prop where
  ext : Ext [] (c.fenv :: c.fs) s.heap s'.heap
  gens : s'.gens = s.gens
  os : s'.os = s.os
theorem Goes.refl (c : Fx) (s : Shared) : Goes c s s := ⟨.refl _ _ _, rfl, rfl⟩
theorem Goes.trans {c : Fx} {s₁ s₂ s₃ : Shared} (x : Goes c s₁ s₂) (y : Goes c s₂ s₃) : Goes c s₁ s₃ := ⟨x.ext.trans y.ext, y.gens.trans x.gens, y.os.trans x.os⟩
theorem Goes.toks {c : Fx} {s : Shared} (n : Nat) : Goes c s { s with toks := n } := ⟨.refl _ _ _, rfl, rfl⟩
theorem Goes.keeps {c : Fx} {s : Shared} {h' : Heap} {n : Nat} (k : ∀ b o, s.heap.get? b = some o → h'.get? b = some o) : Goes c s { s with heap := h', toks := n } := ⟨.of_keeps k, rfl, rfl⟩
theorem Goes.vle {c : Fx} {s s' : Shared} (x : Goes c s s') (l : Addr) : VLe (vw s.heap (hid c l)) (vw s'.heap (hid c l)) := x.ext.vle (fun _ h => by cases h) fun _ h => hid_frames h

theorem Ext.frame_of {X : List Addr} {env : Env} {fs : List Env} {g h h' : Heap} {FL : Addr} (hf : env.frame = some FL) (gF : g.get? FL = none) (x : Ext X fs g h) (y : Ext [] (env :: fs) h h') : Ext X fs g h' := fun b o hX e => by
  obtain ⟨⟨sl, e1⟩, k⟩ := x b o hX e
  obtain ⟨⟨sl', e2⟩, _⟩ := y b _ (by simp) e1
  refine ⟨⟨sl', e2⟩, fun n => (y b o (by simp) (k n)).2 fun q => ?_⟩
  unfold addrs at q n
  rw [List.filterMap_cons, hf] at q
  rcases List.mem_cons.mp q with q | q
  · rw [q, gF] at e; cases e
  · exact n q

theorem LocAt.of_ext {c : Fx} {h h' : Heap} {l : Addr} {m : Str → Option Value} {x : Str} {d : Dat} (y : Ext [] (c.fenv :: c.fs) h h') (a : LocAt c (vw h (hid c l)) h m x d) : LocAt c (vw h' (hid c l)) h' m x d := by
  have V := y.vle (M := hid c l) (fun _ h => by cases h) fun _ h => hid_frames h
  rcases a with ⟨k, v, hm, hr⟩ | ⟨k, a, o, v, hl, ho, hd, hs, hn, hL, hX, hr⟩
  · exact .inl ⟨k, v, hm, hr.mono V⟩
  · exact .inr ⟨k, a, o, v, hl, (y a o (by simp) ho).2 hn, hd, hs, hn, hL, hX, hr.mono V⟩
theorem OwnAt.of_ext {h0 : Heap} {c : Fx} {l : Addr} {h h' : Heap} {m : Str → Option Value} {i : Nat} {ds : List Dat} (y : Ext [] (c.fenv :: c.fs) h h') (a : OwnAt h0 c l h m i ds) : OwnAt h0 c l h' m i ds := by
  obtain ⟨x, vs, n, h1, h2, h3, h4, h5, h6, h7, h8, h9⟩ := a
  exact ⟨x, vs, n, h1, h2, h3, (y l _ (by simp) h4).2 h8, h5.mono (y.vle (fun _ h => by cases h) fun _ h => hid_frames h), h6, h7, h8, h9⟩


theorem StmAt.of_ext {h0 : Heap} {c : Fx} {l : Addr} {h h' : Heap} {m : Str → Option Value} {i : Nat} {b : Bool} {wt : List UInt8} {pl : Int} (y : Ext [] (c.fenv :: c.fs) h h') (a : StmAt h0 c l h m i b wt pl) : StmAt h0 c l h' m i b wt pl := by
  obtain ⟨x, xa, dx, P, t, n, r⟩ := a
  exact ⟨x, xa, dx, P, t, n, { r with h4 := (y xa _ (by simp) r.h4).2 r.h6, h5 := (y dx _ (by simp) r.h5).2 r.h7 }⟩

theorem PinAt.of_ext {h0 : Heap} {c : Fx} {l : Addr} {h h' : Heap} {p : Addr × Obj} (y : Ext [] (c.fenv :: c.fs) h h') (a : PinAt h0 c l h p) : PinAt h0 c l h' p := by
  obtain ⟨h1, h2, h3, r⟩ := a
  exact ⟨(y p.1 _ (by simp) h1).2 h3, h2, h3, r⟩

theorem PinAt.drop {h0 : Heap} {c : Fx} {l : Addr} {h : Heap} {p : Addr × Obj} (a : PinAt h0 c l h p) : PinAt h0 c c.env.locals h p := ⟨a.1, a.2.1, a.2.2.1, a.2.2.2.1, a.2.2.2.1, a.2.2.2.2.2⟩
theorem Rel.of_ext {h0 : Heap} {c : Fx} {sc : Scope} {l : Addr} {ρ : St} {h h' : Heap} (K : Fok h0 c sc) (R : Rel h0 c l ρ h) (y : Ext [] (c.fenv :: c.fs) h h') : Rel h0 c l ρ h' := by
  obtain ⟨FL, hf, _, hg⟩ := K.frame
  obtain ⟨m, hn, a1, a2, a3⟩ := R.ns
  exact ⟨y.stays (fun _ h => by cases h) R.frs R.stays, y.frames (fun _ h => by cases h) R.frs, R.ext.frame_of hf hg y, R.lb, fun p hp => (R.pin p hp).of_ext y, fun a ha => let ⟨o, ho⟩ := R.xin a ha; let ⟨⟨_, e⟩, _⟩ := y a o (by simp) ho; ⟨_, e⟩, fun p hp => (R.see p hp).mono (y.vle (fun _ h => by cases h) fun _ h => hid_frames h), fun a ha => let ⟨o, ho⟩ := R.min a ha; let ⟨⟨_, e⟩, _⟩ := y a o (by simp) ho; ⟨_, e⟩, m, y.ns (by simp) hn,
    fun i d e => let ⟨x, e1, e2⟩ := a1 i d e; ⟨x, e1, e2.of_ext y⟩, fun i ds e => (a2 i ds e).of_ext y, fun i b wt pl e => (a3 i b wt pl e).of_ext y⟩
theorem Rel.goes {h0 : Heap} {c : Fx} {sc : Scope} {l : Addr} {ρ : St} {s s' : Shared} (K : Fok h0 c sc) (R : Rel h0 c l ρ s.heap) (y : Goes c s s') : Rel h0 c l ρ s'.heap := R.of_ext K y.ext

/-- what the exception's own base holds -/
structure Base (h0 : Heap) (c : Fx) (B : Heap) : Prop where
  st : h0.StaysIn B
  g : ∀ b o, b ∉ c.X → c.g.get? b = some o → b ∉ addrs (c.fenv :: c.fs) → B.get? b = some o
  p : ∀ p, p ∈ c.P → B.get? p.1 = some p.2
  x : ∀ a, a ∈ c.X → ∃ o, B.get? a = some o
  v : ∀ p, p ∈ c.V → Rep (vw B (hid c c.env.locals)) p.1 p.2
  m : ∀ a, a ∈ c.M → a ∈ addrs (c.fenv :: c.fs) ∨ ∃ o, B.get? a = some o
structure ThrX (h0 : Heap) (c : Fx) (e C : Addr) (h : Heap) (oe : Obj) (vs : Array Value) (a0 : Value) : Prop where
  u1 : h.get? e = some oe
  u2 : oe.cls = .ref C
  u3 : oe.data = .fields vs
  u4 : vs[1]? = some .none
  u5 : vs[0]? = some a0
  u6 : h0.get? e = none
  u7 : c.g.get? e = none
  u8 : ∀ p, p ∈ c.P → p.1 ≠ e
  u9 : ∀ a, a ∈ c.X → a ≠ e
  u10 : ∀ p, p ∈ c.V → Rep (vw h (e :: hid c c.env.locals)) p.1 p.2
  u11 : ∀ a, a ∈ c.M → a ≠ e
/-- an exception is on its way in this frame -/
structure Thrown (h0 : Heap) (c : Fx) (e C : Addr) (h : Heap) : Prop where
  t1 : h0.StaysIn h
  t2 : h.FunFrames h0 (c.fenv :: c.fs)
  t3 : Ext c.X c.fs c.g h
  t4 : ∃ m, h.Ns c.env.locals m
  t5 : ∀ p, p ∈ c.P → PinAt h0 c c.env.locals h p
  t6 : ∀ a, a ∈ c.X → ∃ o, h.get? a = some o
  t8 : ∀ p, p ∈ c.V → Rep (vw h (hid c c.env.locals)) p.1 p.2
  t9 : ∀ a, a ∈ c.M → ∃ o, h.get? a = some o
  t7 : (∃ oe vs a0, ThrX h0 c e C h oe vs a0) ∨ (∃ B a0, Heap.FlyingW B (c.fenv :: c.fs) e (.ref C) a0 h ∧ Base h0 c B)

section
variable (prog : Program) (w : World) (h0 : Heap) (q : Bool) (H : Nat) (sc : Scope)
/-- the common frame of a judgement: a tree, its reading, and what its value says -/
noncomputable def Sem0 {α δ : Type} (tree : Env → Sem α) (says : View → δ → α → Prop) (φ : EM δ) : Prop :=
  ∀ (c : Fx) (A : Around) (l : Addr) (ρ : St) (s : Shared) (Q : α → Shared → Prop) (E : Value → Shared → Prop),
    Fok h0 c sc → AOk q H c A → Rel h0 c l ρ s.heap → PassesOwn (model prog w) A c.env E →
    ∀ r, φ ρ = some r →
    (∀ d, r = .ok d → ∀ v s', Goes c s s' → says (vw s'.heap (hid c l)) d v → Q v s') →
    (∀ C, r = .error C → ∀ e s', s'.gens = s.gens → s'.os = s.os → Thrown h0 c e C s'.heap → E (.ref e) s') →
    wpAny (model prog w) A (tree c.env) Q E s
noncomputable def SemE (e : Expr) (φ : EM Dat) : Prop := Sem0 prog w h0 q H sc (fun env => eval e env) Rep φ
noncomputable def SemT (e : Expr) (φ : EM Bool) : Prop := Sem0 prog w h0 q H sc (fun env => isTrue e env (eval e env)) (fun _ b v => v = b) φ
end

end Mine
end
section
set_option Elab.async false
set_option maxRecDepth 100000
open PySem PySem.W PyProof.Rows PySem.SeqAt
namespace Mine

noncomputable def ErrOk (h0 : Heap) (c : Fx) (s : Shared) {ε : Type} (r : Except Addr ε) (E : Value → Shared → Prop) : Prop :=
  ∀ C, r = .error C → ∀ e s', s'.gens = s.gens → s'.os = s.os → Thrown h0 c e C s'.heap → E (.ref e) s'
theorem ErrOk.goes {h0 : Heap} {c : Fx} {s s₁ : Shared} {ε : Type} {r : Except Addr ε} {E : Value → Shared → Prop} (x : ErrOk h0 c s r E) (G : Goes c s s₁) : ErrOk h0 c s₁ r E :=
  fun C hC e s' h1 h2 h3 => x C hC e s' (h1.trans G.gens) (h2.trans G.os) h3
theorem Rel.pm_in {h0 : Heap} {c : Fx} {sc : Scope} {l : Addr} {ρ : St} {h : Heap} (K : Fok h0 c sc) (R : Rel h0 c l ρ h) {a : Addr} (ha : a ∈ pm c) : h0.get? a = none ∧ ∃ o, h.get? a = some o := by
  rcases List.mem_append.mp ha with ha | ha
  · exact ⟨(K.Mb a ha).1, R.min a ha⟩
  · obtain ⟨p, hp, rfl⟩ := List.mem_map.mp ha
    obtain ⟨h1, _, _, _, _, h2, _, _⟩ := R.pin p hp
    exact ⟨h2, _, h1⟩
theorem Rel.hid_lt {h0 : Heap} {c : Fx} {sc : Scope} {l : Addr} {ρ : St} {h : Heap} (K : Fok h0 c sc) (R : Rel h0 c l ρ h) {a : Addr} (ha : a ∈ hid c l) : a < h.objs.size := by
  obtain ⟨m, hn, _, a2, _⟩ := R.ns
  rcases List.mem_cons.mp ha with rfl | ha
  · exact hn.lt
  rcases List.mem_cons.mp ha with rfl | ha
  · cases ho : ρ.own with
    | none => rw [R.lb ho]; exact hn.lt
    | some p => obtain ⟨i, ds⟩ := p; obtain ⟨_, _, _, _, _, _, h4, _⟩ := a2 i ds ho; exact Heap.lt_size h4
  rcases List.mem_append.mp ha with ha | ha
  · obtain ⟨_, o, ho⟩ := R.pm_in K ha
    exact Heap.lt_size ho
  · obtain ⟨_, o, ho, _⟩ := R.frs.mem ha
    exact Heap.lt_size ho
theorem Rel.fresh {h0 : Heap} {c : Fx} {sc : Scope} {l : Addr} {ρ : St} {h : Heap} (K : Fok h0 c sc) (R : Rel h0 c l ρ h) : h.objs.size ∉ hid c l := fun q => Nat.lt_irrefl _ (R.hid_lt K q)
theorem vw_push {h : Heap} {M : List Addr} {o : Obj} (n : h.objs.size ∉ M) (hf : o.isFreed = false) : vw (h.push o) M h.objs.size = some o := vw_at (Heap.get?_push_size h hf) n
theorem Goes.push {c : Fx} {s : Shared} {o : Obj} {n : Nat} : Goes c s { s with heap := s.heap.push o, toks := n } := .keeps fun _ _ e => Heap.get?_push_of_some o e
theorem Goes.push' {c : Fx} {s : Shared} {o : Obj} : Goes c s { s with heap := s.heap.push o } := ⟨.of_keeps fun _ _ e => Heap.get?_push_of_some o e, rfl, rfl⟩

section
variable {prog : Program} {w : World} {h0 : Heap} {q : Bool} {H : Nat} {sc : Scope} {c : Fx} {A : Around} {l : Addr} {ρ : St} {s : Shared} {E : Value → Shared → Prop}

theorem Sem0.use {α δ ε : Type} {tree : Env → Sem α} {says : View → δ → α → Prop} {φ : EM δ} {k : δ → EM ε} {r : Except Addr ε} {Q : α → Shared → Prop}
    (a : Sem0 prog w h0 q H sc tree says φ) (K : Fok h0 c sc) (hA : AOk q H c A) (R : Rel h0 c l ρ s.heap) (hE : PassesOwn (model prog w) A c.env E)
    (hr : φ.bind k ρ = some r) (hX : ErrOk h0 c s r E)
    (cont : ∀ d v s₁, k d ρ = some r → Goes c s s₁ → Rel h0 c l ρ s₁.heap → says (vw s₁.heap (hid c l)) d v → ErrOk h0 c s₁ r E → Q v s₁) :
    wpAny (model prog w) A (tree c.env) Q E s := by
  unfold EM.bind at hr
  cases hφ : φ ρ with
  | none => rw [hφ] at hr; cases hr
  | some r0 =>
    rw [hφ] at hr
    refine a c A l ρ s Q E K hA R hE r0 hφ (fun d hd v s' G hv => ?_) fun C hC e s' h1 h2 h3 => ?_
    · subst hd
      exact cont d v s' hr G (R.goes K G) hv (hX.goes G)
    · subst hC
      exact hX C (Option.some.inj hr).symm e s' h1 h2 h3
end

noncomputable def addD : Dat → Dat → Option Dat
  | .int a, .int b => some (.int (a + b))
  | .list a, .list b => if a.length + b.length ≤ 4096 then some (.list (a ++ b)) else none
  | .bytes a, .bytes b => if a.length + b.length ≤ 4096 then some (.bytes (a ++ b)) else none
  | _, _ => none
noncomputable def iiD (f : Int → Int → Option Dat) : Dat → Dat → Option Dat
  | .int a, .int b => f a b
  | _, _ => none
noncomputable def dblD : List Dat → Int → Option Dat
  | [a], b => if b = 2 then some (.list [a, a]) else none
  | _, _ => none
noncomputable def mulD : Dat → Dat → Option Dat
  | .int a, .int b => if a.natAbs < 2 ^ 60 then some (.int (a * b)) else none
  | .list as, .int b => dblD as b
  | _, _ => none
noncomputable def binD : Operator → Dat → Dat → Option Dat
  | .Add => addD
  | .Sub => iiD fun a b => some (.int (a - b))
  | .Mult => mulD
  | .FloorDiv => iiD fun a b => if 0 < b ∧ b < 2 ^ 20 then some (.int (a / b)) else none
  | .Mod => iiD fun a b => if 0 < b then some (.int (a % b)) else none
  | .BitOr => iiD fun a b => some (.int (Builtin.bitOr a b))
  | .BitAnd => iiD fun a b => some (.int (Builtin.bitAnd a b))
  | .RShift => iiD fun a b => if 0 ≤ b then some (.int (a / (2 ^ b.toNat))) else none
  | .LShift => iiD fun a b => if 0 ≤ b ∧ b ≤ 1000000 ∧ a.natAbs < 2 ^ 64 then some (.int (a * 2 ^ b.toNat)) else none
  | _ => fun _ _ => none
theorem iiD_some {f : Int → Int → Option Dat} {x y d : Dat} (h : iiD f x y = some d) : ∃ a b, x = .int a ∧ y = .int b ∧ f a b = some d := by
  cases x with
  | int a => cases y with
    | int b => exact ⟨a, b, rfl, rfl, h⟩
    | _ => cases h
  | _ => cases h
theorem iiD_rep {S : View} {f : Int → Int → Option Dat} {x y d : Dat} {v u : Value} (h : iiD f x y = some d) (hv : Rep S x v) (hu : Rep S y u) : ∃ a b t t', v = .int a t ∧ u = .int b t' ∧ f a b = some d := by
  obtain ⟨a, b, rfl, rfl, e⟩ := iiD_some h
  obtain ⟨t, rfl⟩ := hv
  obtain ⟨t', rfl⟩ := hu
  exact ⟨a, b, t, t', rfl, rfl, e⟩

theorem intBits_le {a : Int} (h : a.natAbs < 2 ^ 60) : Builtin.Int.intBits a ≤ 64 := by
  unfold Builtin.Int.intBits
  split
  · omega
  · rename_i h0
    have h1 : a.natAbs ≠ 0 := by simpa using h0
    have : a.natAbs.log2 < 60 := (Nat.log2_lt h1).mpr h
    omega

section
variable {prog : Program} {w : World} {h0 : Heap} {sc : Scope} {c : Fx} {A : Around} {l : Addr} {ρ : St} {s : Shared} {E : Value → Shared → Prop}
theorem int_res {i : Int} {Q : Value → Shared → Prop} (hQ : ∀ v s', Goes c s s' → Rep (vw s'.heap (hid c l)) (.int i) v → Q v s') {t : Tok} {n : Nat} : Q (.int i t) { s with toks := n } := hQ _ _ (.toks n) (by unfold Rep; exact ⟨_, rfl⟩)

theorem bin_sound {op : Operator} {x y d : Dat} {v u : Value} {Q : Value → Shared → Prop} (K : Fok h0 c sc) (R : Rel h0 c l ρ s.heap)
    (e : binD op x y = some d) (hv : Rep (vw s.heap (hid c l)) x v) (hu : Rep (vw s.heap (hid c l)) y u)
    (hQ : ∀ v s', Goes c s s' → Rep (vw s'.heap (hid c l)) d v → Q v s') : wpAny (model prog w) A (binaryOp op v u) Q E s := by
  cases op with
  | Add =>
    replace e : addD x y = some d := e
    cases x with
    | int a => cases y with
      | int b =>
        obtain rfl := Option.some.inj e
        obtain ⟨_, rfl⟩ := hv; obtain ⟨_, rfl⟩ := hu
        exact add_int (int_res hQ)
      | _ => cases e
    | list a => cases y with
      | list b =>
        replace e : (if a.length + b.length ≤ 4096 then some (Dat.list (a ++ b)) else none) = some d := e
        split at e
        · obtain rfl := Option.some.inj e
          rename_i hl
          unfold Rep at hv hu
          obtain ⟨a1, vs, n, rfl, ho, r1⟩ := hv
          obtain ⟨b1, us, n', rfl, ho', r2⟩ := hu
          have e1 : vs.toArray ++ us.toArray = (vs ++ us).toArray := by simp
          refine concat_meets ⟨_, vw_get ho, rfl⟩ ⟨_, vw_get ho', rfl⟩ noFill_list_add seq_list_add PySem.F.slot_list_add PySem.F.entry_list_add (PySem.F.args_list_add_2 _ _) (list_addW a1 b1 vs.toArray us.toArray n n' none none #[] #[] ?_) ⟨vw_get ho, vw_get ho', ?_⟩
          · rw [List.size_toArray, List.size_toArray, r1.length, r2.length, sizeLine_eq]; omega
          · rw [e1]
            have hf := R.fresh K
            refine hQ _ _ .push' ?_
            unfold Rep
            exact ⟨_, _, _, rfl, vw_push hf rfl, (r1.append r2).mono (Goes.vle .push' l)⟩
        · cases e
      | _ => cases e
    | bytes a => cases y with
      | bytes b =>
        replace e : (if a.length + b.length ≤ 4096 then some (Dat.bytes (a ++ b)) else none) = some d := e
        split at e
        · obtain rfl := Option.some.inj e
          rename_i hl
          obtain ⟨t, rfl⟩ := hv; obtain ⟨t', rfl⟩ := hu
          refine PySem.W.KBy.add_bytes (by simp; omega) fun t' k => ?_
          refine hQ _ _ (.toks k) ?_
          unfold Rep
          exact ⟨t', by simp⟩
        · cases e
      | _ => cases e
    | _ => cases e
  | Sub =>
    obtain ⟨a, b, t, t', rfl, rfl, e'⟩ := iiD_rep e hv hu
    clear e
    have e := e'; clear e'
    obtain rfl := Option.some.inj e
    exact sub_int (int_res hQ)
  | Mult =>
    replace e : mulD x y = some d := e
    cases x with
    | int a => cases y with
      | int b =>
        replace e : (if a.natAbs < 2 ^ 60 then some (Dat.int (a * b)) else none) = some d := e
        split at e
        · obtain rfl := Option.some.inj e
          rename_i h
          obtain ⟨_, rfl⟩ := hv; obtain ⟨_, rfl⟩ := hu
          exact mul_int (int_res hQ) (.of_left (intBits_le h))
        · cases e
      | _ => cases e
    | list as => cases y with
      | int b =>
        replace e : dblD as b = some d := e
        cases as with
        | nil => cases e
        | cons a as => cases as with
          | cons _ _ => cases e
          | nil =>
            replace e : (if b = 2 then some (Dat.list [a, a]) else none) = some d := e
            split at e
            · obtain rfl := Option.some.inj e
              rename_i h
              subst h
              unfold Rep at hv hu
              obtain ⟨a1, vs, n, rfl, ho, r1⟩ := hv
              obtain ⟨t, rfl⟩ := hu
              unfold Reps at r1
              obtain ⟨v1, r, rfl, h1, h2⟩ := r1
              unfold Reps at h2
              subst h2
              refine wpAny_binaryOp_repeat_ref (T := "list") (U := "int") (by decide) ⟨_, vw_get ho, rfl⟩ (fun s' => typeIs_int s' _ _) noFill_list_mul F.fills_int_mul F.slot_int_rmul repeat_list F.slot_int_index.lookup
                (call_meets F.slot_int_rmul (typeIs_int s _ _) F.entry_int_rmul (F.args_int_rmul_2 _ _) (int___rmul___int_list _ _ a1 [v1].toArray n)
                  ⟨vw_get ho, rfl, ⟨_, vw_get ho, rfl⟩, call_meets F.slot_list_mul ⟨_, vw_get ho, rfl⟩ F.entry_list_mul (F.args_list_mul_2 _ _)
                    (AutoListH.list___mul___list_int_3 a1 [v1].toArray n _ _ (by simp [Builtin.List.listFitsIndex]) (by simp) (by simp [Builtin.List.listTooLong, sizeLine]))
                    ⟨vw_get ho, ?_⟩⟩)
              have hf := R.fresh K
              refine hQ _ _ .push' ?_
              unfold Rep
              refine ⟨_, [v1, v1], _, rfl, vw_push hf rfl, ?_⟩
              exact (Reps.append (.one h1) (.one h1)).mono (Goes.vle .push' l)
            · cases e
      | _ => cases e
    | _ => cases e
  | FloorDiv =>
    obtain ⟨a, b, t, t', rfl, rfl, e'⟩ := iiD_rep e hv hu
    clear e
    have e := e'; clear e'
    split at e
    · obtain rfl := Option.some.inj e
      rename_i h
      refine floordiv_int (by omega) ?_ (.inl (PyProof.noPylong_small (by omega)))
      rw [Int.fdiv_eq_ediv_of_nonneg _ (by omega)]
      exact int_res hQ
    · cases e
  | Mod =>
    obtain ⟨a, b, t, t', rfl, rfl, e'⟩ := iiD_rep e hv hu
    clear e
    have e := e'; clear e'
    split at e
    · obtain rfl := Option.some.inj e
      rename_i h
      refine mod_int (by omega) ?_
      rw [Int.fmod_eq_emod_of_nonneg _ (by omega)]
      exact int_res hQ
    · cases e
  | BitOr =>
    obtain ⟨a, b, t, t', rfl, rfl, e'⟩ := iiD_rep e hv hu
    clear e
    have e := e'; clear e'
    obtain rfl := Option.some.inj e
    exact or_int (int_res hQ)
  | BitAnd =>
    obtain ⟨a, b, t, t', rfl, rfl, e'⟩ := iiD_rep e hv hu
    clear e
    have e := e'; clear e'
    obtain rfl := Option.some.inj e
    exact and_int (int_res hQ)
  | RShift =>
    obtain ⟨a, b, t, t', rfl, rfl, e'⟩ := iiD_rep e hv hu
    clear e
    have e := e'; clear e'
    split at e
    · obtain rfl := Option.some.inj e
      rename_i h
      refine rshift_int h ?_
      rw [Int.fdiv_eq_ediv_of_nonneg _ (Int.pow_nonneg (by decide))]
      exact int_res hQ
    · cases e
  | LShift =>
    obtain ⟨a, b, t, t', rfl, rfl, e'⟩ := iiD_rep e hv hu
    clear e
    have e := e'; clear e'
    split at e
    · obtain rfl := Option.some.inj e
      rename_i h
      exact lshift_int_small h.1 h.2.1 h.2.2 (int_res hQ)
    · cases e
  | _ => cases e
end
end Mine
end
section
set_option Elab.async false
set_option maxRecDepth 100000
open PySem PySem.W PyProof.Rows PySem.SeqAt PySem.Spec
namespace Mine

mutual
noncomputable def py : Dat → PyData
  | .none => .none
  | .bool b => .bool b
  | .int i => .int i
  | .str s => .str s
  | .tuple ds => .tuple (pys ds)
  | .list ds => .list (pys ds)
  | .bytes _ => .dict []
  | .obj _ => .dict []
noncomputable def pys : List Dat → List PyData
  | [] => []
  | d :: ds => py d :: pys ds
end
mutual
theorem reads_of {h : Heap} {M : List Addr} : ∀ {d : Dat} {v : Value}, Rep (vw h M) d v → (py d).canLay0 = true → ∃ as, Reads h v (py d) as
  | .none, v, r, _ => by unfold Rep at r; subst r; exact ⟨_, .none⟩
  | .bool b, v, r, _ => by unfold Rep at r; subst r; exact ⟨_, .bool b⟩
  | .int i, v, r, _ => by unfold Rep at r; obtain ⟨t, rfl⟩ := r; exact ⟨_, .int i t⟩
  | .str x, v, r, _ => by unfold Rep at r; obtain ⟨t, rfl⟩ := r; exact ⟨_, .str x t⟩
  | .bytes b, v, _, k => by unfold py at k; unfold PyData.canLay0 at k; cases k
  | .obj a, v, _, k => by unfold py at k; unfold PyData.canLay0 at k; cases k
  | .tuple ds, v, r, k => by
    unfold Rep at r
    obtain ⟨a, vs, n, rfl, ho, hr⟩ := r
    unfold py at k ⊢
    unfold PyData.canLay0 at k
    obtain ⟨as, h'⟩ := readsAll_of hr k
    exact ⟨as, .tuple (vw_get ho) rfl rfl (by simpa using h')⟩
  | .list ds, v, r, k => by
    unfold Rep at r
    obtain ⟨a, vs, n, rfl, ho, hr⟩ := r
    unfold py at k ⊢
    unfold PyData.canLay0 at k
    obtain ⟨as, h'⟩ := readsAll_of hr k
    exact ⟨_, .list (vw_get ho) rfl rfl (by simpa using h')⟩
theorem readsAll_of {h : Heap} {M : List Addr} : ∀ {ds : List Dat} {vs : List Value}, Reps (vw h M) ds vs → PyData.canLayAll0 (pys ds) = true → ∃ as, ReadsAll h vs (pys ds) as
  | [], vs, r, _ => by unfold Reps at r; subst r; unfold pys; exact ⟨_, .nil⟩
  | d :: ds, vs, r, k => by
    unfold Reps at r
    obtain ⟨v, r, rfl, h1, h2⟩ := r
    unfold pys at k ⊢
    unfold PyData.canLayAll0 at k
    obtain ⟨k1, k2⟩ := Bool.and_eq_true_iff.mp k
    obtain ⟨as, a1⟩ := reads_of h1 k1
    obtain ⟨bs, a2⟩ := readsAll_of h2 k2
    exact ⟨_, .cons a1 a2⟩
end

noncomputable def eqD : Dat → Dat → Option Bool
  | .bytes a, .bytes b => some (a == b)
  | x, y => if SeqAt.shaped (py x) = true ∧ SeqAt.shaped (py y) = true then some (PyData.eqv (py x) (py y)) else none
noncomputable def isNoneD : Dat → Bool
  | .none => true
  | _ => false
noncomputable def isD (t : Bool) (x : Dat) : Dat → Option Bool
  | .none => some (isNoneD x == t)
  | _ => none
noncomputable def ltD (f : Int → Int → Bool) : Dat → Dat → Option Bool
  | .int a, .int b => some (f a b)
  | _, _ => none
noncomputable def cmpD (op : CmpOp) (x y : Dat) : Option Bool := match op with
  | .Eq => eqD x y
  | .NotEq => (eqD x y).map (!·)
  | .Is => isD true x y
  | .IsNot => isD false x y
  | .Lt => ltD (fun a b => decide (a < b)) x y
  | .LtE => ltD (fun a b => decide (a ≤ b)) x y
  | .Gt => ltD (fun a b => decide (b < a)) x y
  | .GtE => ltD (fun a b => decide (b ≤ a)) x y
  | _ => none
theorem ltD_some {f : Int → Int → Bool} {x y : Dat} {b : Bool} {S : View} {v u : Value} (e : ltD f x y = some b) (hv : Rep S x v) (hu : Rep S y u) : ∃ i j t t', v = .int i t ∧ u = .int j t' ∧ b = f i j := by
  cases x <;> first | (simp [ltD] at e; done) | skip
  cases y <;> first | (simp [ltD] at e; done) | skip
  rename_i i j
  unfold Rep at hv hu
  obtain ⟨t, rfl⟩ := hv; obtain ⟨t', rfl⟩ := hu
  exact ⟨i, j, t, t', rfl, rfl, (Option.some.inj e).symm⟩
theorem isD_some {k : Bool} {x y : Dat} {b : Bool} {S : View} {u : Value} (e : isD k x y = some b) (hu : Rep S y u) : u = .none ∧ b = (isNoneD x == k) := by
  cases y <;> first | (simp [isD] at e; done) | skip
  unfold Rep at hu
  exact ⟨hu, (Option.some.inj e).symm⟩

section
variable {prog : Program} {w : World} {A : Around} {s : Shared} {E : Value → Shared → Prop} {M : List Addr}
theorem is_none_of {S : View} {x : Dat} {v : Value} (hv : Rep S x v) : plainIs v .none = true ∧ (v == .none) = isNoneD x := by
  cases x <;> unfold Rep at hv
  · subst hv; exact ⟨rfl, by decide⟩
  · subst hv; exact ⟨rfl, rfl⟩
  · obtain ⟨t, rfl⟩ := hv; exact ⟨rfl, rfl⟩
  · obtain ⟨t, rfl⟩ := hv; exact ⟨rfl, rfl⟩
  · obtain ⟨t, rfl⟩ := hv; exact ⟨rfl, rfl⟩
  · obtain ⟨a, vs, n, rfl, _⟩ := hv; exact ⟨rfl, rfl⟩
  · obtain ⟨a, vs, n, rfl, _⟩ := hv; exact ⟨rfl, rfl⟩
  · subst hv; exact ⟨rfl, rfl⟩

theorem eq_sound {x y : Dat} {b : Bool} {v u : Value} {Q : Value → Shared → Prop} (e : eqD x y = some b) (hv : Rep (vw s.heap M) x v) (hu : Rep (vw s.heap M) y u) (hA : A.units + 64 < cLine)
    (hQ : Q (.bool b) s) : wpAny (model prog w) A (compareOp .Eq v u) Q E s := by
  unfold eqD at e
  split at e
  · obtain rfl := Option.some.inj e
    unfold Rep at hv hu
    obtain ⟨_, rfl⟩ := hv; obtain ⟨_, rfl⟩ := hu
    exact eq_bytes (by simpa using hQ)
  · split at e
    · rename_i h
      obtain rfl := Option.some.inj e
      obtain ⟨as, r1⟩ := reads_of hv (canLay_of_shaped h.1)
      obtain ⟨bs, r2⟩ := reads_of hu (canLay_of_shaped h.2)
      exact eq_dataH r1 r2 h.1 h.2 hA hQ
    · cases e
theorem ne_sound {x y : Dat} {b : Bool} {v u : Value} {Q : Value → Shared → Prop} (e : eqD x y = some b) (hv : Rep (vw s.heap M) x v) (hu : Rep (vw s.heap M) y u) (hA : A.units + 64 < cLine)
    (hQ : Q (.bool (!b)) s) : wpAny (model prog w) A (compareOp .NotEq v u) Q E s := by
  unfold eqD at e
  split at e
  · obtain rfl := Option.some.inj e
    unfold Rep at hv hu
    obtain ⟨_, rfl⟩ := hv; obtain ⟨_, rfl⟩ := hu
    exact ne_bytes (by simpa [bne] using hQ)
  · split at e
    · rename_i h
      obtain rfl := Option.some.inj e
      obtain ⟨as, r1⟩ := reads_of hv (canLay_of_shaped h.1)
      obtain ⟨bs, r2⟩ := reads_of hu (canLay_of_shaped h.2)
      exact ne_dataH r1 r2 h.1 h.2 hA hQ
    · cases e
theorem cmp_sound {op : CmpOp} {x y : Dat} {b : Bool} {v u : Value} {Q : Value → Shared → Prop} (e : cmpD op x y = some b) (hv : Rep (vw s.heap M) x v) (hu : Rep (vw s.heap M) y u) (hA : A.units + 64 < cLine)
    (hQ : Q (.bool b) s) : wpAny (model prog w) A (compareOp op v u) Q E s := by
  cases op
  case Eq => exact eq_sound e hv hu hA hQ
  case NotEq =>
    obtain ⟨b', e', rfl⟩ := Option.map_eq_some_iff.mp (show (eqD x y).map (!·) = some b from e)
    exact ne_sound e' hv hu hA hQ
  case Is =>
    obtain ⟨rfl, rfl⟩ := isD_some e hu
    obtain ⟨h1, h2⟩ := is_none_of hv
    exact wpAny_is_plain h1 (by rw [h2]; simpa using hQ)
  case IsNot =>
    obtain ⟨rfl, rfl⟩ := isD_some e hu
    obtain ⟨h1, h2⟩ := is_none_of hv
    exact wpAny_isNot_plain h1 (by rw [h2]; simpa using hQ)
  case Lt => obtain ⟨i, j, t, t', rfl, rfl, rfl⟩ := ltD_some e hv hu; exact lt_int hQ
  case LtE => obtain ⟨i, j, t, t', rfl, rfl, rfl⟩ := ltD_some e hv hu; exact le_int hQ
  case Gt => obtain ⟨i, j, t, t', rfl, rfl, rfl⟩ := ltD_some e hv hu; exact gt_int hQ
  case GtE => obtain ⟨i, j, t, t', rfl, rfl, rfl⟩ := ltD_some e hv hu; exact ge_int hQ
  all_goals cases e
end

section
variable {prog : Program} {w : World} {h0 : Heap} {q : Bool} {H : Nat} {sc : Scope}
theorem AOk.units64 {c : Fx} {A : Around} (hA : AOk q H c A) (h : 3 ≤ H) : A.units + 64 < cLine := by have := hA.units; omega

theorem lift_some {α : Type} {o : Option α} {ρ : St} {r : Except Addr α} (h : EM.lift o ρ = some r) : ∃ x, o = some x ∧ r = .ok x := by
  unfold EM.lift at h
  obtain ⟨x, e, rfl⟩ := Option.map_eq_some_iff.mp h
  exact ⟨x, e, rfl⟩

theorem bind_lift {α β : Type} {o : Option α} {k : α → EM β} {ρ : St} {r : Except Addr β} (h : (EM.lift o).bind k ρ = some r) : ∃ t, o = some t ∧ k t ρ = some r := by
  cases o with
  | none => cases h
  | some t => exact ⟨t, rfl, h⟩

theorem SemE.bin {a b : Expr} {op : Operator} {pos : Pos} {φ ψ : EM Dat} (ha : SemE prog w h0 q H sc a φ) (hb : SemE prog w h0 q H sc b ψ) :
    SemE prog w h0 q H sc (.BinOp a op b pos) (φ.bind fun x => ψ.bind fun y => EM.lift (binD op x y)) := by
  intro c A l ρ s Q E K hA R hE r hr hQ hX
  refine wpAny_BinOp (ha.use K hA R hE hr hX fun d v s₁ hr₁ G₁ R₁ hv hX₁ => ?_)
  refine hb.use K hA R₁ hE hr₁ hX₁ fun d' v' s₂ hr₂ G₂ R₂ hv' hX₂ => ?_
  obtain ⟨x, e, rfl⟩ := lift_some hr₂
  exact bin_sound K R₂ e (hv.mono (G₂.vle l)) hv' fun v s' G h => hQ _ rfl v s' ((G₁.trans G₂).trans G) h

theorem SemE.int {i : Int} {k pos} : SemE prog w h0 q H sc (.Constant (.int i) k pos) (EM.pure (.int i)) := by
  intro c A l ρ s Q E K hA R hE r hr hQ hX
  obtain rfl : Except.ok (Dat.int i) = r := Option.some.inj hr
  exact wpAny_Constant_int (hQ _ rfl _ _ (.toks _) (by unfold Rep; exact ⟨_, rfl⟩))
theorem SemE.strc {x : Str} {k pos} : SemE prog w h0 q H sc (.Constant (.str x) k pos) (EM.pure (.str x)) := by
  intro c A l ρ s Q E K hA R hE r hr hQ hX
  obtain rfl : Except.ok (Dat.str x) = r := Option.some.inj hr
  exact wpAny_Constant_str (hQ _ rfl _ _ (.toks _) (by unfold Rep; exact ⟨_, rfl⟩))
theorem SemE.bytesc {x : List UInt8} {k pos} : SemE prog w h0 q H sc (.Constant (.bytes x) k pos) (EM.pure (.bytes x)) := by
  intro c A l ρ s Q E K hA R hE r hr hQ hX
  obtain rfl : Except.ok (Dat.bytes x) = r := Option.some.inj hr
  exact Constant_bytes (hQ _ rfl _ _ (.toks _) (by unfold Rep; exact ⟨_, rfl⟩))
theorem SemE.boolc {b : Bool} {k pos} : SemE prog w h0 q H sc (.Constant (.bool b) k pos) (EM.pure (.bool b)) := by
  intro c A l ρ s Q E K hA R hE r hr hQ hX
  obtain rfl : Except.ok (Dat.bool b) = r := Option.some.inj hr
  exact Constant_bool (hQ _ rfl _ _ (.refl _ _) (by unfold Rep; rfl))
theorem SemE.nonec {k pos} : SemE prog w h0 q H sc (.Constant .none k pos) (EM.pure .none) := by
  intro c A l ρ s Q E K hA R hE r hr hQ hX
  obtain rfl : Except.ok Dat.none = r := Option.some.inj hr
  exact Constant_none (hQ _ rfl _ _ (.refl _ _) (by unfold Rep; rfl))

theorem SemE.cmp1 {a b : Expr} {op : CmpOp} {pos : Pos} {φ ψ : EM Dat} (hH : 3 ≤ H) (ha : SemE prog w h0 q H sc a φ) (hb : SemE prog w h0 q H sc b ψ) (hm : behindInMarks op b = false) :
    SemE prog w h0 q H sc (.Compare a [op] [b] pos) (φ.bind fun x => ψ.bind fun y => EM.lift ((cmpD op x y).map .bool)) := by
  intro c A l ρ s Q E K hA R hE r hr hQ hX
  refine wpAny_Compare1 (hm := hm) (ha.use K hA R hE hr hX fun d v s₁ hr₁ G₁ R₁ hv hX₁ => ?_)
  refine hb.use K hA R₁ hE hr₁ hX₁ fun d' v' s₂ hr₂ G₂ R₂ hv' hX₂ => ?_
  obtain ⟨x, e, rfl⟩ := lift_some hr₂
  obtain ⟨b, e', rfl⟩ := Option.map_eq_some_iff.mp e
  exact cmp_sound e' (hv.mono (G₂.vle l)) hv' (hA.units64 hH) (hQ _ rfl _ _ (G₁.trans G₂) (by unfold Rep; rfl))
theorem SemT.cmp1 {a b : Expr} {op : CmpOp} {pos : Pos} {φ ψ : EM Dat} (hH : 3 ≤ H) (ha : SemE prog w h0 q H sc a φ) (hb : SemE prog w h0 q H sc b ψ) (hm : behindInMarks op b = false) :
    SemT prog w h0 q H sc (.Compare a [op] [b] pos) (φ.bind fun x => ψ.bind fun y => EM.lift (cmpD op x y)) := by
  intro c A l ρ s Q E K hA R hE r hr hQ hX
  refine wpAny_isTrue_Compare1 (hm := hm) (ha.use K hA R hE hr hX fun d v s₁ hr₁ G₁ R₁ hv hX₁ => ?_)
  refine hb.use K hA R₁ hE hr₁ hX₁ fun d' v' s₂ hr₂ G₂ R₂ hv' hX₂ => ?_
  obtain ⟨b, e, rfl⟩ := lift_some hr₂
  exact cmp_sound e (hv.mono (G₂.vle l)) hv' (hA.units64 hH) (wpAny_truthy_bool (hQ _ rfl _ _ (G₁.trans G₂) rfl))
/-- a chain of two -/
noncomputable def chain2 (φ ψ χ : EM Dat) (op op' : CmpOp) : EM Bool := φ.bind fun x => ψ.bind fun y => (EM.lift (cmpD op x y)).bind fun t => if t then χ.bind fun z => EM.lift (cmpD op' y z) else EM.pure false
theorem SemE.cmp2 {a b d : Expr} {op op' : CmpOp} {pos : Pos} {φ ψ χ : EM Dat} (hH : 3 ≤ H) (ha : SemE prog w h0 q H sc a φ) (hb : SemE prog w h0 q H sc b ψ) (hd : SemE prog w h0 q H sc d χ) (hm : lastMarks [op, op'] [b, d] = false) :
    SemE prog w h0 q H sc (.Compare a [op, op'] [b, d] pos) ((chain2 φ ψ χ op op').bind fun t => EM.pure (.bool t)) := by
  intro c A l ρ s Q E K hA R hE r hr hQ hX
  have hr' : (φ.bind fun x => ψ.bind fun y => (EM.lift (cmpD op x y)).bind fun t => if t then (χ.bind fun z => (EM.lift (cmpD op' y z)).bind fun t => EM.pure (.bool t)) else EM.pure (.bool false)) ρ = some r := by
    rw [← hr]
    unfold chain2 EM.bind
    cases φ ρ with
    | none => rfl
    | some x => cases x with
      | error C => rfl
      | ok x => dsimp only; cases ψ ρ with
        | none => rfl
        | some y => cases y with
          | error C => rfl
          | ok y => dsimp only; cases EM.lift (cmpD op x y) ρ with
            | none => rfl
            | some t => cases t with
              | error C => rfl
              | ok t => cases t with
                | false => rfl
                | true => dsimp only; simp only [if_true]; cases χ ρ with
                  | none => rfl
                  | some z => cases z <;> rfl
  refine Compare_chain (hm := hm) (ha.use K hA R hE hr' hX fun x v s₁ hr₁ G₁ R₁ hv hX₁ => chain_link ?_)
  refine hb.use K hA R₁ hE hr₁ hX₁ fun y v' s₂ hr₂ G₂ R₂ hv' hX₂ => ?_
  obtain ⟨t, hc, hr₂⟩ := bind_lift hr₂
  · refine cmp_sound hc (hv.mono (G₂.vle l)) hv' (hA.units64 hH) (wpAny_truthy_bool ?_)
    cases t with
    | false =>
      obtain rfl : Except.ok (Dat.bool false) = r := Option.some.inj hr₂
      exact hQ _ rfl _ _ (G₁.trans G₂) (by unfold Rep; rfl)
    | true =>
      simp only [if_true] at hr₂
      simp only [if_true]
      refine chain_last (hd.use K hA R₂ hE hr₂ hX₂ fun z v'' s₃ hr₃ G₃ R₃ hv'' hX₃ => ?_)
      obtain ⟨t, hc', hr₃⟩ := bind_lift hr₃
      · obtain rfl : Except.ok (Dat.bool t) = r := Option.some.inj hr₃
        exact cmp_sound hc' (hv'.mono (G₃.vle l)) hv'' (hA.units64 hH) (hQ _ rfl _ _ ((G₁.trans G₂).trans G₃) (by unfold Rep; rfl))
theorem SemT.cmp2 {a b d : Expr} {op op' : CmpOp} {pos : Pos} {φ ψ χ : EM Dat} (hH : 3 ≤ H) (ha : SemE prog w h0 q H sc a φ) (hb : SemE prog w h0 q H sc b ψ) (hd : SemE prog w h0 q H sc d χ) (hm : lastMarks [op, op'] [b, d] = false) :
    SemT prog w h0 q H sc (.Compare a [op, op'] [b, d] pos) (chain2 φ ψ χ op op') := by
  intro c A l ρ s Q E K hA R hE r hr hQ hX
  refine isTrue_chain (hm := hm) (ha.use K hA R hE hr hX fun x v s₁ hr₁ G₁ R₁ hv hX₁ => test_link ?_)
  refine hb.use K hA R₁ hE hr₁ hX₁ fun y v' s₂ hr₂ G₂ R₂ hv' hX₂ => ?_
  obtain ⟨t, hc, hr₂⟩ := bind_lift hr₂
  · refine cmp_sound hc (hv.mono (G₂.vle l)) hv' (hA.units64 hH) (wpAny_truthy_bool ?_)
    cases t with
    | false =>
      obtain rfl : Except.ok false = r := Option.some.inj hr₂
      exact hQ _ rfl _ _ (G₁.trans G₂) rfl
    | true =>
      simp only [if_true] at hr₂
      simp only [if_true]
      refine test_last (hd.use K hA R₂ hE hr₂ hX₂ fun z v'' s₃ hr₃ G₃ R₃ hv'' hX₃ => ?_)
      obtain ⟨t, hc', rfl⟩ := lift_some hr₃
      exact cmp_sound hc' (hv'.mono (G₃.vle l)) hv'' (hA.units64 hH) (wpAny_truthy_bool (hQ _ rfl _ _ ((G₁.trans G₂).trans G₃) rfl))
end
end Mine
end
section
set_option Elab.async false
set_option maxRecDepth 100000
open PySem PySem.W PyProof.Rows PySem.SeqAt PySem.Spec
namespace Mine

noncomputable abbrev KF (w : World) : Frag := k0.heap_1 w.params
structure Gd (w : World) (h0 : Heap) : Prop where
  X : (KF w).In h0
  T : ∃ mg mb, TopRead qv (looseW qv loose) mg mb h0

noncomputable def rd (i : Nat) : EM Dat := fun ρ => (ρ.loc i).map .ok

section
variable {prog : Program} {w : World} {h0 : Heap} {q : Bool} {H : Nat} {sc : Scope}
theorem SemE.var {x : Str} {pos : Pos} (i : Nat) (hx : nm sc i = some x) (h1 : (x == ("__debug__" : Str)) = false) (h2 : (x == ("__classdict__" : Str)) = false) : SemE prog w h0 q H sc (.Name x pos) (rd i) := by
  intro c A l ρ s Q E K hA R hE r hr hQ hX
  unfold rd at hr
  obtain ⟨d, hd, rfl⟩ := Option.map_eq_some_iff.mp hr
  obtain ⟨m, hn, a1, _, _⟩ := R.ns
  obtain ⟨x', hx', hl⟩ := a1 i d hd
  rw [K.is, hx] at hx'
  cases hx'
  have hk : c.env.scope.kind = .function := K.is ▸ K.kind
  refine wpAny_Name ?_ h1
  rcases hl with ⟨k, v, hm, hr⟩ | ⟨k, a, o, v, hc, ho, hd, _, _, _, _, hr⟩
  · exact wpAny_loadName_local hk k hn hm (hQ _ rfl _ _ (.refl _ _) hr)
  · rcases k with k | k
    · exact wpAny_loadName_cell hk k hc ⟨o, ho, hd⟩ (hQ _ rfl _ _ (.refl _ _) hr)
    · exact wpAny_loadName_free hk k hc ⟨o, ho, hd⟩ (hQ _ rfl _ _ (.refl _ _) hr) h2

theorem Rel.hid0 {c : Fx} {l : Addr} {ρ : St} {h : Heap} (K : Fok h0 c sc) (R : Rel h0 c l ρ h) {a : Addr} (ha : a ∈ hid c l) : h0.get? a = none := by
  obtain ⟨m, hn, _, a2, _⟩ := R.ns
  rcases List.mem_cons.mp ha with rfl | ha
  · exact K.bL
  rcases List.mem_cons.mp ha with rfl | ha
  · cases ho : ρ.own with
    | none => rw [R.lb ho]; exact K.bL
    | some p => obtain ⟨i, ds⟩ := p; obtain ⟨_, _, _, _, _, _, _, _, _, _, _, _, h, _⟩ := a2 i ds ho; exact h
  rcases List.mem_append.mp ha with ha | ha
  · exact (R.pm_in K ha).1
  · exact frames_none R.frs ha
theorem Rel.vle0 {c : Fx} {l : Addr} {ρ : St} {h : Heap} (G : Gd w h0) (K : Fok h0 c sc) (R : Rel h0 c l ρ h) : VLe (fun a => (KF w).lookup a) (vw h (hid c l)) := fun a o e => by
  have e0 := G.X a o e
  exact vw_at (R.stays a o e0) fun q => by rw [R.hid0 K q] at e0; cases e0

theorem glob_at {c : Fx} {A : Around} {l : Addr} {ρ : St} {s : Shared} {Q : Value → Shared → Prop} {E : Value → Shared → Prop} {x : Str} {pos : Pos} {v : Value} (G : Gd w h0) (K : Fok h0 c sc) (R : Rel h0 c l ρ s.heap)
    (hx : sc.names.lookup x = some .globalImplicit) (e : nsIn (KF w) mainGlobals x = some (some v)) (hd : (x == ("__debug__" : Str)) = false) (h : Q v s) : wpAny (model prog w) A (eval (.Name x pos) c.env) Q E s := by
  obtain ⟨mg, mb, T⟩ := G.T
  refine Calls.Name_function_global (K.is ▸ K.kind) (by rw [Env.kindOf, K.is]; exact hx) (Calls.loadGlobal_global (mg := mg) ?_ (mg_of G.X T.g e) h) hd
  rw [K.glob]; exact T.g.keeps R.stays
theorem blt_at {c : Fx} {A : Around} {l : Addr} {ρ : St} {s : Shared} {Q : Value → Shared → Prop} {E : Value → Shared → Prop} {x : Str} {pos : Pos} {v : Value} (G : Gd w h0) (K : Fok h0 c sc) (R : Rel h0 c l ρ s.heap)
    (hx : sc.names.lookup x = some .globalImplicit) (e : nsIn (KF w) mainGlobals x = some none) (hb : bootBuiltins x = some v) (hn : x ≠ "__name__") (hd : (x == ("__debug__" : Str)) = false) (h : Q v s) :
    wpAny (model prog w) A (eval (.Name x pos) c.env) Q E s := by
  obtain ⟨mg, mb, T⟩ := G.T
  refine Calls.Name_function_global (K.is ▸ K.kind) (by rw [Env.kindOf, K.is]; exact hx) (Calls.loadGlobal_builtin (mg := mg) (mb := mb) ?_ (mg_none_of G.X T.g e) ?_ ((T.builtins x hn).trans hb) h) hd
  · rw [K.glob]; exact T.g.keeps R.stays
  · rw [K.blt]; exact T.b.keeps R.stays

theorem SemE.glob {x : Str} {pos : Pos} {v : Value} {d : Dat} (G : Gd w h0) (hx : sc.names.lookup x = some .globalImplicit) (e : nsIn (KF w) mainGlobals x = some (some v)) (hd : (x == ("__debug__" : Str)) = false)
    (hr : Rep (fun a => (KF w).lookup a) d v) : SemE prog w h0 q H sc (.Name x pos) (EM.pure d) := by
  intro c A l ρ s Q E K hA R hE r hr' hQ hX
  obtain rfl : Except.ok d = r := Option.some.inj hr'
  exact glob_at G K R hx e hd (hQ _ rfl _ _ (.refl _ _) (hr.mono (R.vle0 G K)))

/-- what an argument list says -/
noncomputable def SemA (prog : Program) (w : World) (h0 : Heap) (q : Bool) (H : Nat) (sc : Scope) (es : List Expr) (φ : EM (List Dat)) : Prop :=
  ∀ pos, Sem0 prog w h0 q H sc (fun env => spliced (backTo pos (starEach es env))) Reps φ
theorem SemA.nil : SemA prog w h0 q H sc [] (EM.pure []) := by
  intro pos c A l ρ s Q E K hA R hE r hr hQ hX
  obtain rfl : Except.ok [] = r := Option.some.inj hr
  exact Calls.spliced_nil (hQ _ rfl _ _ (.refl _ _) (by unfold Reps; rfl))
theorem SemA.cons {e : Expr} {es : List Expr} {φ : EM Dat} {ψ : EM (List Dat)} (ha : SemE prog w h0 q H sc e φ) (hb : SemA prog w h0 q H sc es ψ) (hs : ∀ env, starEach (e :: es) env = (false, eval e env) :: starEach es env := by intro _; rfl) :
    SemA prog w h0 q H sc (e :: es) (φ.bind fun x => ψ.bind fun xs => EM.pure (x :: xs)) := by
  intro pos c A l ρ s Q E K hA R hE r hr hQ hX
  dsimp only
  rw [hs]
  refine Calls.spliced_cons (ha.use K hA R hE hr hX fun d v s₁ hr₁ G₁ R₁ hv hX₁ => ?_)
  refine (hb pos).use K hA R₁ hE hr₁ hX₁ fun d' v' s₂ hr₂ G₂ R₂ hv' hX₂ => ?_
  obtain rfl : Except.ok (d :: d') = r := Option.some.inj hr₂
  exact hQ _ rfl _ _ (G₁.trans G₂) (by unfold Reps; exact ⟨_, _, rfl, hv.mono (G₂.vle l), hv'⟩)

theorem SemE.tuple {es : List Expr} {k : Nat} {pos : Pos} {φ : EM (List Dat)} (ha : SemA prog w h0 q H sc es φ) :
    SemE prog w h0 q H sc (.Tuple es k pos) (φ.bind fun ds => EM.lift (if ds.length ≤ 64 then some (.tuple ds) else none)) := by
  intro c A l ρ s Q E K hA R hE r hr hQ hX
  refine Tuple_ ((ha pos).use K hA R hE hr hX fun d v s₁ hr₁ G₁ R₁ hv hX₁ => ?_)
  obtain ⟨x, e, rfl⟩ := lift_some hr₁
  split at e
  · obtain rfl := Option.some.inj e
    refine wpAny_newObj_type (hQ _ rfl _ _ (G₁.trans .push') ?_) (by show v.toArray.size ≤ sizeLine; rw [List.size_toArray, hv.length, sizeLine_eq]; omega)
    unfold Rep
    exact ⟨_, v, _, rfl, vw_push (R₁.fresh K) rfl, hv.mono (Goes.vle .push' l)⟩
  · cases e
theorem SemE.list {es : List Expr} {pos : Pos} {φ : EM (List Dat)} (ha : SemA prog w h0 q H sc es φ) :
    SemE prog w h0 q H sc (.List es pos) (φ.bind fun ds => EM.lift (if ds.length ≤ 64 then some (.list ds) else none)) := by
  intro c A l ρ s Q E K hA R hE r hr hQ hX
  refine List_ ((ha pos).use K hA R hE hr hX fun d v s₁ hr₁ G₁ R₁ hv hX₁ => ?_)
  obtain ⟨x, e, rfl⟩ := lift_some hr₁
  split at e
  · obtain rfl := Option.some.inj e
    refine wpAny_newObj_type (hQ _ rfl _ _ (G₁.trans .push') ?_) (by show v.toArray.size ≤ sizeLine; rw [List.size_toArray, hv.length, sizeLine_eq]; omega)
    unfold Rep
    exact ⟨_, v, _, rfl, vw_push (R₁.fresh K) rfl, hv.mono (Goes.vle .push' l)⟩
  · cases e

/-- boolean words -/
noncomputable def toB : Dat → Option Bool
  | .bool b => some b
  | _ => none
theorem truthy_bool_of {M : Model} {A : Around} {E : Value → Shared → Prop} {s : Shared} {S : View} {d : Dat} {v : Value} {b : Bool} {Q : Bool → Shared → Prop} (e : toB d = some b) (hv : Rep S d v) (h : Q b s) : wpAny M A (truthy v) Q E s := by
  cases d <;> first | (simp [toB] at e; done) | skip
  unfold Rep at hv
  subst hv
  obtain rfl := Option.some.inj e
  exact wpAny_truthy_bool h
theorem SemT.plain {e : Expr} {φ : EM Dat} (ha : SemE prog w h0 q H sc e φ) (he : ∀ env, isTrue e env (eval e env) = (do let v ← eval e env; standAt e.pos; holding [v] (truthy v)) := by intro _; rfl) :
    SemT prog w h0 q H sc e (φ.bind fun x => EM.lift (toB x)) := by
  intro c A l ρ s Q E K hA R hE r hr hQ hX
  dsimp only
  refine isTrue_plain (ha.use K hA R hE hr hX fun d v s₁ hr₁ G₁ R₁ hv hX₁ => ?_) (he c.env)
  obtain ⟨b, e, rfl⟩ := lift_some hr₁
  exact truthy_bool_of e hv (hQ _ rfl _ _ G₁ rfl)
theorem SemT.not {e : Expr} {pos : Pos} {φ : EM Bool} (ha : SemT prog w h0 q H sc e φ) : SemT prog w h0 q H sc (.UnaryOp .Not e pos) (φ.bind fun b => EM.pure (!b)) := by
  intro c A l ρ s Q E K hA R hE r hr hQ hX
  refine isTrue_not (ha.use K hA R hE hr hX fun d v s₁ hr₁ G₁ R₁ hv hX₁ => ?_)
  subst hv
  obtain rfl : Except.ok (!v) = r := Option.some.inj hr₁
  exact hQ _ rfl _ _ G₁ rfl
theorem SemT.andNil {pos : Pos} : SemT prog w h0 q H sc (.BoolOp .And [] pos) (EM.pure true) := by
  intro c A l ρ s Q E K hA R hE r hr hQ hX
  obtain rfl : Except.ok true = r := Option.some.inj hr
  exact isTrue_and_nil (hQ _ rfl _ _ (.refl _ _) rfl)
theorem SemT.orNil {pos : Pos} : SemT prog w h0 q H sc (.BoolOp .Or [] pos) (EM.pure false) := by
  intro c A l ρ s Q E K hA R hE r hr hQ hX
  obtain rfl : Except.ok false = r := Option.some.inj hr
  exact isTrue_or_nil (hQ _ rfl _ _ (.refl _ _) rfl)
theorem isTrue_and_any {op : BoolOp} {es : List Expr} {pos : Pos} {env : Env} {t t' : Sem Value} : isTrue (.BoolOp op es pos) env t = isTrue (.BoolOp op es pos) env t' := rfl
theorem SemT.and {e : Expr} {es : List Expr} {pos : Pos} {φ ψ : EM Bool} (ha : SemT prog w h0 q H sc e φ) (hb : SemT prog w h0 q H sc (.BoolOp .And es pos) ψ) :
    SemT prog w h0 q H sc (.BoolOp .And (e :: es) pos) (φ.bind fun b => if b then ψ else EM.pure false) := by
  intro c A l ρ s Q E K hA R hE r hr hQ hX
  refine isTrue_and (ha.use K hA R hE hr hX fun d v s₁ hr₁ G₁ R₁ hv hX₁ => ?_)
  subst hv
  cases v with
  | false =>
    obtain rfl : Except.ok false = r := Option.some.inj hr₁
    exact hQ _ rfl _ _ G₁ rfl
  | true =>
    simp only [if_true] at hr₁ ⊢
    rw [isTrue_and_any (t' := eval (.BoolOp .And es pos) c.env)]
    exact hb c A l ρ s₁ Q E K hA R₁ hE r hr₁ (fun d hd v s' G h => hQ d hd v s' (G₁.trans G) h) hX₁
theorem SemT.or {e : Expr} {es : List Expr} {pos : Pos} {φ ψ : EM Bool} (ha : SemT prog w h0 q H sc e φ) (hb : SemT prog w h0 q H sc (.BoolOp .Or es pos) ψ) :
    SemT prog w h0 q H sc (.BoolOp .Or (e :: es) pos) (φ.bind fun b => if b then EM.pure true else ψ) := by
  intro c A l ρ s Q E K hA R hE r hr hQ hX
  refine isTrue_or (ha.use K hA R hE hr hX fun d v s₁ hr₁ G₁ R₁ hv hX₁ => ?_)
  subst hv
  cases v with
  | true =>
    obtain rfl : Except.ok true = r := Option.some.inj hr₁
    exact hQ _ rfl _ _ G₁ rfl
  | false =>
    simp only [Bool.false_eq_true, if_false] at hr₁ ⊢
    rw [isTrue_and_any (t' := eval (.BoolOp .Or es pos) c.env)]
    exact hb c A l ρ s₁ Q E K hA R₁ hE r hr₁ (fun d hd v s' G h => hQ d hd v s' (G₁.trans G) h) hX₁
theorem SemE.ife {t a b : Expr} {pos : Pos} {τ : EM Bool} {φ ψ : EM Dat} (ht : SemT prog w h0 q H sc t τ) (ha : SemE prog w h0 q H sc a φ) (hb : SemE prog w h0 q H sc b ψ) :
    SemE prog w h0 q H sc (.IfExp t a b pos) (τ.bind fun x => if x then φ else ψ) := by
  intro c A l ρ s Q E K hA R hE r hr hQ hX
  refine IfExp_ (ht.use K hA R hE hr hX fun d v s₁ hr₁ G₁ R₁ hv hX₁ => ?_)
  subst hv
  cases v with
  | true => exact ha c A l ρ s₁ Q E K hA R₁ hE r hr₁ (fun d hd v s' G h => hQ d hd v s' (G₁.trans G) h) hX₁
  | false => exact hb c A l ρ s₁ Q E K hA R₁ hE r hr₁ (fun d hd v s' G h => hQ d hd v s' (G₁.trans G) h) hX₁
/-- words in the place of a value: all of them bools -/
theorem SemE.notE {e : Expr} {pos : Pos} {φ : EM Dat} (ha : SemE prog w h0 q H sc e φ) : SemE prog w h0 q H sc (.UnaryOp .Not e pos) (φ.bind fun x => EM.lift ((toB x).map fun b => .bool (!b))) := by
  intro c A l ρ s Q E K hA R hE r hr hQ hX
  refine UnaryOp_ (ha.use K hA R hE hr hX fun d v s₁ hr₁ G₁ R₁ hv hX₁ => ?_)
  obtain ⟨x, e, rfl⟩ := lift_some hr₁
  obtain ⟨b, e', rfl⟩ := Option.map_eq_some_iff.mp e
  exact not_of (truthy_bool_of e' hv (hQ _ rfl _ _ G₁ (by unfold Rep; rfl)))
theorem SemE.bool1 {op : BoolOp} {e : Expr} {pos : Pos} {φ : EM Dat} (ha : SemE prog w h0 q H sc e φ) : SemE prog w h0 q H sc (.BoolOp op [e] pos) φ := fun c A l ρ s Q E K hA R hE r hr hQ hX =>
  BoolOp_one (ha c A l ρ s Q E K hA R hE r hr hQ hX)
theorem SemE.and {e e₂ : Expr} {es : List Expr} {pos : Pos} {φ ψ : EM Dat} (ha : SemE prog w h0 q H sc e φ) (hb : SemE prog w h0 q H sc (.BoolOp .And (e₂ :: es) pos) ψ) :
    SemE prog w h0 q H sc (.BoolOp .And (e :: e₂ :: es) pos) (φ.bind fun x => (EM.lift (toB x)).bind fun b => if b then ψ else EM.pure (.bool false)) := by
  intro c A l ρ s Q E K hA R hE r hr hQ hX
  refine BoolOp_and (ha.use K hA R hE hr hX fun d v s₁ hr₁ G₁ R₁ hv hX₁ => ?_)
  obtain ⟨b, e, hr₁⟩ := bind_lift hr₁
  refine truthy_bool_of e hv ?_
  cases b with
  | false =>
    obtain rfl : Except.ok (Dat.bool false) = r := Option.some.inj hr₁
    cases d <;> first | (simp [toB] at e; done) | skip
    obtain rfl := Option.some.inj e
    exact hQ _ rfl _ _ G₁ hv
  | true =>
    simp only [if_true] at hr₁ ⊢
    exact hb c A l ρ s₁ Q E K hA R₁ hE r hr₁ (fun d hd v s' G h => hQ d hd v s' (G₁.trans G) h) hX₁
end
end Mine
end
section
set_option Elab.async false
set_option maxRecDepth 100000
open PySem PySem.W PyProof.Rows PySem.SeqAt PySem.Spec
namespace Mine

noncomputable def itemD : Dat → Int → Option Dat
  | .bytes b, i => if 0 ≤ i ∧ i < b.length ∧ b.length ≤ 4096 then some (.int ((b.getD i.toNat 0).toNat : Int)) else none
  | .list ds, i => if ds.length ≤ 4096 then (if 0 ≤ i then ds[i.toNat]? else if -(ds.length : Int) ≤ i then ds[(i + ds.length).toNat]? else none) else none
  | .tuple ds, i => if ds.length ≤ 4096 ∧ 0 ≤ i ∧ i < ds.length then ds[i.toNat]? else none
  | _, _ => none
noncomputable def sliceL {α : Type} (l : List α) (lo hi : Option Int) : List α := (l.drop (lo.elim 0 (clipAt l.length))).take (hi.elim l.length (clipAt l.length) - lo.elim 0 (clipAt l.length))
noncomputable def sliceD : Dat → Option Int → Option Int → Option Dat
  | .bytes b, lo, hi => if b.length ≤ 4096 then some (.bytes (sliceL b lo hi)) else none
  | .list ds, lo, hi => if ds.length ≤ 4096 then some (.list (sliceL ds lo hi)) else none
  | _, _, _ => none
noncomputable def intOf : Dat → Option Int
  | .int i => some i
  | _ => none

theorem Reps.drop {S : View} : ∀ {ds : List Dat} {vs : List Value} (n : Nat), Reps S ds vs → Reps S (ds.drop n) (vs.drop n)
  | _, _, 0, h => h
  | [], vs, n + 1, h => by unfold Reps at h; subst h; unfold Reps; rfl
  | d :: ds, vs, n + 1, h => by
    unfold Reps at h
    obtain ⟨v, r, rfl, _, h2⟩ := h
    exact Reps.drop n h2
theorem Reps.take {S : View} : ∀ {ds : List Dat} {vs : List Value} (n : Nat), Reps S ds vs → Reps S (ds.take n) (vs.take n)
  | _, _, 0, h => by simp; unfold Reps; rfl
  | [], vs, n + 1, h => by unfold Reps at h; subst h; unfold Reps; rfl
  | d :: ds, vs, n + 1, h => by
    unfold Reps at h
    obtain ⟨v, r, rfl, h1, h2⟩ := h
    show Reps S (d :: ds.take n) (v :: r.take n)
    unfold Reps
    exact ⟨v, _, rfl, h1, Reps.take n h2⟩

section
variable {prog : Program} {w : World} {h0 : Heap} {q : Bool} {H : Nat} {sc : Scope} {A : Around} {s : Shared} {E : Value → Shared → Prop} {M : List Addr}
theorem item_sound {x d : Dat} {i : Int} {v : Value} {t : Tok} {value slice : Expr} {Q : Value → Shared → Prop} (e : itemD x i = some d) (hv : Rep (vw s.heap M) x v)
    (hs : ∀ o j, subscripted slice false o j = operate [o, j] (getItem o j))
    (hQ : ∀ v n, Rep (vw s.heap M) d v → Q v { s with toks := n }) : wpAny (model prog w) A (subscriptTail value slice v (.int i t)) Q E s := by
  cases x <;> first | (simp [itemD] at e; done) | skip
  · rename_i b
    unfold Rep at hv
    obtain ⟨u, rfl⟩ := hv
    simp only [itemD] at e
    split at e
    · rename_i h
      obtain rfl := Option.some.inj e
      refine tail_any (typeIs_bytes s _ u) FB.slot_bytes_getitem.lookup (getItem_bytes (by omega) h.1 h.2.1 (hQ _ _ ?_)) (hs _ _)
      unfold Rep; exact ⟨_, rfl⟩
    · cases e
  · rename_i ds
    unfold Rep at hv
    obtain ⟨a, vs, n, rfl, ho, r⟩ := hv
    simp only [itemD] at e
    split at e
    · rename_i h
      obtain ⟨v, e1, h1⟩ := r.get e
      have hi : seqIndex? i vs.toArray.size = some i.toNat := by
        have h1 : ¬ i < 0 := by omega
        have h2 : i < (vs.length : Int) := by rw [r.length]; omega
        simp [seqIndex?, h1, h2, h.2.1]
      exact tail_any ⟨_, vw_get ho, rfl⟩ slot_tuple_getitem.lookup (getItem_tuple ⟨_, vw_get ho, rfl, n, rfl⟩ (by omega) (by omega) hi (by simpa using e1) (hQ v s.toks h1)) (hs _ _)
    · cases e
  · rename_i ds
    unfold Rep at hv
    obtain ⟨a, vs, n, rfl, ho, r⟩ := hv
    have hl : s.heap.IsList a vs.toArray := ⟨_, vw_get ho, rfl, n, rfl⟩
    simp only [itemD] at e
    split at e
    · rename_i hlen
      split at e
      · rename_i h
        have hlt : i.toNat < ds.length := by
          cases hq : decide (i.toNat < ds.length) with
          | true => exact of_decide_eq_true hq
          | false => rw [List.getElem?_eq_none (by simpa using of_decide_eq_false hq)] at e; cases e
        obtain ⟨v, e1, h1⟩ := r.get e
        exact tail_any hl.typeIs slot_list_getitem.lookup (wpAny_getItem_list hl h (by omega) (by simpa using e1) (hQ v s.toks h1)) (hs _ _)
      · split at e
        · obtain ⟨v, e1, h1⟩ := r.get e
          exact tail_any hl.typeIs slot_list_getitem.lookup (wpAny_getItem_list_neg hl (by omega) (by rw [List.size_toArray, r.length]; omega) (by omega) (by rw [List.size_toArray, r.length]; simpa using e1) (hQ v s.toks h1)) (hs _ _)
        · cases e
    · cases e
theorem SemE.item {a b : Expr} {pos : Pos} {φ ψ : EM Dat} (ha : SemE prog w h0 q H sc a φ) (hb : SemE prog w h0 q H sc b ψ) (hs : ∀ o j, subscripted b false o j = operate [o, j] (getItem o j) := by intro _ _; rfl) :
    SemE prog w h0 q H sc (.Subscript a b pos) (φ.bind fun x => ψ.bind fun y => EM.lift ((intOf y).bind fun i => itemD x i)) := by
  intro c A l ρ s Q E K hA R hE r hr hQ hX
  refine Subscript_ (ha.use K hA R hE hr hX fun d v s₁ hr₁ G₁ R₁ hv hX₁ => ?_)
  refine hb.use K hA R₁ hE hr₁ hX₁ fun d' v' s₂ hr₂ G₂ R₂ hv' hX₂ => ?_
  obtain ⟨x, e, rfl⟩ := lift_some hr₂
  obtain ⟨i, e1, e2⟩ := Option.bind_eq_some_iff.mp e
  cases d' <;> first | (simp [intOf] at e1; done) | skip
  obtain rfl := Option.some.inj e1
  unfold Rep at hv'
  obtain ⟨t, rfl⟩ := hv'
  exact item_sound e2 (hv.mono (G₂.vle l)) hs fun v n h => hQ _ rfl _ _ ((G₁.trans G₂).trans (.toks n)) h

/-- a bound of a slice -/
noncomputable def SemP (prog : Program) (w : World) (h0 : Heap) (q : Bool) (H : Nat) (sc : Scope) (e : Option Expr) (φ : EM (Option Int)) : Prop := Sem0 prog w h0 q H sc (fun env => evalPart e env) (fun _ o v => IsPart v o) φ
theorem SemP.none : SemP prog w h0 q H sc none (EM.pure none) := by
  intro c A l ρ s Q E K hA R hE r hr hQ hX
  obtain rfl : Except.ok Option.none = r := Option.some.inj hr
  exact evalPart_none_step (hQ _ rfl _ _ (.refl _ _) .none)
theorem SemP.some {e : Expr} {φ : EM Dat} (ha : SemE prog w h0 q H sc e φ) : SemP prog w h0 q H sc (some e) (φ.bind fun x => EM.lift ((intOf x).map some)) := by
  intro c A l ρ s Q E K hA R hE r hr hQ hX
  refine evalPart_some_step (ha.use K hA R hE hr hX fun d v s₁ hr₁ G₁ R₁ hv hX₁ => ?_)
  obtain ⟨x, e, rfl⟩ := lift_some hr₁
  obtain ⟨i, e1, rfl⟩ := Option.map_eq_some_iff.mp e
  cases d <;> first | (simp [intOf] at e1; done) | skip
  obtain rfl := Option.some.inj e1
  unfold Rep at hv
  obtain ⟨t, rfl⟩ := hv
  exact hQ _ rfl _ _ G₁ (.int _ _)
theorem slice_sound {c : Fx} {l : Addr} {ρ : St} {x d : Dat} {lo hi : Option Int} {v a b : Value} {value : Expr} {sl up : Option Expr} {p : Pos} {Q : Value → Shared → Prop} (K : Fok h0 c sc) (R : Rel h0 c l ρ s.heap)
    (e : sliceD x lo hi = some d) (hv : Rep (vw s.heap (hid c l)) x v) (pa : IsPart a lo) (pb : IsPart b hi) (hQ : ∀ v s', Goes c s s' → Rep (vw s'.heap (hid c l)) d v → Q v s') :
    wpAny (model prog w) A (subscriptTail value (.Slice sl up none p) v (.ref s.heap.objs.size)) Q E { s with heap := s.heap.push { cls := .type "slice", data := .fields #[a, b, .none] } } := by
  have hf := R.fresh K
  cases x <;> first | (simp [sliceD] at e; done) | skip
  · rename_i bs
    unfold Rep at hv
    obtain ⟨u, rfl⟩ := hv
    simp only [sliceD] at e
    split at e
    · obtain rfl := Option.some.inj e
      refine tail_any (ops := [.ref s.heap.objs.size, .bytes bs.toArray u]) (typeIs_bytes _ _ u) FB.slot_bytes_getitem.lookup (getItem_meets (typeIs_bytes _ _ _) (by decide) FB.slot_bytes_getitem FB.entry_bytes_getitem (FB.args_bytes_getitem_2 _ _) (PySem.W.KBc.meets_slice2 bs.toArray u _ pa pb)
        ⟨Heap.IsSliceOf.new _ _ _ _, Nat.le_trans (PySem.W.KBc.size_picked_le _ lo hi) (by rw [List.size_toArray, sizeLine_eq]; omega), fun t' k => hQ _ _ ?_ ?_⟩) rfl
      · exact .push
      · unfold Rep
        refine ⟨t', ?_⟩
        rw [PySem.W.KBc.picked_eq]
        simp [sliceL]
    · cases e
  · rename_i ds
    unfold Rep at hv
    obtain ⟨ad, vs, n, rfl, ho, r⟩ := hv
    simp only [sliceD] at e
    split at e
    · obtain rfl := Option.some.inj e
      have hl : (s.heap.push { cls := .type "slice", data := .fields #[a, b, .none] }).IsList ad vs.toArray := ⟨_, Heap.get?_push_of_some _ (vw_get ho), rfl, n, rfl⟩
      refine tail_any (ops := [.ref s.heap.objs.size, .ref ad]) hl.typeIs slot_list_getitem.lookup (wpAny_getItem_list_slice hl (Heap.IsSliceOf.new _ _ _ _) pa pb .none (by simp) ?_ (by rw [List.size_toArray, r.length, sizeLine_eq]; omega)) rfl
      have G : Goes c s { s with heap := (s.heap.push { cls := .type "slice", data := .fields #[a, b, .none] }).push { cls := .type "list", data := .seq (slicePick vs.toArray lo hi none) } } := Goes.push'.trans .push'
      refine hQ _ _ G ?_
      unfold Rep
      have hz : (s.heap.push { cls := .type "slice", data := .fields #[a, b, .none] }).objs.size ∉ hid c l := fun q => by have := R.hid_lt K q; rw [Heap.size_push] at this; exact Nat.lt_irrefl _ (Nat.lt_trans (Nat.lt_succ_self _) this)
      rw [slicePick_plain]
      refine ⟨_, (vs.drop (lo.elim 0 (clipAt vs.length))).take (hi.elim vs.length (clipAt vs.length) - lo.elim 0 (clipAt vs.length)), _, rfl, vw_push hz rfl, ?_⟩
      unfold sliceL
      rw [← r.length, ← slicePick_plain]
      exact ((r.drop _).take _).mono (G.vle l)
    · cases e
theorem SemE.slice {a : Expr} {sl up : Option Expr} {p pos : Pos} {φ : EM Dat} {ψ χ : EM (Option Int)} (ha : SemE prog w h0 q H sc a φ) (hb : SemP prog w h0 q H sc sl ψ) (hc : SemP prog w h0 q H sc up χ) :
    SemE prog w h0 q H sc (.Subscript a (.Slice sl up none p) pos) (φ.bind fun x => ψ.bind fun lo => χ.bind fun hi => EM.lift (sliceD x lo hi)) := by
  intro c A l ρ s Q E K hA R hE r hr hQ hX
  refine Subscript_ (ha.use K hA R hE hr hX fun d v s₁ hr₁ G₁ R₁ hv hX₁ => ?_)
  refine wpAny_Slice (hb.use K hA R₁ hE hr₁ hX₁ fun d' v' s₂ hr₂ G₂ R₂ hv' hX₂ => ?_)
  refine hc.use K hA R₂ hE hr₂ hX₂ fun d'' v'' s₃ hr₃ G₃ R₃ hv'' hX₃ => ?_
  obtain ⟨x, e, rfl⟩ := lift_some hr₃
  rw [evalPart_none]
  refine wpAny_pure ?_
  exact slice_sound K R₃ e (hv.mono ((G₂.trans G₃).vle l)) hv' hv'' fun v s' G h => hQ _ rfl v s' (((G₁.trans G₂).trans G₃).trans G) h
end
end Mine
end
section
set_option Elab.async false
set_option maxRecDepth 100000
open PySem PySem.W PyProof.Rows PySem.SeqAt PySem.Spec
namespace Mine

/-- an exception comes out of a call -/
noncomputable def Flown (h0 : Heap) (fs : List Env) (g : Heap) (e C : Addr) (h : Heap) : Prop :=
  ∃ B a0, Heap.FlyingW B fs e (.ref C) a0 h ∧ h0.StaysIn B ∧ (∀ b o, g.get? b = some o → b ∉ addrs fs → B.get? b = some o)

noncomputable def CallSpec (prog : Program) (w : World) (h0 : Heap) (f : Addr) (H : Nat) (F : List Dat → Option (Except Addr Dat)) : Prop :=
  ∀ (A : Around) (fs : List Env) (M : List Addr) (s : Shared) (vs : List Value) (ds : List Dat) (Q E : Value → Shared → Prop),
    A.frames = some fs → A.handled = none → A.depth + H < recursionLimit → A.units + 16 * H + 16 < cLine →
    h0.StaysIn s.heap → s.heap.FunFrames h0 fs → (∀ a, a ∈ M → h0.get? a = none ∧ ∃ o, s.heap.get? a = some o) → Reps (vw s.heap (M ++ addrs fs)) ds vs →
    ∀ r, F ds = some r →
    (∀ d, r = .ok d → ∀ v s', Ext [] fs s.heap s'.heap → s'.gens = s.gens → s'.os = s.os → Rep (vw s'.heap (M ++ addrs fs)) d v → Q v s') →
    (∀ C, r = .error C → ∀ e s', Ext [] fs s.heap s'.heap → s'.gens = s.gens → s'.os = s.os → Flown h0 fs s.heap e C s'.heap → E (.ref e) s') →
    wpAny (model prog w) A (call (.ref f) vs) Q E s

noncomputable def liftR {α : Type} (o : Option (Except Addr α)) : EM α := fun _ => o

section
variable {prog : Program} {w : World} {h0 : Heap} {H : Nat} {sc : Scope} {c : Fx} {A : Around} {l : Addr} {ρ : St} {s : Shared} {E : Value → Shared → Prop}

theorem Rel.hidIn {a : Addr} {h : Heap} (K : Fok h0 c sc) (R : Rel h0 c l ρ h) (ha : a ∈ c.env.locals :: l :: pm c) : h0.get? a = none ∧ ∃ o, h.get? a = some o := by
  have hm : a ∈ hid c l := by
    unfold hid
    rcases List.mem_cons.mp ha with rfl | ha
    · exact .head _
    rcases List.mem_cons.mp ha with rfl | ha
    · exact .tail _ (.head _)
    · exact .tail _ (.tail _ (List.mem_append_left _ ha))
  refine ⟨R.hid0 K hm, ?_⟩
  obtain ⟨m, hn, _, a2, _⟩ := R.ns
  obtain ⟨oL, _, _, hL, _⟩ := hn
  rcases List.mem_cons.mp ha with rfl | ha
  · exact ⟨_, hL⟩
  rcases List.mem_cons.mp ha with rfl | ha
  · cases ho : ρ.own with
    | none => rw [R.lb ho]; exact ⟨_, hL⟩
    | some p => obtain ⟨i, ds⟩ := p; obtain ⟨_, _, _, _, _, _, h4, _⟩ := a2 i ds ho; exact ⟨_, h4⟩
  · exact (R.pm_in K ha).2

theorem hid_locals {c : Fx} {l : Addr} : ∀ a, a ∈ hid c c.env.locals → a ∈ hid c l := fun a h => by
  rcases List.mem_cons.mp h with h | h
  · exact h ▸ .head _
  rcases List.mem_cons.mp h with h | h
  · exact h ▸ .head _
  · exact .tail _ (.tail _ h)
theorem Rel.thrown {e C : Addr} {h' : Heap} (K : Fok h0 c sc) (R : Rel h0 c l ρ s.heap) (x : Ext [] (c.fenv :: c.fs) s.heap h') (y : Flown h0 (c.fenv :: c.fs) s.heap e C h') : Thrown h0 c e C h' := by
  have R' := R.of_ext K x
  obtain ⟨m, hn, _⟩ := R'.ns
  obtain ⟨B, a0, f1, f2, f3⟩ := y
  refine ⟨R'.stays, R'.frs, R'.ext, ⟨m, hn⟩, fun p hp => (R'.pin p hp).drop, R'.xin, fun p hp => (R'.see p hp).mono (vw_sub hid_locals), R'.min, .inr ⟨B, a0, f1, ⟨f2, fun b o hX e hb => ?_, fun p hp => f3 _ _ (R.pin p hp).1 (R.pin p hp).2.2.1, fun a ha => ?_, fun p hp => ?_, fun a ha => ?_⟩⟩⟩
  · refine f3 b o ((R.ext b o hX e).2 fun q => hb ?_) hb
    unfold addrs at q ⊢
    rw [List.filterMap_cons]
    split
    · exact q
    · exact List.mem_cons_of_mem _ q
  · obtain ⟨o, ho⟩ := R.xin a ha
    exact ⟨o, f3 _ _ ho (K.XF a ha)⟩
  · refine (R.see p hp).mono fun b o e => vw_at (f3 b o (vw_get e) fun q => vw_not e (hid_frames q)) fun q => vw_not e (hid_locals _ q)
  · by_cases hm : a ∈ addrs (c.fenv :: c.fs)
    · exact .inl hm
    · obtain ⟨o, ho⟩ := R.min a ha
      exact .inr ⟨o, f3 _ _ ho hm⟩

theorem call_use {f : Addr} {H' : Nat} {F : List Dat → Option (Except Addr Dat)} {ds : List Dat} {vs : List Value} {r : Except Addr Dat} {Q : Value → Shared → Prop} (hs : CallSpec prog w h0 f H' F) (hH : H' ≤ H)
    (K : Fok h0 c sc) (hA : AOk true H c A) (R : Rel h0 c l ρ s.heap) (hv : Reps (vw s.heap (hid c l)) ds vs) (hr : F ds = some r)
    (hQ : ∀ d, r = .ok d → ∀ v s', Goes c s s' → Rep (vw s'.heap (hid c l)) d v → Q v s') (hX : ErrOk h0 c s r E) :
    wpAny (model prog w) A (call (.ref f) vs) Q E s := by
  refine hs A (c.fenv :: c.fs) (c.env.locals :: l :: pm c) s vs ds Q E hA.frames (hA.handled rfl) (by have := hA.depth; omega) (by have := hA.units; omega) R.stays R.frs (fun a ha => R.hidIn K ha) hv r hr ?_ ?_
  · exact fun d hd v s' x g o h => hQ d hd v s' ⟨x, g, o⟩ h
  · exact fun C hC e s' x g o y => hX C hC e s' g o (R.thrown K x y)
end

section
variable {prog : Program} {w : World} {h0 : Heap} {H : Nat} {sc : Scope}
/-- a def of the text is called by its global name -/
theorem SemE.call {x : Str} {p pos : Pos} {e : Expr} {es : List Expr} {f : Addr} {H' : Nat} {F : List Dat → Option (Except Addr Dat)} {φ : EM (List Dat)} (G : Gd w h0)
    (hx : sc.names.lookup x = some .globalImplicit) (hg : nsIn (KF w) mainGlobals x = some (some (.ref f))) (hd : (x == ("__debug__" : Str)) = false) (hk : keepIn (KF w) (.ref f) = true)
    (hs : CallSpec prog w h0 f H' F) (hH : H' ≤ H) (ha : SemA prog w h0 true H sc (e :: es) φ)
    (he : ∀ env, starEach (e :: es) env = (false, eval e env) :: starEach es env := by intro _; rfl) (hplain : ∀ env, (backTo pos (starEach es env)).any (·.1) = false := by intro _; rfl) :
    SemE prog w h0 true H sc (.Call (.Name x p) (e :: es) [] pos) (φ.bind fun ds => liftR (F ds)) := by
  intro c A l ρ s Q E K hA R hE r hr hQ hX
  refine Call_Name rfl (glob_at G K R hx hg hd ?_)
  refine callWith_K (K := KF w) (h₀ := h0) G.X hk ?_ (he c.env) (hplain c.env)
  refine (ha pos).use K hA R hE hr hX fun ds vs s₁ hr₁ G₁ R₁ hv hX₁ => ⟨G.X.keeps R₁.stays, ?_⟩
  exact call_use hs hH K hA R₁ hv hr₁ (fun d hd v s' G h => hQ d hd v s' (G₁.trans G) h) hX₁
/-- .. or by a local that holds it -/
theorem SemE.callv {x : Str} {p pos : Pos} {e : Expr} {es : List Expr} {i : Nat} {Fs : Addr → Option (List Dat → Option (Except Addr Dat))} {H' : Nat} {φ : EM (List Dat)} (G : Gd w h0)
    (hx : nm sc i = some x) (h1 : (x == ("__debug__" : Str)) = false) (h2 : (x == ("__classdict__" : Str)) = false)
    (hs : ∀ f F, Fs f = some F → CallSpec prog w h0 f H' F ∧ keepIn (KF w) (.ref f) = true) (hH : H' ≤ H) (ha : SemA prog w h0 true H sc (e :: es) φ)
    (he : ∀ env, starEach (e :: es) env = (false, eval e env) :: starEach es env := by intro _; rfl) (hplain : ∀ env, (backTo pos (starEach es env)).any (·.1) = false := by intro _; rfl) :
    SemE prog w h0 true H sc (.Call (.Name x p) (e :: es) [] pos) ((rd i).bind fun d => match d with | .obj f => (match Fs f with | some F => φ.bind fun ds => liftR (F ds) | none => liftR none) | _ => liftR none) := by
  intro c A l ρ s Q E K hA R hE r hr hQ hX
  refine Call_Name rfl ((SemE.var (q := true) i hx h1 h2).use K hA R hE hr hX fun d v s₁ hr₁ G₁ R₁ hv hX₁ => ?_)
  cases d <;> first | (cases hr₁; done) | skip
  rename_i f
  unfold Rep at hv
  subst hv
  dsimp only at hr₁
  cases hF : Fs f with
  | none => rw [hF] at hr₁; cases hr₁
  | some F =>
    rw [hF] at hr₁
    obtain ⟨hs, hk⟩ := hs f F hF
    refine callWith_K (K := KF w) (h₀ := h0) G.X hk ?_ (he c.env) (hplain c.env)
    refine (ha pos).use K hA R₁ hE hr₁ hX₁ fun ds vs s₂ hr₂ G₂ R₂ hv hX₂ => ⟨G.X.keeps R₂.stays, ?_⟩
    exact call_use hs hH K hA R₂ hv hr₂ (fun d hd v s' G h => hQ d hd v s' ((G₁.trans G₂).trans G) h) hX₂

/-- a built-in's value -/
noncomputable def BltOk (prog : Program) (w : World) (h0 : Heap) (H : Nat) (v : Value) (F : List Dat → Option Dat) : Prop :=
  ∀ (c : Fx) (sc : Scope) (A : Around) (l : Addr) (ρ : St) (s : Shared) (Q E : Value → Shared → Prop) (ds : List Dat) (vs : List Value) (d : Dat),
    Fok h0 c sc → AOk true H c A → Rel h0 c l ρ s.heap → Reps (vw s.heap (hid c l)) ds vs → F ds = some d → (∀ v s', Goes c s s' → Rep (vw s'.heap (hid c l)) d v → Q v s') →
    wpAny (model prog w) A (PySem.call v vs) Q E s
theorem SemE.callB {x : Str} {p pos : Pos} {e : Expr} {es : List Expr} {v : Value} {F : List Dat → Option Dat} {φ : EM (List Dat)} (G : Gd w h0)
    (hv : (∃ id, v = .builtin id) ∨ (∃ T, v = .type T)) (hx : sc.names.lookup x = some .globalImplicit) (hg : nsIn (KF w) mainGlobals x = some none) (hb : bootBuiltins x = some v) (hn : x ≠ "__name__") (hd : (x == ("__debug__" : Str)) = false)
    (hs : BltOk prog w h0 H v F) (ha : SemA prog w h0 true H sc (e :: es) φ)
    (he : ∀ env, starEach (e :: es) env = (false, eval e env) :: starEach es env := by intro _; rfl) (hplain : ∀ env, (backTo pos (starEach es env)).any (·.1) = false := by intro _; rfl) :
    SemE prog w h0 true H sc (.Call (.Name x p) (e :: es) [] pos) (φ.bind fun ds => EM.lift (F ds)) := by
  intro c A l ρ s Q E K hA R hE r hr hQ hX
  refine Call_Name rfl (blt_at G K R hx hg hb hn hd ?_)
  have body : wpAny (model prog w) A (spliced (backTo pos (starEach (e :: es) c.env))) (fun vs s₁ => wpAny (model prog w) A (PySem.call v vs) Q E s₁) E s := by
    refine (ha pos).use K hA R hE hr hX fun ds vs s₁ hr₁ G₁ R₁ hv hX₁ => ?_
    obtain ⟨d, e, rfl⟩ := lift_some hr₁
    exact hs c sc A l ρ s₁ Q E ds vs d K hA R₁ hv e fun v s' G h => hQ _ rfl v s' (G₁.trans G) h
  have hp : (backTo pos (starEach (e :: es) c.env)).any (·.1) = false := by rw [he]; show (false || (backTo pos (starEach es c.env)).any (·.1)) = false; rw [hplain]; rfl
  rw [he] at body hp ⊢
  rcases hv with ⟨id, rfl⟩ | ⟨T, rfl⟩
  · exact Calls.callWith_builtin hp (Calls.evalArgs_plain body)
  · exact PyProof.Rows.callWith_type hp (Calls.evalArgs_plain body)

noncomputable def intsD : List Dat → Option (List Int)
  | [] => some []
  | .int i :: r => (intsD r).map (i :: ·)
  | _ :: _ => none
theorem intsAre_of {S : View} : ∀ {ds : List Dat} {vs : List Value} {ns : List Int}, Reps S ds vs → intsD ds = some ns → IntsAre vs ns
  | [], vs, ns, h, e => by unfold Reps at h; subst h; obtain rfl := Option.some.inj e; exact .nil
  | d :: ds, vs, ns, h, e => by
    unfold Reps at h
    obtain ⟨v, r, rfl, h1, h2⟩ := h
    cases d <;> first | (simp [intsD] at e; done) | skip
    simp only [intsD] at e
    obtain ⟨m, e', rfl⟩ := Option.map_eq_some_iff.mp e
    unfold Rep at h1
    obtain ⟨t, rfl⟩ := h1
    exact .cons _ t (intsAre_of h2 e')
theorem intsD_len : ∀ {ds : List Dat} {ns : List Int}, intsD ds = some ns → ds.length = ns.length
  | [], ns, e => by obtain rfl := Option.some.inj e; rfl
  | d :: ds, ns, e => by
    cases d <;> first | (simp [intsD] at e; done) | skip
    simp only [intsD] at e
    obtain ⟨m, e', rfl⟩ := Option.map_eq_some_iff.mp e
    simp [intsD_len e']

theorem intsD_map : ∀ {ds : List Dat} {ns : List Int}, intsD ds = some ns → ds = ns.map .int
  | [], ns, e => by obtain rfl := Option.some.inj e; rfl
  | d :: ds, ns, e => by
    cases d <;> first | (simp [intsD] at e; done) | skip
    simp only [intsD] at e
    obtain ⟨m, e', rfl⟩ := Option.map_eq_some_iff.mp e
    rw [intsD_map e']; rfl
noncomputable def lenF : List Dat → Option Dat
  | [.bytes b] => if b.length ≤ 4096 then some (.int b.length) else none
  | [.list ds] => if ds.length ≤ 4096 then some (.int ds.length) else none
  | [.tuple ds] => if ds.length ≤ 4096 then some (.int ds.length) else none
  | _ => none
theorem one_of {S : View} {d : Dat} {vs : List Value} (h : Reps S [d] vs) : ∃ v, vs = [v] ∧ Rep S d v := by
  unfold Reps at h
  obtain ⟨v, r, rfl, h1, h2⟩ := h
  unfold Reps at h2
  subst h2
  exact ⟨v, rfl, h1⟩
theorem len_ok : BltOk prog w h0 H (.builtin "len") lenF := by
  intro c sc A l ρ s Q E ds vs d K hA R hv e hQ
  unfold lenF at e
  split at e <;> first | (cases e; done) | skip
  all_goals
    split at e <;> first | (cases e; done) | skip
    obtain rfl := Option.some.inj e
    obtain ⟨v, rfl, h1⟩ := one_of hv
    unfold Rep at h1
  · obtain ⟨t, rfl⟩ := h1
    refine len_bytes (by rw [List.size_toArray]; omega) (hQ _ _ (.toks _) ?_)
    unfold Rep; exact ⟨_, by rw [List.size_toArray]⟩
  · obtain ⟨a, us, n, rfl, ho, r⟩ := h1
    refine len_list ⟨_, vw_get ho, rfl, n, rfl⟩ (by rw [List.size_toArray, r.length]; omega) (hQ _ _ (.toks _) ?_)
    unfold Rep; exact ⟨_, by rw [List.size_toArray, r.length]⟩
  · obtain ⟨a, us, n, rfl, ho, r⟩ := h1
    refine PyProof.Rows.len_tuple ⟨_, vw_get ho, rfl, n, rfl⟩ (by rw [List.size_toArray, r.length]; omega) (hQ _ _ (.toks _) ?_)
    unfold Rep; exact ⟨_, by rw [List.size_toArray, r.length]⟩
noncomputable def bytesF : List Dat → Option Dat
  | [.list ds] => (intsD ds).bind fun ns => if ns.all (fun n => decide (0 ≤ n) && decide (n < 256)) && decide (ns.length ≤ 4096) then some (.bytes (ns.map fun n => n.toNat.toUInt8)) else none
  | _ => none
theorem bytes_ok : BltOk prog w h0 H (.type "bytes") bytesF := by
  intro c sc A l ρ s Q E ds vs d K hA R hv e hQ
  unfold bytesF at e
  split at e <;> first | (cases e; done) | skip
  obtain ⟨ns, e1, e2⟩ := Option.bind_eq_some_iff.mp e
  split at e2 <;> first | (cases e2; done) | skip
  rename_i h
  obtain rfl := Option.some.inj e2
  obtain ⟨v, rfl, h1⟩ := one_of hv
  unfold Rep at h1
  obtain ⟨a, us, n, rfl, ho, r⟩ := h1
  simp only [Bool.and_eq_true, List.all_eq_true, decide_eq_true_eq] at h
  refine call_bytes_ints (ns := ns) ⟨_, vw_get ho, rfl, n, rfl⟩ (intsAre_of r e1) h.1 (by rw [r.length, intsD_len e1, sizeLine_eq]; omega) (hA.handled rfl) fun h' t k hk => hQ _ _ (.keeps hk) ?_
  unfold Rep; exact ⟨_, rfl⟩
noncomputable def intF : List Dat → Option Dat
  | [.int n] => some (.int n)
  | _ => none
theorem int_ok : BltOk prog w h0 H (.type "int") intF := by
  intro c sc A l ρ s Q E ds vs d K hA R hv e hQ
  unfold intF at e
  split at e <;> first | (cases e; done) | skip
  obtain rfl := Option.some.inj e
  obtain ⟨v, rfl, h1⟩ := one_of hv
  have h1' := h1
  unfold Rep at h1
  obtain ⟨t, rfl⟩ := h1
  exact call_int_int (hQ _ _ (.refl _ _) h1')
noncomputable def minF : List Dat → Option Dat
  | [.int a, .int b] => some (.int (if b < a then b else a))
  | _ => none
theorem min_ok : BltOk prog w h0 H (.builtin "min") minF := by
  intro c sc A l ρ s Q E ds vs d K hA R hv e hQ
  unfold minF at e
  split at e <;> first | (cases e; done) | skip
  rename_i a b
  obtain rfl := Option.some.inj e
  unfold Reps at hv
  obtain ⟨v, r, rfl, h1, h2⟩ := hv
  obtain ⟨v', rfl, h3⟩ := one_of h2
  unfold Rep at h1 h3
  obtain ⟨t, rfl⟩ := h1; obtain ⟨t', rfl⟩ := h3
  refine min_two_ints (hA.handled rfl) fun h' tk hk => ?_
  by_cases h : b < a
  · rw [if_pos h] at hQ ⊢
    exact hQ _ _ (.keeps hk) (by unfold Rep; exact ⟨_, rfl⟩)
  · rw [if_neg h] at hQ ⊢
    exact hQ _ _ (.keeps hk) (by unfold Rep; exact ⟨_, rfl⟩)
end
end Mine
end
section
open PySem PySem.W PyProof.Rows
set_option Elab.async false
set_option maxRecDepth 100000
set_option maxHeartbeats 0
namespace Mine
theorem ofPys_ints : ∀ ns : List Int, ofPys (ns.map .int) = ns.map .int
  | [] => rfl
  | n :: r => by
    show ofPy (.int n) :: ofPys (r.map .int) = _
    rw [ofPys_ints r]
    rfl
theorem reps_wints {P : Params} {h : Heap} {S : View} : ∀ (ns : List Int) (vs : List Value), WellAll P h vs (ns.map .int) → Reps S (ns.map .int) vs
  | [], vs, w => by
    cases w
    exact rfl
  | n :: r, vs, w => by
    obtain ⟨v, vs', e, h1, h2⟩ := wellAll_cons_inv w
    subst e
    cases h1
    refine ⟨_, _, rfl, ⟨_, rfl⟩, reps_wints r _ h2⟩
theorem reps_arg {P : Params} {h : Heap} {ns : List Int} {vals : List Value} (w : WellAll P h vals [ofPy (.list (ns.map .int))]) : Reps (vw h ([] ++ addrs [])) [.list (ns.map .int)] vals := by
  obtain ⟨v, vs', e, h1, h2⟩ := wellAll_cons_inv w
  subst e
  cases h2
  have e : ofPy (.list (ns.map .int)) = .list (ofPys (ns.map .int)) := rfl
  rw [e, ofPys_ints] at h1
  cases h1
  rename_i ho hw
  exact ⟨_, _, rfl, ⟨_, _, _, rfl, vw_at ho (by intro h; cases h), reps_wints ns _ hw⟩, rfl⟩
theorem goodWG_true {c : ClaimW} {cl : Str → Option Addr} {mean : ExcName → Option Value} {args : List WData} {s₁ s' : Shared} (hn : ∀ cls, c.raises args cls = false) (hp : c.post args (.bool true) args = true)
    (x : Ext [] [] s₁.heap s'.heap) (hg : s'.gens = #[]) (ho : s'.os = s₁.os) : GoodWG c cl mean args s₁ (.ok (.ret (.bool true))) s' :=
  ⟨.inl ⟨.bool true, .bool true, [], rfl, hn, .bool true, hp, fun _ => ⟨.nil, fun _ h => by cases h⟩⟩, .of_keep fun b o e => (x b o (by simp) e).2 (by unfold addrs; simp), ho, .of_eq hg⟩
theorem args_of {args : List WData} (hpre : PySem.Challenge.rw_nt0017_01.row.claim.pre args = true) (hlay : WData.layableAll args = true) : ∃ ns : List Int, args = [ofPy (.list (ns.map .int))] ∧ ns.length ≤ 63 := by
  have hsh := (pre_splitW hpre).1
  have hcond := (pre_splitW hpre).2
  clear hpre
  wrow_hasAll hsh hlay
  w_cond hcond
  refine ⟨_, rfl, ?_⟩
  omega
theorem room_d : callerA.depth + 34 < recursionLimit := by
  show 1 + claimMargin + 34 < recursionLimit
  decide +kernel
theorem room_u : callerA.units + 16 * 34 + 16 < cLine := by
  show 4 + 16 * 34 + 16 < cLine
  decide +kernel
theorem gd_of {w : World} {s₀ : Shared} {h : Heap} {mg mb : Str → Option Value} {R : WRecords} (G : Ground qv loose R (XL qv []) w s₀ mg mb h) (X : (KF w).In h) : Gd w h := ⟨X, mg, mb, topRead_of G.T⟩
theorem law_at {w : World} {h : Heap} {mg : Str → Option Value} {fa : Addr} (X : (KF w).In h) (N : h.Ns mainGlobals mg) (e : mg "law" = some (.ref fa)) : fa = 377 := by
  have := mg_of X N (show nsIn (KF w) mainGlobals "law" = some (some (.ref 377)) from (rfl))
  have h2 := e.symm.trans this
  injection h2 with h2
  injection h2 with h2
theorem fin_of (left : LeftO PySem.Challenge.pw_nt0017_01 qv loose (fun s => xlAt qv [] s && recOk [] s) (Hook.obs kH) (Hook.val kH) 5052)
    (T : ∀ prog w h0, Gd w h0 → ∃ F, CallSpec prog w h0 377 34 F ∧ ∀ ns : List Int, ns.length ≤ 63 → F [.list (ns.map .int)] = some (.ok (.bool true))) : PySem.Challenge.rw_nt0017_01.Holds := by
  refine holds_law said (fun said => ?_)
  refine holds_open (q := qv) (loose := loose) (Xt := fun s => xlAt qv [] s && recOk [] s) (XP := XL qv []) (Yf := Hook.obs kH) (Ya := Hook.val kH) (YP := Hook.says kH) (d := ?dd) (kwd := ?kwd) (N := 5052) left (Hook.of kH) (Hook.keeps kH) (fun s e => xl_of s (Bool.and_eq_true_iff.mp e).1) XL.keeps ?ka ?kb ?kc (fun s e => recFacts_of (Bool.and_eq_true_iff.mp e).2) ?kd ?ke ?kf ⟨rfl, rfl, rfl, rfl, rfl, by decide +kernel⟩ ?hw ?hc
  case ka => rfl
  case kb => rfl
  case kc => rfl
  case kd => rfl
  case ke => exact said
  case kf => decide +kernel
  case hw => w_witness2
  case hc =>
    intro w s₀ s₁ mg mb G Y fa o pm cd doc dV kV ho hd hcd hD hmg hg args vals as hpre hlay hrd hwl hlo
    have KX := kIn_of Y
    obtain ⟨ns, rfl, hl⟩ := args_of hpre hlay
    have gd : Gd w s₁.heap := gd_of G KX
    obtain rfl := law_at KX G.T.g hmg
    obtain ⟨F, C, hF⟩ := T PySem.Challenge.pw_nt0017_01 w s₁.heap gd
    refine C callerA [] [] s₁ vals [.list (ns.map .int)] _ _ rfl rfl room_d room_u (fun _ _ e => e) trivial (fun _ h => by cases h) (reps_arg hwl) _ (hF ns hl) (fun d e v s' x g o rp => ?_) (fun _ e => by cases e)
    cases e
    obtain rfl : v = .bool true := rp
    refine goodWG_true (fun _ => rfl) ?_ x (g.trans hg) o
    wrow_post
end Mine
end
section
set_option Elab.async false
set_option maxRecDepth 100000
open PySem PySem.W PyProof.Rows PySem.SeqAt PySem.Spec
namespace Mine

inductive Out where
  | next (ρ : St)
  | brk (ρ : St)
  | ret (d : Dat)
  | raise (C : Addr)
noncomputable abbrev SM := St → Option Out
noncomputable def SM.ofE {α : Type} (φ : EM α) (k : α → SM) : SM := fun ρ => match φ ρ with
  | none => none
  | some (.error C) => some (.raise C)
  | some (.ok a) => k a ρ
noncomputable def SM.next : SM := fun ρ => some (.next ρ)
noncomputable def SM.seq (a b : SM) : SM := fun ρ => match a ρ with
  | some (.next ρ') => b ρ'
  | o => o
noncomputable def St.put (ρ : St) (i : Nat) (d : Dat) : St := { ρ with loc := fun j => if j = i then some d else ρ.loc j }
noncomputable def St.free (ρ : St) (i : Nat) : Bool := (match ρ.own with | some (j, _) => j != i | none => true) && (match ρ.stm with | some (j, _) => j != i | none => true)
noncomputable def SM.put (i : Nat) (d : Dat) : SM := fun ρ => if ρ.free i then some (.next (ρ.put i d)) else none

/-- the frame at its end -/
structure Ended (h0 : Heap) (c : Fx) (h : Heap) : Prop where
  stays : h0.StaysIn h
  frs : h.FunFrames h0 (c.fenv :: c.fs)
  ext : Ext c.X c.fs c.g h
  ns : ∃ m, h.Ns c.env.locals m
noncomputable def Posts (h0 : Heap) (c : Fx) (s : Shared) (o : Out) (Q : Flow → Shared → Prop) (E : Value → Shared → Prop) : Prop :=
  match o with
  | .next ρ => ∀ l s', s'.gens = s.gens → s'.os = s.os → Rel h0 c l ρ s'.heap → Q .next s'
  | .brk ρ => ∀ l s', s'.gens = s.gens → s'.os = s.os → Rel h0 c l ρ s'.heap → Q .brk s'
  | .ret d => ∀ v s', s'.gens = s.gens → s'.os = s.os → Ended h0 c s'.heap → Rep (vw s'.heap (c.M ++ addrs (c.fenv :: c.fs))) d v → Q (.ret v) s'
  | .raise C => ∀ e s', s'.gens = s.gens → s'.os = s.os → Thrown h0 c e C s'.heap → E (.ref e) s'
theorem Posts.of {h0 : Heap} {c : Fx} {s s₁ : Shared} {o : Out} {Q : Flow → Shared → Prop} {E : Value → Shared → Prop} (g : s₁.gens = s.gens) (k : s₁.os = s.os) (h : Posts h0 c s o Q E) : Posts h0 c s₁ o Q E := by
  cases o with
  | next ρ => exact fun l s' a b => h l s' (a.trans g) (b.trans k)
  | brk ρ => exact fun l s' a b => h l s' (a.trans g) (b.trans k)
  | ret d => exact fun v s' a b => h v s' (a.trans g) (b.trans k)
  | raise C => exact fun e s' a b => h e s' (a.trans g) (b.trans k)
theorem Posts.goes {h0 : Heap} {c : Fx} {s s₁ : Shared} {o : Out} {Q : Flow → Shared → Prop} {E : Value → Shared → Prop} (G : Goes c s s₁) (h : Posts h0 c s o Q E) : Posts h0 c s₁ o Q E := h.of G.gens G.os

section
variable (prog : Program) (w : World) (h0 : Heap) (q : Bool) (H : Nat) (sc : Scope)
noncomputable def SemS0 (tree : Env → Sem Flow) (ψ : SM) : Prop :=
  ∀ (c : Fx) (A : Around) (l : Addr) (ρ : St) (s : Shared) (Q : Flow → Shared → Prop) (E : Value → Shared → Prop),
    Fok h0 c sc → AOk q H c A → Rel h0 c l ρ s.heap → PassesOwn (model prog w) A c.env E → c.fenv = c.env →
    ∀ o, ψ ρ = some o → Posts h0 c s o Q E → wpAny (model prog w) A (tree c.env) Q E s
noncomputable def SemS (st : Stmt) (ψ : SM) : Prop := SemS0 prog w h0 q H sc (exec st) ψ
noncomputable def SemB (ss : List Stmt) (ψ : SM) : Prop := SemS0 prog w h0 q H sc (execs ss) ψ
end

section
variable {h0 : Heap} {c : Fx} {sc : Scope} {l : Addr} {ρ : St} {h h' : Heap}
theorem Rel.ended (R : Rel h0 c l ρ h) : Ended h0 c h := let ⟨m, hn⟩ := R.ns; ⟨R.stays, R.frs, R.ext, m, hn.n1⟩

theorem LocAt.same {a : Addr} {m m' : Str → Option Value} {x : Str} {d : Dat} (hs : Heap.SameBut a h h') (ha : a ∈ hid c l) (hm : m' x = m x) (hc : ∀ o v, h.get? a = some o → o.data ≠ .cell v) (x₁ : LocAt c (vw h (hid c l)) h m x d) :
    LocAt c (vw h' (hid c l)) h' m' x d := by
  have V : VLe (vw h (hid c l)) (vw h' (hid c l)) := fun b o e => vw_at ((hs.2 b fun q => vw_not e (q ▸ ha)).trans (vw_get e)) (vw_not e)
  rcases x₁ with ⟨k, v, e, hr⟩ | ⟨k, b, o, v, hl, ho, hd, r1, r2, r3, r4, hr⟩
  · exact .inl ⟨k, v, hm.trans e, hr.mono V⟩
  · exact .inr ⟨k, b, o, v, hl, (hs.2 b fun q => hc o _ (q ▸ ho) hd).trans ho, hd, r1, r2, r3, r4, hr.mono V⟩
theorem same_vle {a : Addr} {M : List Addr} (hs : Heap.SameBut a h h') (ha : a ∈ M) : VLe (vw h M) (vw h' M) := fun b o e => vw_at ((hs.2 b fun q => vw_not e (q ▸ ha)).trans (vw_get e)) (vw_not e)

/-- one hidden object of the frame has changed -/
theorem touch {a : Addr} {o' : Obj} (R : Rel h0 c l ρ h) (hs : Heap.SameBut a h h') (ga : c.g.get? a = none ∨ a ∈ c.X) (ba : h0.get? a = none) (ho' : h'.get? a = some o') (hd : ∀ vs, o'.data ≠ .fields vs) :
    h0.StaysIn h' ∧ h'.FunFrames h0 (c.fenv :: c.fs) ∧ Ext c.X c.fs c.g h' ∧ (∀ a, a ∈ c.X → ∃ o, h'.get? a = some o) ∧ (∀ a, a ∈ c.M → ∃ o, h'.get? a = some o) := by
  refine ⟨fun b o e => (hs.2 b fun q => by rw [q, ba] at e; cases e).trans (R.stays b o e), funFrames_keep (fun b o e hn => ?_) R.frs, ?_, fun b hb => ?_, fun b hb => ?_⟩
  · by_cases hb : b = a
    · subst hb; exact ⟨_, ho', hd⟩
    · exact ⟨o, (hs.2 b hb).trans e, hn⟩
  · intro b o hX e
    have nb : b ≠ a := fun q => by
      subst q
      rcases ga with ga | ga
      · rw [ga] at e; cases e
      · exact hX ga
    obtain ⟨⟨sl, e1⟩, k⟩ := R.ext b o hX e
    exact ⟨⟨sl, (hs.2 b nb).trans e1⟩, fun q => (hs.2 b nb).trans (k q)⟩
  · by_cases hx : b = a
    · subst hx; exact ⟨_, ho'⟩
    · obtain ⟨o, ho⟩ := R.xin b hb; exact ⟨o, (hs.2 b hx).trans ho⟩
  · by_cases hx : b = a
    · subst hx; exact ⟨_, ho'⟩
    · obtain ⟨o, ho⟩ := R.min b hb; exact ⟨o, (hs.2 b hx).trans ho⟩
theorem PinAt.same {a : Addr} {p : Addr × Obj} (hs : Heap.SameBut a h h') (n : p.1 ≠ a) (x : PinAt h0 c l h p) : PinAt h0 c l h' p := ⟨(hs.2 _ n).trans x.1, x.2⟩

theorem nm_inj {i j : Nat} {x : Str} (hd : (sc.names.map (·.1)).Nodup) (hi : nm sc i = some x) (hj : nm sc j = some x) : i = j := by
  have e : ∀ k, nm sc k = (sc.names.map (·.1))[k]? := fun k => by unfold nm; simp
  rw [e] at hi hj
  obtain ⟨h1, e1⟩ := List.getElem?_eq_some_iff.mp hi
  obtain ⟨h2, e2⟩ := List.getElem?_eq_some_iff.mp hj
  exact (List.getElem_inj hd).mp (e1.trans e2.symm)

theorem ns_obj {a : Addr} {m : Str → Option Value} (x : h.Ns a m) : ∃ o, h.get? a = some o ∧ ∀ vs, o.data ≠ .fields vs := by
  obtain ⟨o, es, ep, ho, hd, _⟩ := x
  exact ⟨o, ho, fun vs q => by rw [hd] at q; cases q⟩
theorem ns_nocell {a : Addr} {m : Str → Option Value} (x : h.Ns a m) : ∀ o v, h.get? a = some o → o.data ≠ .cell v := fun o v e q => by
  obtain ⟨o', es, ep, ho, hd, _⟩ := x
  rw [ho] at e; cases e
  rw [hd] at q; cases q

theorem ns_eq {a : Addr} {m m' : Str → Option Value} (x : h.Ns a m) (y : h.Ns a m') : m = m' := by
  obtain ⟨o, es, ep, ho, hd, _, hf⟩ := x
  obtain ⟨o', es', ep', ho', hd', _, hf'⟩ := y
  rw [ho] at ho'; cases ho'
  rw [hd] at hd'; cases hd'
  exact funext fun n => (hf n).symm.trans (hf' n)
theorem Rel.put {i : Nat} {x : Str} {d : Dat} {v : Value} {m : Str → Option Value} (K : Fok h0 c sc) (R : Rel h0 c l ρ h) (hx : nm sc i = some x) (hk : c.env.kindOf x = some .local) (hf : ρ.free i = true)
    (hn : h.Ns c.env.locals m) (hn' : h'.Ns c.env.locals (fun y => if y = x then some v else m y)) (hs : Heap.SameBut c.env.locals h h') (hv : Rep (vw h (hid c l)) d v) :
    Rel h0 c l (ρ.put i d) h' := by
  obtain ⟨m', hm', a1, a2, a3⟩ := R.ns
  obtain rfl : m' = m := ns_eq hm' hn
  obtain ⟨o', ho', hd'⟩ := ns_obj hn'
  obtain ⟨t1, t2, t3, t4, t5⟩ := touch R hs (.inl K.gL) K.bL ho' hd'
  have V := same_vle (M := hid c l) hs (.head _)
  have other : ∀ j y, j ≠ i → nm c.env.scope j = some y → (fun y => if y = x then some v else m' y) y = m' y := fun j y hj hy => by
    show (if y = x then some v else m' y) = m' y
    rw [if_neg]
    intro q
    subst q
    rw [K.is] at hy
    exact hj (nm_inj K.dup hy hx)
  unfold St.free at hf
  obtain ⟨f1, f2⟩ := Bool.and_eq_true_iff.mp hf
  refine ⟨t1, t2, t3, R.lb, fun p hp => (R.pin p hp).same hs (R.pin p hp).2.2.2.1, t4, fun p hp => (R.see p hp).mono V, t5, _, hn', fun j e he => ?_, fun j ds he => ?_, fun j b wt pl he => ?_⟩
  · unfold St.put at he
    dsimp only at he
    by_cases hj : j = i
    · subst hj
      rw [if_pos rfl] at he
      cases he
      exact ⟨x, K.is ▸ hx, .inl ⟨hk, v, if_pos rfl, hv.mono V⟩⟩
    · rw [if_neg hj] at he
      obtain ⟨y, hy, hl⟩ := a1 j e he
      exact ⟨y, hy, hl.same hs (.head _) (other j y hj hy) (ns_nocell hn)⟩
  · have he : ρ.own = some (j, ds) := he
    obtain ⟨y, vs, n, h1, h2, h3, h4, h5, r6, h7, r8⟩ := a2 j ds he
    rw [he] at f1
    exact ⟨y, vs, n, h1, h2, (other j y (by simpa using f1) h1).trans h3, (hs.2 _ h7).trans h4, h5.mono V, r6, h7, r8⟩
  · have he : ρ.stm = some (j, b, wt, pl) := he
    obtain ⟨y, xa, dx, P, t, n, r⟩ := a3 j b wt pl he
    rw [he] at f2
    exact ⟨y, xa, dx, P, t, n, { r with h3 := (other j y (by simpa using f2) r.h1).trans r.h3, h4 := (hs.2 _ r.h12).trans r.h4, h5 := (hs.2 _ r.h10).trans r.h5 }⟩
end

section
variable {prog : Program} {w : World} {h0 : Heap} {q : Bool} {H : Nat} {sc : Scope} {c : Fx} {A : Around} {l : Addr} {ρ : St} {s : Shared} {E : Value → Shared → Prop}

theorem Sem0.useS {α δ : Type} {tree : Env → Sem α} {says : View → δ → α → Prop} {φ : EM δ} {k : δ → SM} {o : Out} {Q : α → Shared → Prop} {Q' : Flow → Shared → Prop}
    (a : Sem0 prog w h0 q H sc tree says φ) (K : Fok h0 c sc) (hA : AOk q H c A) (R : Rel h0 c l ρ s.heap) (hE : PassesOwn (model prog w) A c.env E)
    (hr : SM.ofE φ k ρ = some o) (hP : Posts h0 c s o Q' E)
    (cont : ∀ d v s₁, k d ρ = some o → Goes c s s₁ → Rel h0 c l ρ s₁.heap → says (vw s₁.heap (hid c l)) d v → Posts h0 c s₁ o Q' E → Q v s₁) :
    wpAny (model prog w) A (tree c.env) Q E s := by
  unfold SM.ofE at hr
  cases hφ : φ ρ with
  | none => rw [hφ] at hr; cases hr
  | some r0 =>
    rw [hφ] at hr
    refine a c A l ρ s Q E K hA R hE r0 hφ (fun d hd v s' G hv => ?_) fun C hC e s' h1 h2 h3 => ?_
    · subst hd
      exact cont d v s' hr G (R.goes K G) hv (hP.goes G)
    · subst hC
      obtain rfl : Out.raise C = o := Option.some.inj hr
      exact hP e s' h1 h2 h3

theorem store_sound {i : Nat} {x : Str} {d : Dat} {v : Value} {Q : Unit → Shared → Prop} (K : Fok h0 c sc) (R : Rel h0 c l ρ s.heap) (hx : nm sc i = some x) (hk : sc.names.lookup x = some .local) (hf : ρ.free i = true)
    (hv : Rep (vw s.heap (hid c l)) d v) (hQ : ∀ s', s'.gens = s.gens → s'.os = s.os → Rel h0 c l (ρ.put i d) s'.heap → VLe (vw s.heap (hid c l)) (vw s'.heap (hid c l)) → Q () s') :
    wpAny (model prog w) A (storeName c.env x v) Q E s := by
  obtain ⟨m, hn, _⟩ := R.ns
  have hk' : c.env.kindOf x = some .local := by rw [Env.kindOf, K.is]; exact hk
  refine wpAny_storeName_local hk' hn (fun h' hn' hs => hQ _ rfl rfl (R.put K hx hk' hf hn hn' hs hv) (same_vle hs (.head _))) ?_
  rw [K.is, K.kind]; rfl

theorem SemB.nil : SemB prog w h0 q H sc [] SM.next := by
  intro c A l ρ s Q E K hA R hE hfe o ho hP
  obtain rfl : Out.next ρ = o := Option.some.inj ho
  exact wpAny_execs_nil (hP l s rfl rfl R)
theorem SemB.cons {st : Stmt} {ss : List Stmt} {ψ χ : SM} (a : SemS prog w h0 q H sc st ψ) (b : SemB prog w h0 q H sc ss χ) : SemB prog w h0 q H sc (st :: ss) (SM.seq ψ χ) := by
  intro c A l ρ s Q E K hA R hE hfe o ho hP
  refine wpAny_execs_cons ?_
  unfold SM.seq at ho
  cases hψ : ψ ρ with
  | none => rw [hψ] at ho; cases ho
  | some o₁ =>
    rw [hψ] at ho
    refine a c A l ρ s _ E K hA R hE hfe o₁ hψ ?_
    cases o₁ with
    | next ρ' => exact fun l' s' g k R' => b c A l' ρ' s' Q E K hA R' hE hfe o ho (hP.of g k)
    | brk ρ' => obtain rfl := Option.some.inj ho; exact hP
    | ret d => obtain rfl := Option.some.inj ho; exact hP
    | raise C => obtain rfl := Option.some.inj ho; exact hP
theorem SemB.one {st : Stmt} {ψ : SM} (a : SemS prog w h0 q H sc st ψ) : SemB prog w h0 q H sc [st] ψ := by
  intro c A l ρ s Q E K hA R hE hfe o ho hP
  refine wpAny_execs_cons (a c A l ρ s _ E K hA R hE hfe o ho ?_)
  cases o with
  | next ρ' => exact fun l' s' g k R' => wpAny_execs_nil (hP l' s' g k R')
  | brk ρ' => exact hP
  | ret d => exact hP
  | raise C => exact hP

theorem SemS.assign {x : Str} {p pos : Pos} {e : Expr} {φ : EM Dat} (i : Nat) (a : SemE prog w h0 q H sc e φ) (hx : nm sc i = some x) (hk : sc.names.lookup x = some .local)
    (hs : ∀ env, swapsWith e (some (.Name x p)) pos.line env = pure false := by intro _; rfl) : SemS prog w h0 q H sc (.Assign [.Name x p] e pos) (SM.ofE φ (SM.put i)) := by
  intro c A l ρ s Q E K hA R hE hfe o ho hP
  refine wpAny_Assign_Name (a.useS K hA R hE ho hP fun d v s₁ ho₁ G₁ R₁ hv hP₁ => ?_) (hs _)
  unfold SM.put at ho₁
  split at ho₁ <;> first | (cases ho₁; done) | skip
  rename_i hf
  obtain rfl := Option.some.inj ho₁
  exact store_sound K R₁ hx hk hf hv fun s' g k R' _ => hP₁ l s' g k R'
theorem SemS.ret {e : Expr} {pos : Pos} {φ : EM Dat} (a : SemE prog w h0 q H sc e φ) : SemS prog w h0 q H sc (.Return (some e) pos) (SM.ofE φ fun d _ => some (.ret d)) := by
  intro c A l ρ s Q E K hA R hE hfe o ho hP
  refine wpAny_Return_some (a.useS K hA R hE ho hP fun d v s₁ ho₁ G₁ R₁ hv hP₁ => ?_)
  obtain rfl := Option.some.inj ho₁
  refine hP₁ v s₁ rfl rfl R₁.ended (hv.mono (vw_sub fun b hb => ?_))
  rcases List.mem_append.mp hb with hb | hb
  · exact .tail _ (.tail _ (List.mem_append_left _ (List.mem_append_left _ hb)))
  · exact hid_frames hb
theorem SemS.ite {t : Expr} {a b : List Stmt} {pos : Pos} {τ : EM Bool} {φ ψ : SM} (ht : SemT prog w h0 q H sc t τ) (ha : SemB prog w h0 q H sc a φ) (hb : SemB prog w h0 q H sc b ψ) :
    SemS prog w h0 q H sc (.If t a b pos) (SM.ofE τ fun b => if b then φ else ψ) := by
  intro c A l ρ s Q E K hA R hE hfe o ho hP
  refine wpAny_If (ht.useS K hA R hE ho hP fun d v s₁ ho₁ G₁ R₁ hv hP₁ => ?_)
  subst hv
  cases v with
  | true => exact ha c A l ρ s₁ Q E K hA R₁ hE hfe o ho₁ hP₁
  | false => exact hb c A l ρ s₁ Q E K hA R₁ hE hfe o ho₁ hP₁
theorem SemS.break {pos : Pos} : SemS prog w h0 q H sc (.Break pos) (fun ρ => some (.brk ρ)) := by
  intro c A l ρ s Q E K hA R hE hfe o ho hP
  obtain rfl := Option.some.inj ho
  exact wpAny_Break (hP l s rfl rfl R)
theorem SemS.expr {e : Expr} {pos : Pos} {φ : EM Dat} (a : SemE prog w h0 q H sc e φ) (hs : ∀ env, swapsWith e none pos.line env = pure false := by intro _; rfl) : SemS prog w h0 q H sc (.Expr e pos) (SM.ofE φ fun _ => SM.next) := by
  intro c A l ρ s Q E K hA R hE hfe o ho hP
  refine wpAny_Expr_any (a.useS K hA R hE ho hP fun d v s₁ ho₁ G₁ R₁ hv hP₁ => ?_) ?_ (hs _)
  · obtain rfl := Option.some.inj ho₁
    exact hP₁ l s₁ rfl rfl R₁
  · unfold interactive; rw [K.is, K.kind]; rfl

/-- a while loop, with so much fuel -/
noncomputable def whileM (τ : EM Bool) (β : SM) : Nat → SM
  | 0 => fun _ => none
  | n + 1 => SM.ofE τ fun b ρ => if b then (match β ρ with
    | some (.next ρ') => whileM τ β n ρ'
    | some (.brk ρ') => some (.next ρ')
    | o => o) else some (.next ρ)
theorem SemS.while {t : Expr} {body : List Stmt} {pos : Pos} {τ : EM Bool} {β : SM} (n : Nat) (ht : SemT prog w h0 q H sc t τ) (hb : SemB prog w h0 q H sc body β) : SemS prog w h0 q H sc (.While t body [] pos) (whileM τ β n) := by
  intro c A l ρ s Q E K hA R hE hfe o ho hP
  refine wpAny_While (codeAny_whileLoop (fun k s' => ∃ l' ρ', s'.gens = s.gens ∧ s'.os = s.os ∧ Rel h0 c l' ρ' s'.heap ∧ whileM τ β k ρ' = some o) (fun k s₁ hI => ?_) n ⟨l, ρ, rfl, rfl, R, ho⟩)
  obtain ⟨l₁, ρ₁, g₁, k₁, R₁, ho₁⟩ := hI
  cases k with
  | zero => cases ho₁
  | succ k =>
    refine wpAny_passesOwn hE ?_
    have hP₁ := hP.of g₁ k₁
    refine ht.useS (Q' := Q) K hA R₁ hE ho₁ hP₁ fun d v s₂ ho₂ G₂ R₂ hv hP₂ => ?_
    subst hv
    cases v with
    | false =>
      rw [if_neg (by decide)] at ho₂ ⊢
      obtain rfl := Option.some.inj ho₂
      exact wpAny_passesOwn hE (wpAny_execs_nil (hP₂ l₁ s₂ rfl rfl R₂))
    | true =>
      rw [if_pos rfl] at ho₂ ⊢
      refine wpAny_passesOwn hE ?_
      cases hβ : β ρ₁ with
      | none => rw [hβ] at ho₂; cases ho₂
      | some o₁ =>
        rw [hβ] at ho₂
        refine hb c A l₁ ρ₁ s₂ _ E K hA R₂ hE hfe o₁ hβ ?_
        cases o₁ with
        | next ρ' => exact fun l' s' g k R' => ⟨_, Nat.lt_succ_self _, l', ρ', (g.trans G₂.gens).trans g₁, (k.trans G₂.os).trans k₁, R', ho₂⟩
        | brk ρ' =>
          obtain rfl := Option.some.inj ho₂
          exact fun l' s' g k R' => hP₂ l' s' g k R'
        | ret d =>
          obtain rfl := Option.some.inj ho₂
          exact hP₂
        | raise C =>
          obtain rfl := Option.some.inj ho₂
          exact hP₂
end
end Mine
end
section
set_option Elab.async false
set_option maxRecDepth 100000
open PySem PySem.W PyProof.Rows PySem.SeqAt PySem.Spec
namespace Mine

/-- the same frame, and one object more that the text does not see -/
noncomputable def Fx.pinned (c : Fx) (a : Addr) (o : Obj) : Fx := { c with P := (a, o) :: c.P }
theorem Fok.pinned {h0 : Heap} {c : Fx} {sc : Scope} (K : Fok h0 c sc) {a : Addr} (o : Obj) (n : a ∉ c.P.map (·.1)) : Fok h0 (c.pinned a o) sc := ⟨K.is, K.kind, K.glob, K.blt, K.frame, K.gL, K.bL, K.LX, K.XF, K.Xb, K.Mb, K.dup, List.nodup_cons.mpr ⟨n, K.pnd⟩⟩
theorem AOk.pinned {q : Bool} {H : Nat} {c : Fx} {A : Around} (K : AOk q H c A) (a : Addr) (o : Obj) : AOk q H (c.pinned a o) A := ⟨K.frames, K.depth, K.units, K.handled⟩
theorem mem_hid_pinned {c : Fx} {a b l : Addr} {o : Obj} : b ∈ hid (c.pinned a o) l ↔ b = a ∨ b ∈ hid c l := by
  have p : (hid (c.pinned a o) l).Perm (a :: hid c l) :=
    (((List.perm_middle (l₁ := c.M) (a := a) (l₂ := c.P.map (·.1))).append_right (addrs (c.fenv :: c.fs))).cons l |>.cons c.env.locals).trans
      (List.perm_middle (l₁ := [c.env.locals, l]) (a := a) (l₂ := (c.M ++ c.P.map (·.1)) ++ addrs (c.fenv :: c.fs)))
  exact p.mem_iff.trans List.mem_cons

section
variable {h0 : Heap} {c : Fx} {sc : Scope} {l : Addr} {ρ : St} {h h' : Heap} {a : Addr} {o : Obj}

theorem Rel.newPin (K : Fok h0 c sc) (R : Rel h0 c l ρ h) (ha : a = h.objs.size) (k : ∀ b ob, h.get? b = some ob → h'.get? b = some ob) (ho : h'.get? a = some o) : Rel h0 (c.pinned a o) l ρ h' := by
  have nf : a ∉ hid c l := ha ▸ R.fresh K
  have na : ∀ b ob, h.get? b = some ob → b ≠ a := fun b ob e q => by rw [q, ha] at e; exact Nat.lt_irrefl _ (Heap.lt_size e)
  have y : Ext [] (c.fenv :: c.fs) h h' := .of_keeps k
  have R' := R.of_ext K y
  have nh0 : h0.get? a = none := by
    cases e : h0.get? a with
    | none => rfl
    | some ob => exact absurd rfl (na a ob (R.stays a ob e))
  have nX : a ∉ c.X := fun q => by obtain ⟨ob, e⟩ := R.xin a q; exact na a ob e rfl
  have ng : c.g.get? a = none := by
    cases e : c.g.get? a with
    | none => rfl
    | some ob => obtain ⟨⟨_, e'⟩, _⟩ := R.ext a ob nX e; exact absurd rfl (na a _ e')
  have nF : a ∉ addrs (c.fenv :: c.fs) := fun q => nf (hid_frames q)
  have nL : a ≠ c.env.locals := fun q => nf (q ▸ .head _)
  have nl : a ≠ l := fun q => nf (q ▸ .tail _ (.head _))
  have nM : a ∉ c.M := fun q => by obtain ⟨ob, e⟩ := R.min a q; exact na a ob e rfl
  have V : VLe (vw h (hid c l)) (vw h' (hid (c.pinned a o) l)) := fun b ob e => vw_at (k b ob (vw_get e)) fun q => by
    rcases mem_hid_pinned.mp q with q | q
    · exact na b ob (vw_get e) q
    · exact vw_not e q
  obtain ⟨m, hn, a1, a2, a3⟩ := R.ns
  refine ⟨R'.stays, R'.frs, R'.ext, R.lb, fun p hp => ?_, R'.xin, fun p hp => (R.see p hp).mono V, R'.min, m, y.ns (by simp) hn, fun i d e => ?_, fun i ds e => ?_, fun i b wt pl e => ?_⟩
  · rcases List.mem_cons.mp hp with rfl | hp
    · exact ⟨ho, nX, nF, nL, nl, nh0, ng, nM⟩
    · exact R'.pin p hp
  · obtain ⟨x, hx, hl⟩ := a1 i d e
    refine ⟨x, hx, ?_⟩
    rcases hl with ⟨kk, v, hm, hr⟩ | ⟨kk, b, ob, v, hl, ho, hd, hs, hn, hL, hX, hr⟩
    · exact .inl ⟨kk, v, hm, hr.mono V⟩
    · exact .inr ⟨kk, b, ob, v, hl, k b ob ho, hd, hs, hn, hL, hX, hr.mono V⟩
  · obtain ⟨x, vs, n, h1, h2, h3, h4, h5, h6⟩ := a2 i ds e
    exact ⟨x, vs, n, h1, h2, h3, k _ _ h4, h5.mono V, h6⟩
  · obtain ⟨x, xa, dx, P, t, n, h1, h2, h3, h4, h5, h6, h7, h8, h9, h10, h11, h12, h13, h14, h15, h16, h18, h19⟩ := a3 i b wt pl e
    refine ⟨x, xa, dx, P, t, n, h1, h2, h3, k _ _ h4, k _ _ h5, h6, h7, h8, h9, h10, h11, h12, h13, h14, h15, h16, fun p hp => ?_, h19⟩
    rcases List.mem_cons.mp hp with rfl | hp
    · exact ⟨fun q => na _ _ h5 q.symm, fun q => na _ _ h4 q.symm⟩
    · exact h18 p hp

theorem Rel.pin_fresh (R : Rel h0 c l ρ h) : h.objs.size ∉ c.P.map (·.1) := fun q => by
  obtain ⟨p, hp, e⟩ := List.mem_map.mp q
  have e' := (R.pin p hp).1
  rw [e] at e'
  exact Nat.lt_irrefl _ (Heap.lt_size e')

/-- the pinned object has gone on, or is let go -/
theorem Rel.pastX {P' : List (Addr × Obj)} (K : Fok h0 c sc) (hnp : a ∉ c.P.map (·.1)) (R : Rel h0 (c.pinned a o) l ρ h) (x : Ext [a] (c.fenv :: c.fs) h h') (hc : ∀ v, o.data ≠ .cell v)
    (hP : P' = c.P ∨ ∃ o', h'.get? a = some o' ∧ P' = (a, o') :: c.P) : Rel h0 { c with P := P' } l ρ h' := by
  have pa := R.pin _ (.head _)
  obtain ⟨p1, pX, pF, pL, pl, p0, pg, pM⟩ := pa
  have k : ∀ b ob, b ≠ a → b ∉ addrs (c.fenv :: c.fs) → h.get? b = some ob → h'.get? b = some ob := fun b ob n1 n2 e => (x b ob (by simpa using n1) e).2 n2
  have hsub : ∀ b, b ∈ hid { c with P := P' } l → b ∈ hid (c.pinned a o) l := by
    rcases hP with rfl | ⟨o', _, rfl⟩
    · exact fun b hb => mem_hid_pinned.mpr (.inr hb)
    · exact fun b hb => mem_hid_pinned.mpr (mem_hid_pinned.mp (show b ∈ hid (c.pinned a o') l from hb))
  have V : VLe (vw h (hid (c.pinned a o) l)) (vw h' (hid { c with P := P' } l)) := fun b ob e => vw_at (k b ob (fun q => vw_not e (mem_hid_pinned.mpr (.inl q))) (fun q => vw_not e (hid_frames q)) (vw_get e)) fun q => vw_not e (hsub b q)
  have hX : ∀ b, b ∈ [a] → h0.get? b = none := fun b hb => by simp at hb; rw [hb]; exact p0
  have hF : ∀ b, b ∈ [a] → b ∉ addrs (c.fenv :: c.fs) := fun b hb => by simp at hb; rw [hb]; exact pF
  obtain ⟨m, hn, a1, a2, a3⟩ := R.ns
  refine ⟨x.stays hX R.frs R.stays, x.frames hF R.frs, ?_, R.lb, fun p hp => ?_, fun b hb => ?_, fun p hp => (R.see p hp).mono V, fun b hb => ?_, m, x.ns (fun q => pL (List.mem_singleton.mp q).symm) hn, fun i d e => ?_, fun i ds e => ?_, fun i b wt pl e => ?_⟩
  · intro b ob hX e
    have nb : b ≠ a := fun q => by rw [q] at e; have e2 := pg.symm.trans e; cases e2
    obtain ⟨⟨sl, e1⟩, kk⟩ := R.ext b ob hX e
    obtain ⟨⟨sl', e2⟩, _⟩ := x b _ (by simpa using nb) e1
    obtain ⟨FL, hf, _, hg⟩ := K.frame
    refine ⟨⟨sl', e2⟩, fun q => k b _ nb (fun z => ?_) (kk q)⟩
    unfold addrs at z q
    rw [List.filterMap_cons, hf] at z
    rcases List.mem_cons.mp z with z | z
    · rw [z] at e; have e3 := hg.symm.trans e; cases e3
    · exact q z
  · have keep : ∀ p, p ∈ c.P → p.1 ≠ a → PinAt h0 { c with P := P' } l h' p := fun p hp n => by
      obtain ⟨q1, r⟩ := R.pin p (.tail _ hp)
      exact ⟨k _ _ n r.2.1 q1, r⟩
    rcases hP with rfl | ⟨o', ho', rfl⟩
    · exact keep p hp fun q => hnp (List.mem_map.mpr ⟨p, hp, q⟩)
    · rcases List.mem_cons.mp hp with rfl | hp
      · exact ⟨ho', pX, pF, pL, pl, p0, pg, pM⟩
      · exact keep p hp fun q => hnp (List.mem_map.mpr ⟨p, hp, q⟩)
  · obtain ⟨ob, e⟩ := R.xin b hb
    obtain ⟨⟨_, e2⟩, _⟩ := x b ob (fun q => pX ((List.mem_singleton.mp q) ▸ hb)) e
    exact ⟨_, e2⟩
  · obtain ⟨ob, e⟩ := R.min b hb
    obtain ⟨⟨_, e2⟩, _⟩ := x b ob (fun q => pM ((List.mem_singleton.mp q) ▸ hb)) e
    exact ⟨_, e2⟩
  · obtain ⟨y, hy, hl⟩ := a1 i d e
    refine ⟨y, hy, ?_⟩
    rcases hl with ⟨kk, v, hm, hr⟩ | ⟨kk, b, ob, v, hl, ho, hd, hs, hn, hL, hX, hr⟩
    · exact .inl ⟨kk, v, hm, hr.mono V⟩
    · refine .inr ⟨kk, b, ob, v, hl, k b ob (fun q => ?_) hn ho, hd, hs, hn, hL, hX, hr.mono V⟩
      subst q
      rw [p1] at ho; cases ho
      exact hc _ hd
  · obtain ⟨y, vs, n, h1, h2, h3, h4, h5, h6⟩ := a2 i ds e
    exact ⟨y, vs, n, h1, h2, h3, k _ _ (Ne.symm pl) h6.2.2.1 h4, h5.mono V, h6⟩
  · obtain ⟨y, xa, dx, P, t, n, h1, h2, h3, h4, h5, h6, h7, h8, h9, h10, h11, h12, h13, h14, h15, h16, h18, h19⟩ := a3 i b wt pl e
    obtain ⟨s1, s2⟩ := h18 _ (.head _)
    refine ⟨y, xa, dx, P, t, n, h1, h2, h3, k _ _ (Ne.symm s2) h6 h4, k _ _ (Ne.symm s1) h7 h5, h6, h7, h8, h9, h10, h11, h12, h13, h14, h15, h16, fun p hp => ?_, h19⟩
    rcases hP with rfl | ⟨o', _, rfl⟩
    · exact h18 p (.tail _ hp)
    · rcases List.mem_cons.mp hp with rfl | hp
      · exact ⟨s1, s2⟩
      · exact h18 p (.tail _ hp)
theorem Rel.past {P' : List (Addr × Obj)} (K : Fok h0 c sc) (hnp : a ∉ c.P.map (·.1)) (R : Rel h0 (c.pinned a o) l ρ h) (k : ∀ b ob, b ≠ a → h.get? b = some ob → h'.get? b = some ob) (hc : ∀ v, o.data ≠ .cell v)
    (hP : P' = c.P ∨ ∃ o', h'.get? a = some o' ∧ P' = (a, o') :: c.P) : Rel h0 { c with P := P' } l ρ h' :=
  Rel.pastX K hnp R (fun b ob hb e => ⟨⟨ob.slots, k b ob (by simpa using hb) e⟩, fun _ => k b ob (by simpa using hb) e⟩) hc hP
end
end Mine
end
section
set_option Elab.async false
set_option maxRecDepth 100000
open PySem PySem.W PyProof.Rows PySem.SeqAt PySem.Spec
namespace Mine

noncomputable def lst (vs : List Value) (n : Nat) : Obj := { cls := .type "list", data := .seq vs.toArray n }
noncomputable def St.cut (ρ : St) (i : Nat) : Nat → Option Dat := fun j => if j = i then none else ρ.loc j
/-- the name gets a list of its own -/
noncomputable def SM.mine (i : Nat) : SM := fun ρ => if ρ.own.isNone && ρ.free i then some (.next { ρ with own := some (i, []), loc := ρ.cut i }) else none
noncomputable def SM.onOwn (i : Nat) (φ : EM Dat) (f : List Dat → Dat → Option (List Dat)) : SM := fun ρ => match ρ.own with
  | some (j, ds) => if j = i ∧ ds.length ≤ 4096 then SM.ofE φ (fun d ρ => (f ds d).map fun es => .next { ρ with own := some (j, es) }) ρ else none
  | none => none
noncomputable def SM.puts : List Nat → List Dat → SM
  | i :: is, d :: ds => SM.seq (SM.put i d) (SM.puts is ds)
  | [], [] => SM.next
  | _, _ => fun _ => none

section
variable {h0 : Heap} {c : Fx} {sc : Scope} {l : Addr} {ρ : St} {h h' : Heap} {a : Addr}

theorem LocAt.to {c' : Fx} {S S' : View} {m m' : Str → Option Value} {x : Str} {d : Dat} (he : c'.env = c.env) (hf : c'.fenv = c.fenv) (hs : c'.fs = c.fs) (hX : c'.X = c.X) (V : VLe S S') (hm : m' x = m x)
    (k : ∀ b ob v, h.get? b = some ob → ob.data = .cell v → h'.get? b = some ob) (y : LocAt c S h m x d) : LocAt c' S' h' m' x d := by
  unfold LocAt
  rcases y with ⟨kk, v, e, hr⟩ | ⟨kk, b, ob, v, hl, ho, hd, r1, r2, r3, r4, hr⟩
  · exact .inl ⟨he ▸ kk, v, hm.trans e, hr.mono V⟩
  · exact .inr ⟨he ▸ kk, b, ob, v, by rw [he]; exact hl, k b ob _ ho hd, hd, r1, by rw [hf, hs]; exact r2, by rw [he]; exact r3, by rw [hX]; exact r4, hr.mono V⟩

theorem mine_vle {o : Obj} (hs : Heap.SameBut c.env.locals h h') : VLe (vw h (hid (c.pinned a o) l)) (vw h' (hid c a)) := fun b ob e => by
  have nb := vw_not e
  refine vw_at ((hs.2 b fun q => nb (by rw [q]; exact .head _)).trans (vw_get e)) fun q => nb ?_
  rcases List.mem_cons.mp q with q | q
  · subst q; exact .head _
  rcases List.mem_cons.mp q with q | q
  · exact mem_hid_pinned.mpr (.inl q)
  · exact mem_hid_pinned.mpr (.inr (.tail _ (.tail _ q)))
theorem Rel.mine {i n : Nat} {x : Str} {m : Str → Option Value} (K : Fok h0 (c.pinned a (lst [] n)) sc) (R : Rel h0 (c.pinned a (lst [] n)) l ρ h) (hx : nm sc i = some x) (hk : c.env.kindOf x = some .local) (ho : ρ.own = none) (hf : ρ.free i = true)
    (hn : h.Ns c.env.locals m) (hn' : h'.Ns c.env.locals (fun y => if y = x then some (.ref a) else m y)) (hs : Heap.SameBut c.env.locals h h') :
    Rel h0 c a { ρ with own := some (i, []), loc := ρ.cut i } h' := by
  obtain ⟨m', hm', a1, a2, a3⟩ := R.ns
  obtain rfl : m' = m := ns_eq hm' hn
  obtain ⟨o', ho', hd'⟩ := ns_obj hn'
  obtain ⟨t1, t2, t3, t4, t5⟩ := touch R hs (.inl K.gL) K.bL ho' hd'
  have hL : l = c.env.locals := R.lb ho
  subst hL
  obtain ⟨p1, pX, pF, pL, pl, p0, pg, pM⟩ := R.pin _ (.head _)
  have hnp : a ∉ c.P.map (·.1) := (List.nodup_cons.mp K.pnd).1
  have V := mine_vle (a := a) (l := c.env.locals) (o := lst [] n) hs
  have other : ∀ j y, j ≠ i → nm c.env.scope j = some y → (fun y => if y = x then some (.ref a) else m' y) y = m' y := fun j y hj hy => by
    show (if y = x then some (.ref a) else m' y) = m' y
    rw [if_neg]
    intro q
    subst q
    rw [show c.env.scope = sc from K.is] at hy
    exact hj (nm_inj K.dup hy hx)
  have cells : ∀ b ob v, h.get? b = some ob → ob.data = .cell v → h'.get? b = some ob := fun b ob v e hd => (hs.2 b fun q => ns_nocell hn ob v (q ▸ e) hd).trans e
  unfold St.free at hf
  obtain ⟨f1, f2⟩ := Bool.and_eq_true_iff.mp hf
  refine ⟨t1, t2, t3, fun q => (by cases q), fun p hp => ?_, t4, fun p hp => (R.see p hp).mono V, t5, _, hn', fun j e he => ?_, fun j ds he => ?_, fun j b wt pl he => ?_⟩
  · obtain ⟨q1, q2, q3, q4, q5, q6, q7⟩ := R.pin p (.tail _ hp)
    exact ⟨(hs.2 _ q4).trans q1, q2, q3, q4, fun q => hnp (List.mem_map.mpr ⟨p, hp, q⟩), q6, q7⟩
  · unfold St.cut at he
    dsimp only at he
    by_cases hj : j = i
    · rw [if_pos hj] at he; cases he
    · rw [if_neg hj] at he
      obtain ⟨y, hy, hl⟩ := a1 j e he
      exact ⟨y, hy, LocAt.to (c := c.pinned a (lst [] n)) rfl rfl rfl rfl V (other j y hj hy) cells hl⟩
  · cases he
    refine ⟨x, [], n, by rw [show c.env.scope = sc from K.is]; exact hx, hk, if_pos rfl, (hs.2 _ pL).trans p1, by unfold Reps; rfl, pM, pL, pF, pg, p0, pX⟩
  · have he : ρ.stm = some (j, b, wt, pl) := he
    obtain ⟨y, xa, dx, P, t, n', h1, h2, h3, h4, h5, h6, h7, h8, h9, h10, h11, h12, h13, h14, h15, h16, h18, h19⟩ := a3 j b wt pl he
    rw [he] at f2
    obtain ⟨s1, s2⟩ := h18 _ (.head _)
    exact ⟨y, xa, dx, P, t, n', h1, h2, (other j y (by simpa using f2) h1).trans h3, (hs.2 _ h12).trans h4, (hs.2 _ h10).trans h5, h6, h7, h8, Ne.symm s1, h10, Ne.symm s2, h12, h13, h14, h15, h16, fun p hp => h18 p (.tail _ hp), h19⟩

/-- the frame's own list has changed -/
theorem Rel.owned {i n : Nat} {ds es : List Dat} {vs : List Value} (R : Rel h0 c l ρ h) (ho : ρ.own = some (i, ds)) (hs : Heap.SameBut l h h') (hl : h'.get? l = some (lst vs n)) (hr : Reps (vw h (hid c l)) es vs) :
    Rel h0 c l { ρ with own := some (i, es) } h' := by
  obtain ⟨m, hn, a1, a2, a3⟩ := R.ns
  obtain ⟨x, us, k, h1, h2, h3, h4, h5, h6, h7, h8, h9, h10, h11⟩ := a2 i ds ho
  obtain ⟨t1, t2, t3, t4, t5⟩ := touch R hs (.inl h9) h10 hl (fun vs q => by cases q)
  have V := same_vle (M := hid c l) hs (.tail _ (.head _))
  have cells : ∀ b ob v, h.get? b = some ob → ob.data = .cell v → h'.get? b = some ob := fun b ob v e hd => (hs.2 b fun q => by rw [q, h4] at e; cases e; cases hd).trans e
  have hn' : h'.Ns c.env.locals m := by
    obtain ⟨o, es, ep, e1, r⟩ := hn
    exact ⟨o, es, ep, (hs.2 _ (Ne.symm h7)).trans e1, r⟩
  refine ⟨t1, t2, t3, fun q => (by cases q), fun p hp => (R.pin p hp).same hs (R.pin p hp).2.2.2.2.1, t4, fun p hp => (R.see p hp).mono V, t5, m, hn', fun j e he => ?_, fun j ds' he => ?_, fun j b wt pl he => ?_⟩
  · obtain ⟨y, hy, hl⟩ := a1 j e he
    exact ⟨y, hy, hl.to rfl rfl rfl rfl V rfl cells⟩
  · cases he
    exact ⟨x, vs, n, h1, h2, h3, hl, hr.mono V, h6, h7, h8, h9, h10, h11⟩
  · obtain ⟨y, xa, dx, P, t, n', r⟩ := a3 j b wt pl he
    exact ⟨y, xa, dx, P, t, n', { r with h4 := (hs.2 _ r.h11).trans r.h4, h5 := (hs.2 _ r.h9).trans r.h5 }⟩
end

theorem setItem_neg {prog : Program} {w : World} {A : Around} {E : Value → Shared → Prop} {s : Shared} {l : Addr} {items : Array Value} {k : Int} {t : Tok} {v : Value} {Q : Unit → Shared → Prop} {ob : Obj} {ne : Nat}
    (ho : s.heap.get? l = some ob) (hc : ob.cls = .type "list") (hd : ob.data = .seq items ne)
    (h0 : k < 0) (h1 : -(items.size : Int) ≤ k) (hfit : -(2 ^ 63) ≤ k)
    (hQ : Q () { s with heap := s.heap.update l (Obj.mapSeq (·.setIfInBounds (k + items.size).toNat v)) }) :
    wpAny (model prog w) A (setItem (.ref l) (.int k t) v) Q E s := by
  have hl : s.heap.IsList l items := ⟨ob, ho, hc, ne, hd⟩
  unfold setItem
  try with_reducible refine wpAny_holding ?_
  first | refine wpAny_bind (wpAny_pure ?_) | skip
  refine wpAny_bind (wpAny_sequenceKey hl.typeIs (by decide) ?_)
  refine wpAny_bind (wpAny_callSpecial?_slot (name := Str.ofString "__setitem__") hl.typeIs slot_list_setitem
    (wpAny_call_entry slot_list_setitem hl.typeIs entry_list_setitem ?_ (args_list_setitem _ _ _)))
  show wpAny _ _ (Builtin.List.listSubscript? (.int k t) >>= _) _ _ s
  refine wpAny_bind (wpAny_listSubscript_int (fitsIndex_neg h0 hfit) ?_)
  clear hfit
  have hidx := seqIndex_neg h0 h1
  have hj : (k + items.size).toNat < items.size := by omega
  generalize hjj : (k + items.size).toNat = j at *
  have hx' : items[j]? = some items[j] := Array.getElem?_eq_getElem hj
  obtain ⟨i, rfl⟩ : ∃ i : Nat, k = Int.negSucc i := by
    cases k with
    | ofNat n => exact absurd h0 (Int.not_lt.mpr (Int.ofNat_nonneg n))
    | negSucc n => exact ⟨n, rfl⟩
  show wpAny _ _ ((Builtin.List.listItems (.ref l) >>= fun xs => pure ((seqIndex? (Int.negSucc i) xs.size).bind fun i => xs[i]?.map (i, ·))) >>= _) _ _ s
  refine wpAny_bind (wpAny_bind ?_)
  show wpAny _ _ (seqItems? (.ref l) >>= _) _ _ s
  refine wpAny_bind (wpAny_seqItems ho hd (wpAny_pure (wpAny_pure ?_)))
  rw [hidx]
  simp only [Option.bind_some, hx', Option.map_some]
  show wpAny _ _ (setSeqItemAt l j v >>= _) _ _ s
  refine wpAny_bind (wpAny_setSeqItemAt ho hd ?_)
  first
    | exact wpAny_bind (wpAny_pure (wpAny_pure ⟨.none, rfl, wpAny_pure hQ⟩))
    | exact wpAny_pure ⟨.none, rfl, wpAny_pure hQ⟩

section
variable {prog : Program} {w : World} {h0 : Heap} {q : Bool} {H : Nat} {sc : Scope} {c : Fx} {A : Around} {l : Addr} {ρ : St} {s : Shared} {E : Value → Shared → Prop}

theorem mine_sound {i n : Nat} {x : Str} {a : Addr} {Q : Unit → Shared → Prop} (K : Fok h0 (c.pinned a (lst [] n)) sc) (R : Rel h0 (c.pinned a (lst [] n)) l ρ s.heap) (hx : nm sc i = some x) (hk : sc.names.lookup x = some .local) (ho : ρ.own = none) (hf : ρ.free i = true)
    (hQ : ∀ s', s'.gens = s.gens → s'.os = s.os → Rel h0 c a { ρ with own := some (i, []), loc := ρ.cut i } s'.heap → VLe (vw s.heap (hid (c.pinned a (lst [] n)) l)) (vw s'.heap (hid c a)) → Q () s') :
    wpAny (model prog w) A (storeName c.env x (.ref a)) Q E s := by
  obtain ⟨m, hn, _⟩ := R.ns
  have hk' : c.env.kindOf x = some .local := by rw [Env.kindOf, show c.env.scope = sc from K.is]; exact hk
  refine wpAny_storeName_local hk' hn (fun h' hn' hs => hQ _ rfl rfl (R.mine K hx hk' ho hf hn hn' hs) (mine_vle hs)) ?_
  rw [show c.env.scope = sc from K.is, K.kind]; rfl

theorem own_var {x : Str} {pos : Pos} {i : Nat} {ds : List Dat} {Q : Value → Shared → Prop} (K : Fok h0 c sc) (R : Rel h0 c l ρ s.heap) (ho : ρ.own = some (i, ds)) (hx : nm sc i = some x) (h1 : (x == ("__debug__" : Str)) = false)
    (hQ : Q (.ref l) s) : wpAny (model prog w) A (eval (.Name x pos) c.env) Q E s := by
  obtain ⟨m, hn, _, a2, _⟩ := R.ns
  obtain ⟨x', vs, n, e1, e2, e3, _⟩ := a2 i ds ho
  rw [K.is, hx] at e1
  cases e1
  exact wpAny_Name (wpAny_loadName_local (K.is ▸ K.kind) e2 hn e3 hQ) h1

/-- found = [] -/
theorem SemS.mine {x : Str} {p lp pos : Pos} (i : Nat) (hx : nm sc i = some x) (hk : sc.names.lookup x = some .local) : SemS prog w h0 q H sc (.Assign [.Name x p] (.List [] lp) pos) (SM.mine i) := by
  intro c A l ρ s Q E K hA R hE hfe o ho hP
  refine wpAny_Assign_Name (List_ (Calls.spliced_nil (wpAny_newObj_type ?_ (by size_fits)))) rfl
  unfold SM.mine at ho
  split at ho <;> first | (cases ho; done) | skip
  rename_i hf
  obtain rfl := Option.some.inj ho
  obtain ⟨f1, f2⟩ := Bool.and_eq_true_iff.mp hf
  have hn := R.pin_fresh
  refine mine_sound (K.pinned _ hn) (R.newPin K rfl (fun _ _ e => Heap.get?_push_of_some _ e) (Heap.get?_push_size _ rfl)) hx hk (Option.isNone_iff_eq_none.mp f1) f2 fun s' g k R' _ => hP _ s' g k R'

theorem onOwn_some {i : Nat} {φ : EM Dat} {f : List Dat → Dat → Option (List Dat)} {o : Out} (h : SM.onOwn i φ f ρ = some o) : ∃ ds, ρ.own = some (i, ds) ∧ ds.length ≤ 4096 ∧ SM.ofE φ (fun d ρ => (f ds d).map fun es => .next { ρ with own := some (i, es) }) ρ = some o := by
  unfold SM.onOwn at h
  split at h <;> first | (cases h; done) | skip
  split at h <;> first | (cases h; done) | skip
  rename_i j ds hj hd
  obtain ⟨rfl, hl⟩ := hd
  exact ⟨ds, hj, hl, h⟩

theorem own_at {i : Nat} {ds : List Dat} (R : Rel h0 c l ρ s.heap) (ho : ρ.own = some (i, ds)) : ∃ vs n, s.heap.get? l = some (lst vs n) ∧ Reps (vw s.heap (hid c l)) ds vs := by
  obtain ⟨m, _, _, a2, _⟩ := R.ns
  obtain ⟨_, vs, n, _, _, _, h4, h5, _⟩ := a2 i ds ho
  exact ⟨vs, n, h4, h5⟩

theorem append_sound {i : Nat} {ds : List Dat} {d : Dat} {v : Value} {Q : Value → Shared → Prop} (R : Rel h0 c l ρ s.heap) (ho : ρ.own = some (i, ds)) (hz : ds.length ≤ 4096) (hv : Rep (vw s.heap (hid c l)) d v)
    (hQ : ∀ s', s'.gens = s.gens → s'.os = s.os → Rel h0 c l { ρ with own := some (i, ds ++ [d]) } s'.heap → Q .none s') : wpAny (model prog w) A (call (.builtin "list.append") [.ref l, v]) Q E s := by
  obtain ⟨vs, n, hl, hr⟩ := own_at R ho
  refine call_meets PySem.F.slot_list_append ⟨_, hl, rfl⟩ PySem.F.entry_list_append (PySem.F.args_list_append_2 _ _) (AutoListH.list_append_list_val_0 l vs.toArray n v (by rw [List.size_toArray, hr.length, sizeLine_eq]; omega)) ⟨hl, ?_⟩
  refine hQ _ rfl rfl (R.owned ho (n := n + 1) (vs := vs ++ [v]) (Heap.SameBut.update ..) ?_ (hr.append (.one hv)))
  have e := IsL.update (show IsL s.heap l vs.toArray n from hl) (fun x => x.push v)
  rw [if_neg (by simp)] at e
  have e1 : (vs ++ [v]).toArray = vs.toArray.push v := by simp
  unfold lst
  rw [e1]
  exact e
theorem SemS.append {x : Str} {p ap cp pos : Pos} {e : Expr} {φ : EM Dat} (i : Nat) (a : SemE prog w h0 q H sc e φ) (hx : nm sc i = some x) (h1 : (x == ("__debug__" : Str)) = false) (hline : (ap.endLine == cp.line) = true)
    (hs : ∀ env, starEach [e] env = [(false, eval e env)] := by intro _; rfl) :
    SemS prog w h0 q H sc (.Expr (.Call (.Attribute (.Name x p) "append" ap) [e] [] cp) pos) (SM.onOwn i φ fun ds d => some (ds ++ [d])) := by
  intro c A l ρ s Q E K hA R hE hfe o ho hP
  obtain ⟨ds, h2, hz, ho⟩ := onOwn_some ho
  obtain ⟨vs, n, hl, _⟩ := own_at R h2
  refine wpAny_Expr_any ?_ (by unfold interactive; rw [K.is, K.kind]; rfl) rfl
  refine wpAny_Call_append rfl (by rw [hs]; rfl) hline (by rw [hs]; rfl) (own_var K R h2 hx h1 ⟨l, vs.toArray, rfl, ⟨_, n, hl, rfl, rfl, rfl⟩, ?_⟩)
  refine a.useS K hA R hE ho hP fun d v s₁ ho₁ G₁ R₁ hv hP₁ => ?_
  obtain rfl := Option.some.inj ho₁
  exact append_sound R₁ h2 hz hv fun s' g k R' => hP₁ l s' g k R'
theorem extend_sound {i : Nat} {ds es : List Dat} {v : Value} {Q : Value → Shared → Prop} (R : Rel h0 c l ρ s.heap) (ho : ρ.own = some (i, ds)) (hz : ds.length ≤ 4096) (hz2 : es.length ≤ 4096) (hne : es ≠ []) (hv : Rep (vw s.heap (hid c l)) (.list es) v)
    (hQ : ∀ s', s'.gens = s.gens → s'.os = s.os → Rel h0 c l { ρ with own := some (i, ds ++ es) } s'.heap → Q .none s') : wpAny (model prog w) A (call (.builtin "list.extend") [.ref l, v]) Q E s := by
  obtain ⟨vs, n, hl, hr⟩ := own_at R ho
  unfold Rep at hv
  obtain ⟨b, us, k, rfl, hb, hr2⟩ := hv
  have s1 := hr.length
  have s2 := hr2.length
  have hpos : us.length ≠ 0 := by rw [s2]; cases es <;> simp at hne ⊢
  refine call_meets PySem.F.slot_list_extend ⟨_, hl, rfl⟩ PySem.F.entry_list_extend (PySem.F.args_list_extend_2 _ _) (PySem.AutoSeq1.list_extend_list_list_0 l vs.toArray n b us.toArray k ?_ ?_ ?_) ⟨hl, vw_get hb, ?_⟩
  · simp only [List.size_toArray, s1, s2]
    simp [Builtin.List.listTooLong, sizeLine]
    intros; omega
  · rw [List.size_toArray, s1, sizeLine_eq]; omega
  · rw [List.size_toArray, List.size_toArray, s1, s2, sizeLine_eq]; omega
  · refine hQ _ rfl rfl (R.owned ho (n := n + 1) (vs := vs ++ us) (Heap.SameBut.update ..) ?_ (hr.append hr2))
    have e := IsL.update (show IsL s.heap l vs.toArray n from hl) (fun x => x ++ us.toArray)
    rw [if_neg (by simpa using hpos)] at e
    have e1 : (vs ++ us).toArray = vs.toArray ++ us.toArray := by simp
    unfold lst
    rw [e1]
    exact e
noncomputable def exD (ds : List Dat) : Dat → Option (List Dat)
  | .list es => if es ≠ [] ∧ es.length ≤ 4096 then some (ds ++ es) else none
  | _ => none
theorem SemS.extend {x : Str} {p ap cp pos : Pos} {e : Expr} {φ : EM Dat} (i : Nat) (a : SemE prog w h0 q H sc e φ) (hx : nm sc i = some x) (h1 : (x == ("__debug__" : Str)) = false) (hline : (ap.endLine == cp.line) = true)
    (hs : ∀ env, starEach [e] env = [(false, eval e env)] := by intro _; rfl) :
    SemS prog w h0 q H sc (.Expr (.Call (.Attribute (.Name x p) "extend" ap) [e] [] cp) pos) (SM.onOwn i φ exD) := by
  intro c A l ρ s Q E K hA R hE hfe o ho hP
  obtain ⟨ds, h2, hz, ho⟩ := onOwn_some ho
  obtain ⟨vs, n, hl, _⟩ := own_at R h2
  refine wpAny_Expr_any ?_ (by unfold interactive; rw [K.is, K.kind]; rfl) rfl
  refine Call_method1 rfl (hs _) hline (own_var K R h2 hx h1 ⟨"list", "list.extend", PySem.F.plainAttrs_list, PySem.F.slot_list_extend, PySem.F.type_list_extend, ⟨_, hl, rfl⟩, fun a e => by cases e; exact ⟨_, hl, rfl⟩, ?_⟩)
  refine Calls.callWith_builtin rfl (Calls.evalArgs_plain (Calls.spliced_cons (a.useS K hA R hE ho hP fun d v s₁ ho₁ G₁ R₁ hv hP₁ => Calls.spliced_nil ?_)))
  obtain ⟨es, e1, rfl⟩ := Option.map_eq_some_iff.mp ho₁
  unfold exD at e1
  split at e1 <;> first | (cases e1; done) | skip
  split at e1 <;> first | (cases e1; done) | skip
  rename_i hh
  obtain rfl := Option.some.inj e1
  exact extend_sound R₁ h2 hz hh.2 hh.1 hv fun s' g k R' => hP₁ l s' g k R'
/-- found[-1] = e -/
noncomputable def lastD (ds : List Dat) (d : Dat) : Option (List Dat) := if ds = [] then none else some (ds.set (ds.length - 1) d)
theorem Reps.set {S : View} : ∀ {ds : List Dat} {vs : List Value} {k : Nat} {d : Dat} {v : Value}, Reps S ds vs → Rep S d v → Reps S (ds.set k d) (vs.set k v)
  | [], vs, k, d, v, h, _ => by unfold Reps at h; subst h; simp; unfold Reps; rfl
  | e :: ds, vs, 0, d, v, h, hv => by
    unfold Reps at h
    obtain ⟨u, r, rfl, _, h2⟩ := h
    show Reps S (d :: ds) (v :: r)
    unfold Reps
    exact ⟨v, r, rfl, hv, h2⟩
  | e :: ds, vs, k + 1, d, v, h, hv => by
    unfold Reps at h
    obtain ⟨u, r, rfl, h1, h2⟩ := h
    show Reps S (e :: ds.set k d) (u :: r.set k v)
    unfold Reps
    exact ⟨u, _, rfl, h1, Reps.set h2 hv⟩
theorem SemS.setLast {x : Str} {p sp pos np cp : Pos} {kk} {e : Expr} {φ : EM Dat} (i : Nat) (a : SemE prog w h0 q H sc e φ) (hx : nm sc i = some x) (h1 : (x == ("__debug__" : Str)) = false)
    (hs : ∀ env, swapsWith e (some (.Subscript (.Name x p) (.UnaryOp .USub (.Constant (.int 1) kk cp) np) sp)) pos.line env = pure false := by intro _; rfl) :
    SemS prog w h0 q H sc (.Assign [.Subscript (.Name x p) (.UnaryOp .USub (.Constant (.int 1) kk cp) np) sp] e pos) (SM.onOwn i φ lastD) := by
  intro c A l ρ s Q E K hA R hE hfe o ho hP
  obtain ⟨ds, h2, hz, ho⟩ := onOwn_some ho
  refine wpAny_Assign_Subscript (a.useS K hA R hE ho hP fun d v s₁ ho₁ G₁ R₁ hv hP₁ => ?_) (hs _)
  obtain ⟨es, e1, rfl⟩ := Option.map_eq_some_iff.mp ho₁
  unfold lastD at e1
  split at e1 <;> first | (cases e1; done) | skip
  rename_i hne
  obtain rfl := Option.some.inj e1
  refine own_var K R₁ h2 hx h1 ?_
  refine UnaryOp_ (wpAny_Constant_int (neg_int ?_))
  obtain ⟨vs, n, hl, hr⟩ := own_at R₁ h2
  have s1 := hr.length
  have hp : 0 < ds.length := by cases ds <;> simp at hne ⊢
  refine setItem_neg (ob := lst vs n) hl rfl rfl (by decide) (by rw [List.size_toArray]; omega) (by decide) (hP₁ l _ rfl rfl (R₁.owned h2 (n := n) (vs := vs.set (ds.length - 1) v) (Heap.SameBut.update ..) ?_ (hr.set hv)))
  have e := IsL.update (show IsL s₁.heap l vs.toArray n from hl) (fun x => x.setIfInBounds (-1 + (vs.toArray.size : Int)).toNat v)
  rw [if_pos (by simp)] at e
  have e1 : (vs.set (ds.length - 1) v).toArray = vs.toArray.setIfInBounds (-1 + (vs.toArray.size : Int)).toNat v := by
    have : (-1 + (vs.toArray.size : Int)).toNat = ds.length - 1 := by rw [List.size_toArray]; omega
    rw [this]
    simp
  unfold lst
  rw [e1]
  exact e
end
end Mine
end
section
set_option Elab.async false
set_option maxRecDepth 100000
open PySem PySem.W PyProof.Rows PySem.SeqAt PySem.Spec
namespace Mine

inductive NamesAt (sc : Scope) : List Expr → List Nat → List Str → Prop
  | nil : NamesAt sc [] [] []
  | cons {x : Str} {p : Pos} {i : Nat} {es : List Expr} {is : List Nat} {xs : List Str} : nm sc i = some x → sc.names.lookup x = some .local → NamesAt sc es is xs → NamesAt sc (.Name x p :: es) (i :: is) (x :: xs)

section
variable {prog : Program} {w : World} {h0 : Heap} {q : Bool} {H : Nat} {sc : Scope} {c : Fx} {A : Around} {l : Addr} {E : Value → Shared → Prop}

theorem seq_some {a b : SM} {ρ : St} {ρ' : St} (h : SM.seq a b ρ = some (.next ρ')) : ∃ ρ₁, a ρ = some (.next ρ₁) ∧ b ρ₁ = some (.next ρ') := by
  unfold SM.seq at h
  cases e : a ρ with
  | none => rw [e] at h; cases h
  | some o =>
    rw [e] at h
    cases o with
    | next ρ₁ => exact ⟨ρ₁, rfl, h⟩
    | brk ρ₁ => cases h
    | ret d => cases h
    | raise C => cases h
theorem put_some {i : Nat} {d : Dat} {ρ : St} {o : Out} (h : SM.put i d ρ = some o) : ρ.free i = true ∧ o = .next (ρ.put i d) := by
  unfold SM.put at h
  split at h <;> first | (cases h; done) | skip
  rename_i hf
  exact ⟨hf, (Option.some.inj h).symm⟩
theorem puts_next : ∀ {is : List Nat} {ds : List Dat} {ρ : St} {o : Out}, SM.puts is ds ρ = some o → ∃ ρ', o = .next ρ'
  | [], [], ρ, o, h => ⟨ρ, (Option.some.inj h).symm⟩
  | [], _ :: _, _, _, h => by cases h
  | _ :: _, [], _, _, h => by cases h
  | i :: is, d :: ds, ρ, o, h => by
    unfold SM.puts SM.seq at h
    cases e : SM.put i d ρ with
    | none => rw [e] at h; cases h
    | some o₁ =>
      rw [e] at h
      obtain ⟨_, rfl⟩ := put_some e
      exact puts_next h

theorem stores_sound (K : Fok h0 c sc) : ∀ {is : List Nat} {xs : List Str} {ds : List Dat} {vs : List Value} {ρ ρ' : St} {s : Shared} {ts : List (Value → Sem Unit)} {Q : Unit → Shared → Prop},
    (∀ k : Nat, ∀ x t, xs[k]? = some x → ts[k]? = some t → ∀ v s Q E, wpAny (model prog w) A (storeName c.env x v) Q E s → wpAny (model prog w) A (t v) Q E s) → xs.length = is.length → ts.length = is.length →
    (∀ k : Nat, ∀ x i, xs[k]? = some x → is[k]? = some i → nm sc i = some x ∧ sc.names.lookup x = some .local) →
    Rel h0 c l ρ s.heap → Reps (vw s.heap (hid c l)) ds vs → SM.puts is ds ρ = some (.next ρ') →
    (∀ s', s'.gens = s.gens → s'.os = s.os → Rel h0 c l ρ' s'.heap → Q () s') → wpAny (model prog w) A (assignInOrder ts vs) Q E s
  | [], xs, ds, vs, ρ, ρ', s, ts, Q, _, hx, ht, _, R, hv, hp, hQ => by
    cases ts with
    | nil =>
      cases ds with
      | nil =>
        obtain rfl : ρ = ρ' := by injection (Option.some.inj hp)
        have e : assignInOrder [] vs = pure () := by cases vs <;> rfl
        rw [e]
        exact wpAny_pure (hQ _ rfl rfl R)
      | cons d ds => cases hp
    | cons t ts => cases ht
  | i :: is, xs, ds, vs, ρ, ρ', s, ts, Q, hst, hx, ht, hnm, R, hv, hp, hQ => by
    cases ts with
    | nil => cases ht
    | cons t ts =>
    cases xs with
    | nil => cases hx
    | cons x xs =>
    cases ds with
    | nil => cases hp
    | cons d ds =>
      unfold Reps at hv
      obtain ⟨v, r, rfl, h1, h2⟩ := hv
      obtain ⟨ρ₁, e1, e2⟩ := seq_some hp
      obtain ⟨hf, e3⟩ := put_some e1
      injection e3 with e3
      subst e3
      obtain ⟨n1, n2⟩ := hnm 0 x i rfl rfl
      show wpAny _ _ (do holding r (t v); assignInOrder ts r) _ _ _
      refine wpAny_bind (wpAny_holding (hst 0 x t rfl rfl v s _ E ?_))
      refine store_sound K R n1 n2 hf h1 fun s' g k R' V => ?_
      exact stores_sound K (fun k x t a b => hst (k + 1) x t (by simpa using a) (by simpa using b)) (Nat.succ.inj hx) (Nat.succ.inj ht) (fun k x i a b => hnm (k + 1) x i (by simpa using a) (by simpa using b)) R' (h2.mono V) e2 fun s'' g' k' R'' => hQ s'' (g'.trans g) (k'.trans k) R''

theorem NamesAt.len {es : List Expr} {is : List Nat} {xs : List Str} (N : NamesAt sc es is xs) : xs.length = is.length ∧ es.length = is.length := by
  induction N with
  | nil => exact ⟨rfl, rfl⟩
  | cons _ _ _ ih => exact ⟨congrArg (· + 1) ih.1, congrArg (· + 1) ih.2⟩
theorem NamesAt.at {es : List Expr} {is : List Nat} {xs : List Str} (N : NamesAt sc es is xs) : ∀ k : Nat, ∀ x i, xs[k]? = some x → is[k]? = some i → nm sc i = some x ∧ sc.names.lookup x = some .local := by
  induction N with
  | nil => intro k x i a; simp at a
  | cons h1 h2 _ ih =>
    intro k x i a b
    cases k with
    | zero => simp at a b; subst a; subst b; exact ⟨h1, h2⟩
    | succ k => exact ih k x i (by simpa using a) (by simpa using b)
theorem NamesAt.each {es : List Expr} {is : List Nat} {xs : List Str} (N : NamesAt sc es is xs) (env : Env) : (assignEach es env).length = is.length ∧ (assignEach es env).findIdx? (·.1) = none ∧
    ∀ k : Nat, ∀ x t, xs[k]? = some x → ((assignEach es env).map (·.2))[k]? = some t → ∃ p, t = assign (.Name x p) env := by
  induction N with
  | nil => exact ⟨rfl, rfl, fun k x t a => by simp at a⟩
  | @cons x p i es is xs h1 h2 N ih =>
    obtain ⟨i1, i2, i3⟩ := ih
    have e : assignEach (.Name x p :: es) env = (false, assign (.Name x p) env) :: assignEach es env := rfl
    rw [e]
    refine ⟨congrArg (· + 1) i1, ?_, fun k y t a b => ?_⟩
    · rw [List.findIdx?_cons]; simp [i2]
    · cases k with
      | zero => simp at a b; subst a; exact ⟨p, b.symm⟩
      | succ k => exact i3 k y t (by simpa using a) (by simpa using b)

theorem Thrown.unpin {a e C : Addr} {o : Obj} {h : Heap} (x : Thrown h0 (c.pinned a o) e C h) : Thrown h0 c e C h := by
  obtain ⟨t1, t2, t3, t4, t5, t6, t8, t9, t7⟩ := x
  have hs : ∀ b, b ∈ hid c c.env.locals → b ∈ hid (c.pinned a o) c.env.locals := fun b hb => mem_hid_pinned.mpr (.inr hb)
  refine ⟨t1, t2, t3, t4, fun p hp => t5 p (.tail _ hp), t6, fun p hp => (t8 p hp).mono (vw_sub hs), t9, ?_⟩
  rcases t7 with ⟨oe, vs, a0, u1, u2, u3, u4, u5, u6, u7, u8, u9, u10, u11⟩ | ⟨B, a0, u1, u2⟩
  · refine .inl ⟨oe, vs, a0, u1, u2, u3, u4, u5, u6, u7, fun p hp => u8 p (.tail _ hp), u9, fun p hp => (u10 p hp).mono (vw_sub fun b hb => ?_), u11⟩
    rcases List.mem_cons.mp hb with hb | hb
    · exact hb ▸ .head _
    · exact .tail _ (hs b hb)
  · exact .inr ⟨B, a0, u1, ⟨u2.st, u2.g, fun p hp => u2.p p (.tail _ hp), u2.x, fun p hp => (u2.v p hp).mono (vw_sub hs), u2.m⟩⟩
theorem unpack_rel {ρ : St} {s : Shared} {h' : Heap} (K : Fok h0 c sc) (R : Rel h0 c l ρ s.heap) (he : Heap.ExtBut s.heap.objs.size s.heap h') : Rel h0 c l ρ h' ∧ VLe (vw s.heap (hid c l)) (vw h' (hid c l)) := by
  have k : ∀ b o, s.heap.get? b = some o → h'.get? b = some o := fun b o e => he b o (Nat.ne_of_lt (Heap.lt_size e)) e
  have y : Ext [] (c.fenv :: c.fs) s.heap h' := .of_keeps k
  exact ⟨R.of_ext K y, y.vle (fun _ h => by cases h) fun _ h => hid_frames h⟩

/-- a tuple is spread over names, from the left -/
theorem spread_sound {es : List Expr} {is : List Nat} {xs : List Str} {k} {pos : Pos} {ds : List Dat} {v : Value} {ρ : St} {o : Out} {s : Shared} {Q : Unit → Shared → Prop} (N : NamesAt sc es is xs) (K : Fok h0 c sc) (hh : A.handled = none) (R : Rel h0 c l ρ s.heap)
    (hv : Rep (vw s.heap (hid c l)) (.tuple ds) v) (hp : SM.puts is ds ρ = some o) (hQ : ∀ ρ', o = .next ρ' → ∀ s', s'.gens = s.gens → s'.os = s.os → Rel h0 c l ρ' s'.heap → Q () s') :
    wpAny (model prog w) A (assign (.Tuple es k pos) c.env v) Q E s := by
  unfold Rep at hv
  obtain ⟨a, vs, n, rfl, ho, hr⟩ := hv
  obtain ⟨ρ', rfl⟩ := puts_next hp
  have hl : ∀ {is : List Nat} {ds : List Dat} {ρ ρ' : St}, SM.puts is ds ρ = some (.next ρ') → is.length = ds.length := by
    intro is
    induction is with
    | nil => intro ds ρ ρ' h; cases ds with
      | nil => rfl
      | cons d ds => cases h
    | cons i is ih => intro ds ρ ρ' h; cases ds with
      | nil => cases h
      | cons d ds => obtain ⟨ρ₁, _, h⟩ := seq_some h; exact congrArg (· + 1) (ih h)
  obtain ⟨e1, e2, e3⟩ := N.each c.env
  refine assign_Tuple_tuple (items := vs.toArray) hh ⟨_, vw_get ho, rfl, n, rfl⟩ (by rw [e1, List.size_toArray, hr.length, hl hp]) e2 fun h' he => ?_
  obtain ⟨R', V⟩ := unpack_rel K R he
  refine stores_sound (s := { s with heap := h' }) K (fun k x t a b v s Q E h => ?_) N.len.1 (by rw [List.length_map, e1]) N.at R' (hr.mono V) hp fun s' g kk R'' => hQ ρ' rfl s' g kk R''
  obtain ⟨p, rfl⟩ := e3 k x t a b
  exact PySem.wpAny_assign_Name h

noncomputable def putsOf (is : List Nat) : Dat → SM
  | .tuple ds => SM.puts is ds
  | _ => fun _ => none
theorem SemS.unpack {es : List Expr} {is : List Nat} {xs : List Str} {k} {tp pos : Pos} {e : Expr} {φ : EM Dat} (N : NamesAt sc es is xs) (a : SemE prog w h0 true H sc e φ)
    (hs : ∀ env, swapsWithSole [.Tuple es k tp] e pos.line env = pure false := by intro _; rfl)
    (hw : ∀ env : Env, env.scope = sc → swappedStores [.Tuple es k tp] e env = pure none := by intro _ _; rfl) :
    SemS prog w h0 true H sc (.Assign [.Tuple es k tp] e pos) (SM.ofE φ (putsOf is)) := by
  intro c A l ρ s Q E K hA R hE hfe o ho hP
  refine PyProof.Rows.Assign_Tuple (a.useS K hA R hE ho hP fun d v s₁ ho₁ G₁ R₁ hv hP₁ => ?_) (hs _) (hw _ K.is)
  unfold putsOf at ho₁
  split at ho₁ <;> first | (cases ho₁; done) | skip
  refine spread_sound N K (hA.handled rfl) R₁ hv ho₁ fun ρ' e s' g k R' => ?_
  subst e
  exact hP₁ l s' g k R'

theorem Reps.reverse {S : View} : ∀ {ds : List Dat} {vs : List Value}, Reps S ds vs → Reps S ds.reverse vs.reverse
  | [], _, h => by unfold Reps at h; subst h; show Reps S [] []; unfold Reps; rfl
  | d :: ds, vs, h => by
    unfold Reps at h
    obtain ⟨v, r, rfl, h1, h2⟩ := h
    rw [List.reverse_cons, List.reverse_cons]
    exact (Reps.reverse h2).append (.one h1)
/-- the same with the stores from the right -/
theorem SemS.swapped {es : List Expr} {is : List Nat} {xs : List Str} {k} {tp pos : Pos} {e : Expr} {φ : EM Dat} (N : NamesAt sc es is xs) (a : SemE prog w h0 true H sc e φ)
    (hs : ∀ env, swapsWithSole [.Tuple es k tp] e pos.line env = pure false := by intro _; rfl)
    (hw : ∀ env : Env, env.scope = sc → swappedStores [.Tuple es k tp] e env = pure (some xs)) :
    SemS prog w h0 true H sc (.Assign [.Tuple es k tp] e pos) (SM.ofE φ fun d => match d with | .tuple ds => (if ds.length = is.length then SM.puts is.reverse ds.reverse else fun _ => none) | _ => fun _ => none) := by
  intro c A l ρ s Q E K hA R hE hfe o ho hP
  refine Assign_Tuple_swapped (a.useS K hA R hE ho hP fun d v s₁ ho₁ G₁ R₁ hv hP₁ => ?_) (hs _) (hw _ K.is)
  split at ho₁ <;> first | (cases ho₁; done) | skip
  split at ho₁ <;> first | (cases ho₁; done) | skip
  rename_i ds hlen
  unfold Rep at hv
  obtain ⟨a, vs, n, rfl, hob, hr⟩ := hv
  obtain ⟨ρ', rfl⟩ := puts_next ho₁
  have hsz : xs.length = vs.toArray.size := by rw [List.size_toArray, hr.length, N.len.1, hlen]
  rw [hsz]
  refine unpackItems_tuple (hA.handled rfl) ⟨_, vw_get hob, rfl, n, rfl⟩ fun h' he => ?_
  obtain ⟨R', V⟩ := unpack_rel K R₁ he
  refine stores_sound (s := { s₁ with heap := h' }) (xs := xs.reverse) K (fun k x t a b v s Q E h => ?_) (by rw [List.length_reverse, List.length_reverse]; exact N.len.1) (by rw [List.length_map, List.length_reverse, List.length_reverse]; exact N.len.1) (fun k x i a b => ?_) R' (hr.mono V).reverse ho₁ fun s' g kk R'' => hP₁ l s' g kk R''
  · rw [List.getElem?_map, a] at b
    obtain rfl := Option.some.inj b
    exact bindName_ h
  · have hk : k < xs.length := by
      have := (List.getElem?_eq_some_iff.mp a).1
      simpa using this
    rw [List.getElem?_reverse hk] at a
    rw [List.getElem?_reverse (by rw [← N.len.1]; exact hk)] at b
    exact N.at (xs.length - 1 - k) x i a (by rw [N.len.1]; exact b)

theorem two_items {t : Addr} {a b : Value} {x y : Str} {s : Shared} {Q : List Value → Shared → Prop} (hh : A.handled = none) (ht : IsTup s.heap t [a, b].toArray)
    (hQ : ∀ h', Heap.ExtBut s.heap.objs.size s.heap h' → Q [a, b] { s with heap := h' }) : wpAny (model prog w) A (unpackItems (.ref t) ([x, y] : List Str).length none) Q E s := by
  have e : ([x, y] : List Str).length = [a, b].toArray.size := rfl
  rw [e]
  exact unpackItems_tuple hh ht hQ
theorem three_items {t : Addr} {a b d : Value} {x y z : Str} {s : Shared} {Q : List Value → Shared → Prop} (hh : A.handled = none) (ht : IsTup s.heap t [a, b, d].toArray)
    (hQ : ∀ h', Heap.ExtBut s.heap.objs.size s.heap h' → Q [a, b, d] { s with heap := h' }) : wpAny (model prog w) A (unpackItems (.ref t) ([x, y, z] : List Str).length none) Q E s := by
  have e : ([x, y, z] : List Str).length = [a, b, d].toArray.size := rfl
  rw [e]
  exact unpackItems_tuple hh ht hQ
theorem mine_some {i : Nat} {ρ : St} {o : Out} (h : SM.mine i ρ = some o) : ρ.own = none ∧ ρ.free i = true ∧ o = .next { ρ with own := some (i, []), loc := ρ.cut i } := by
  unfold SM.mine at h
  split at h <;> first | (cases h; done) | skip
  rename_i hf
  obtain ⟨f1, f2⟩ := Bool.and_eq_true_iff.mp hf
  exact ⟨Option.isNone_iff_eq_none.mp f1, f2, (Option.some.inj h).symm⟩
theorem seq_any {a b : SM} {ρ : St} {o : Out} (h : SM.seq a b ρ = some o) (ha : ∀ o₁, a ρ = some o₁ → ∃ ρ₁, o₁ = .next ρ₁) : ∃ ρ₁, a ρ = some (.next ρ₁) ∧ b ρ₁ = some o := by
  unfold SM.seq at h
  cases e : a ρ with
  | none => rw [e] at h; cases h
  | some o₁ =>
    obtain ⟨ρ₁, rfl⟩ := ha o₁ e
    rw [e] at h
    exact ⟨ρ₁, rfl, h⟩
/-- found, at = ([], e) -/
theorem SemS.mine2 {x₁ x₂ : Str} {p₁ p₂ tp vp lp pos : Pos} {k k'} {e : Expr} {φ : EM Dat} (i j : Nat) (h1 : nm sc i = some x₁) (k1 : sc.names.lookup x₁ = some .local) (h2 : nm sc j = some x₂) (k2 : sc.names.lookup x₂ = some .local)
    (a : SemE prog w h0 true H sc e φ)
    (hs : ∀ env, swapsWithSole [.Tuple [.Name x₁ p₁, .Name x₂ p₂] k tp] (.Tuple [.List [] lp, e] k' vp) pos.line env = pure false := by intro _; rfl)
    (hw : ∀ env : Env, env.scope = sc → swappedStores [.Tuple [.Name x₁ p₁, .Name x₂ p₂] k tp] (.Tuple [.List [] lp, e] k' vp) env = pure (some [x₁, x₂]))
    (he : ∀ env, starEach [.List [] lp, e] env = [(false, eval (.List [] lp) env), (false, eval e env)] := by intro _; rfl) :
    SemS prog w h0 true H sc (.Assign [.Tuple [.Name x₁ p₁, .Name x₂ p₂] k tp] (.Tuple [.List [] lp, e] k' vp) pos) (SM.ofE φ fun d => SM.seq (SM.put j d) (SM.mine i)) := by
  intro c A l ρ s Q E K hA R hE hfe o ho hP
  refine Assign_Tuple_swapped (Tuple_ ?_) (hs _) (hw _ K.is)
  rw [he]
  refine Calls.spliced_cons (List_ (Calls.spliced_nil (wpAny_newObj_type ?_ (by size_fits))))
  have hn := R.pin_fresh
  have K' := K.pinned (lst [] 0) hn
  have R' : Rel h0 (c.pinned s.heap.objs.size (lst [] 0)) l ρ (s.heap.push { cls := .type "list", data := .seq (List.toArray []) }) := R.newPin K rfl (fun _ _ e => Heap.get?_push_of_some _ e) (Heap.get?_push_size _ rfl)
  generalize hs1 : ({ s with heap := s.heap.push { cls := .type "list", data := .seq (List.toArray []) } } : Shared) = s₁
  have R' : Rel h0 (c.pinned s.heap.objs.size (lst [] 0)) l ρ s₁.heap := by rw [← hs1]; exact R'
  have g1 : s₁.gens = s.gens := by rw [← hs1]
  have o1 : s₁.os = s.os := by rw [← hs1]
  generalize s.heap.objs.size = a₀ at *
  unfold SM.ofE at ho
  cases hφ : φ ρ with
  | none => rw [hφ] at ho; cases ho
  | some r =>
    rw [hφ] at ho
    refine Calls.spliced_cons (a (c.pinned a₀ (lst [] 0)) A l ρ s₁ _ E K' (hA.pinned _ _) R' hE r hφ (fun d hd v s₂ G₂ hv => Calls.spliced_nil ?_) fun C hC e s' h1 h2 h3 => ?_)
    · subst hd
      have ho : SM.seq (SM.put j d) (SM.mine i) ρ = some o := ho
      have R₂ := R'.goes K' G₂
      refine wpAny_newObj_type ?_ (by size_fits)
      have G₃ : Goes (c.pinned a₀ (lst [] 0)) s₂ { s₂ with heap := s₂.heap.push { cls := .type "tuple", data := .seq [Value.ref a₀, v].toArray } } := .push'
      have R₃ := R₂.goes K' G₃
      generalize hs3 : ({ s₂ with heap := s₂.heap.push { cls := .type "tuple", data := .seq [Value.ref a₀, v].toArray } } : Shared) = s₃ at *
      have htup : IsTup s₃.heap s₂.heap.objs.size [Value.ref a₀, v].toArray := by rw [← hs3]; exact ⟨_, Heap.get?_push_size _ rfl, rfl, _, rfl⟩
      refine two_items (hA.handled rfl) htup fun h' he => ?_
      obtain ⟨R₄, V₄⟩ := unpack_rel K' R₃ he
      have hv₄ := (hv.mono (G₃.vle l)).mono V₄
      obtain ⟨ρ₁, e1, e2⟩ := seq_any ho fun o₁ e => ⟨_, (put_some e).2⟩
      obtain ⟨hf, e3⟩ := put_some e1
      injection e3 with e3
      subst e3
      obtain ⟨f1, f2, rfl⟩ := mine_some e2
      show wpAny _ _ (do holding [Value.ref a₀] (bindName c.env x₂ v); do holding [] (bindName c.env x₁ (.ref a₀)); pure ()) _ _ _
      refine wpAny_bind (wpAny_holding (bindName_ (store_sound (c := c.pinned a₀ (lst [] 0)) (s := { s₃ with heap := h' }) K' R₄ h2 k2 hf hv₄ fun s₅ g₅ o₅ R₅ _ => ?_)))
      refine wpAny_bind (wpAny_holding (bindName_ (mine_sound K' R₅ h1 k1 f1 f2 fun s₆ g₆ o₆ R₆ _ => wpAny_pure (hP _ s₆ ?_ ?_ R₆))))
      · rw [g₆, g₅]; show s₃.gens = _; rw [G₃.gens, G₂.gens, g1]
      · rw [o₆, o₅]; show s₃.os = _; rw [G₃.os, G₂.os, o1]
    · subst hC
      obtain rfl := Option.some.inj ho
      exact hP e s' (h1.trans g1) (h2.trans o1) h3.unpin
/-- whole, found, at = (e, [], e') -/
theorem SemS.mine3 {x₁ x₂ x₃ : Str} {p₁ p₂ p₃ tp vp lp pos : Pos} {k k'} {e e' : Expr} {φ ψ : EM Dat} (i₁ i j : Nat) (h0' : nm sc i₁ = some x₁) (k0' : sc.names.lookup x₁ = some .local) (h1 : nm sc i = some x₂) (k1 : sc.names.lookup x₂ = some .local) (h2 : nm sc j = some x₃) (k2 : sc.names.lookup x₃ = some .local)
    (a : SemE prog w h0 true H sc e φ) (b : SemE prog w h0 true H sc e' ψ)
    (hs : ∀ env, swapsWithSole [.Tuple [.Name x₁ p₁, .Name x₂ p₂, .Name x₃ p₃] k tp] (.Tuple [e, .List [] lp, e'] k' vp) pos.line env = pure false := by intro _; rfl)
    (hw : ∀ env : Env, env.scope = sc → swappedStores [.Tuple [.Name x₁ p₁, .Name x₂ p₂, .Name x₃ p₃] k tp] (.Tuple [e, .List [] lp, e'] k' vp) env = pure (some [x₁, x₂, x₃]))
    (he : ∀ env, starEach [e, .List [] lp, e'] env = [(false, eval e env), (false, eval (.List [] lp) env), (false, eval e' env)] := by intro _; rfl) :
    SemS prog w h0 true H sc (.Assign [.Tuple [.Name x₁ p₁, .Name x₂ p₂, .Name x₃ p₃] k tp] (.Tuple [e, .List [] lp, e'] k' vp) pos) (SM.ofE φ fun d => SM.ofE ψ fun d' => SM.seq (SM.put j d') (SM.seq (SM.mine i) (SM.put i₁ d))) := by
  intro c A l ρ s Q E K hA R hE hfe o ho hP
  refine Assign_Tuple_swapped (Tuple_ ?_) (hs _) (hw _ K.is)
  rw [he]
  refine Calls.spliced_cons (a.useS K hA R hE ho hP fun d₁ v₁ s₀ ho G₀ R hv₁ hP => ?_)
  refine Calls.spliced_cons (List_ (Calls.spliced_nil (wpAny_newObj_type ?_ (by size_fits))))
  have hn := R.pin_fresh
  have K' := K.pinned (lst [] 0) hn
  have R' : Rel h0 (c.pinned s₀.heap.objs.size (lst [] 0)) l ρ (s₀.heap.push { cls := .type "list", data := .seq (List.toArray []) }) := R.newPin K rfl (fun _ _ e => Heap.get?_push_of_some _ e) (Heap.get?_push_size _ rfl)
  have V' : VLe (vw s₀.heap (hid c l)) (vw (s₀.heap.push { cls := .type "list", data := .seq (List.toArray []) }) (hid (c.pinned s₀.heap.objs.size (lst [] 0)) l)) := fun b ob e => vw_at (Heap.get?_push_of_some _ (vw_get e)) fun q => by
    rcases mem_hid_pinned.mp q with q | q
    · exact Nat.lt_irrefl _ (by have := Heap.lt_size (vw_get e); rwa [q] at this)
    · exact vw_not e q
  generalize hs1 : ({ s₀ with heap := s₀.heap.push { cls := .type "list", data := .seq (List.toArray []) } } : Shared) = s₁
  have hh1 : s₁.heap = s₀.heap.push { cls := .type "list", data := .seq (List.toArray []) } := by rw [← hs1]
  rw [← hh1] at R' V'
  have g1 : s₁.gens = s₀.gens := by rw [← hs1]
  have o1 : s₁.os = s₀.os := by rw [← hs1]
  have hv₁ := hv₁.mono V'
  generalize s₀.heap.objs.size = a₀ at *
  unfold SM.ofE at ho
  cases hψ : ψ ρ with
  | none => rw [hψ] at ho; cases ho
  | some r =>
    rw [hψ] at ho
    refine Calls.spliced_cons (b (c.pinned a₀ (lst [] 0)) A l ρ s₁ _ E K' (hA.pinned _ _) R' hE r hψ (fun d hd v s₂ G₂ hv => Calls.spliced_nil ?_) fun C hC e s' h1 h2 h3 => ?_)
    · subst hd
      have ho : SM.seq (SM.put j d) (SM.seq (SM.mine i) (SM.put i₁ d₁)) ρ = some o := ho
      have R₂ := R'.goes K' G₂
      refine wpAny_newObj_type ?_ (by size_fits)
      have G₃ : Goes (c.pinned a₀ (lst [] 0)) s₂ { s₂ with heap := s₂.heap.push { cls := .type "tuple", data := .seq [v₁, Value.ref a₀, v].toArray } } := .push'
      have R₃ := R₂.goes K' G₃
      generalize hs3 : ({ s₂ with heap := s₂.heap.push { cls := .type "tuple", data := .seq [v₁, Value.ref a₀, v].toArray } } : Shared) = s₃ at *
      have htup : IsTup s₃.heap s₂.heap.objs.size [v₁, Value.ref a₀, v].toArray := by rw [← hs3]; exact ⟨_, Heap.get?_push_size _ rfl, rfl, _, rfl⟩
      refine three_items (hA.handled rfl) htup fun h' he => ?_
      obtain ⟨R₄, V₄⟩ := unpack_rel K' R₃ he
      have hv₄ := (hv.mono (G₃.vle l)).mono V₄
      have hv₁ := ((hv₁.mono (G₂.vle l)).mono (G₃.vle l)).mono V₄
      obtain ⟨ρ₁, e1, e2⟩ := seq_any ho fun o₁ e => ⟨_, (put_some e).2⟩
      obtain ⟨hf, e3⟩ := put_some e1
      injection e3 with e3
      subst e3
      obtain ⟨ρ₂, e4, e5⟩ := seq_any e2 fun o₁ e => ⟨_, (mine_some e).2.2⟩
      obtain ⟨f1, f2, e6⟩ := mine_some e4
      injection e6 with e6
      subst e6
      obtain ⟨f3, rfl⟩ := put_some e5
      show wpAny _ _ (do holding [Value.ref a₀, v₁] (bindName c.env x₃ v); do holding [v₁] (bindName c.env x₂ (.ref a₀)); do holding [] (bindName c.env x₁ v₁); pure ()) _ _ _
      refine wpAny_bind (wpAny_holding (bindName_ (store_sound (c := c.pinned a₀ (lst [] 0)) (s := { s₃ with heap := h' }) K' R₄ h2 k2 hf hv₄ fun s₅ g₅ o₅ R₅ V₅ => ?_)))
      refine wpAny_bind (wpAny_holding (bindName_ (mine_sound K' R₅ h1 k1 f1 f2 fun s₆ g₆ o₆ R₆ V₆ => ?_)))
      refine wpAny_bind (wpAny_holding (bindName_ (store_sound K R₆ h0' k0' f3 ((hv₁.mono V₅).mono V₆) fun s₇ g₇ o₇ R₇ _ => wpAny_pure (hP _ s₇ ?_ ?_ R₇))))
      · rw [g₇, g₆, g₅]; show s₃.gens = _; rw [G₃.gens, G₂.gens, g1]
      · rw [o₇, o₆, o₅]; show s₃.os = _; rw [G₃.os, G₂.os, o1]
    · subst hC
      obtain rfl := Option.some.inj ho
      exact hP e s' (h1.trans g1) (h2.trans o1) h3.unpin

noncomputable def SM.retOwn (i : Nat) : SM := fun ρ => match ρ.own with
    | some (j, ds) => if j = i then some (.ret (.list ds)) else none
    | none => none
/-- the list of the frame, read -/
theorem SemS.retOwn {x : Str} {p pos : Pos} (i : Nat) (hx : nm sc i = some x) (h1 : (x == ("__debug__" : Str)) = false) : SemS prog w h0 true H sc (.Return (some (.Name x p)) pos) (SM.retOwn i) := by
  intro c A l ρ s Q E K hA R hE hfe o ho hP
  unfold SM.retOwn at ho
  split at ho <;> first | (cases ho; done) | skip
  split at ho <;> first | (cases ho; done) | skip
  rename_i j ds hj hd
  subst hd
  obtain rfl := Option.some.inj ho
  refine wpAny_Return_some (own_var K R hj hx h1 (hP _ s rfl rfl R.ended ?_))
  obtain ⟨m, hn, _, a2, _⟩ := R.ns
  obtain ⟨_, vs, n, _, _, _, h4, h5, h6, h7, h8, _⟩ := a2 _ _ hj
  unfold Rep
  refine ⟨l, vs, n, rfl, vw_at h4 fun q => ?_, h5.mono (vw_sub fun b hb => ?_)⟩
  · rcases List.mem_append.mp q with q | q
    · exact h6 q
    · exact h8 q
  · rcases List.mem_append.mp hb with hb | hb
    · exact .tail _ (.tail _ (List.mem_append_left _ (List.mem_append_left _ hb)))
    · exact hid_frames hb
end
end Mine
end
section
set_option Elab.async false
set_option maxRecDepth 100000
open PySem PySem.W PyProof.Rows PySem.SeqAt PySem.Spec
namespace Mine

noncomputable def rangeL (x step : Int) : Nat → List Dat
  | 0 => []
  | n + 1 => .int x :: rangeL (x + step) step n
/-- an object that hands out these -/
noncomputable def ItOk (g : Dat × Value) (S : View) (o : Obj) (ds : List Dat) : Prop :=
  (∃ a all, ∃ i : Nat, g = (.list all, .ref a) ∧ o.cls = .type "list_iterator" ∧ o.data = .fields #[.ref a, .int i 0] ∧ Rep S (.list all) (.ref a) ∧ ds = all.drop i) ∨
  (∃ a all, ∃ i : Nat, g = (.tuple all, .ref a) ∧ o.cls = .type "tuple_iterator" ∧ o.data = .fields #[.ref a, .int i 0] ∧ Rep S (.tuple all) (.ref a) ∧ ds = all.drop i) ∨
  (∃ b t, ∃ i : Nat, g = (.none, .none) ∧ o.cls = .type "bytes_iterator" ∧ o.data = .fields #[.bytes b t, .int i 0] ∧ ds = (b.toList.drop i).map fun u => .int (u.toNat : Int)) ∨
  (∃ x step, ∃ n : Nat, g = (.none, .none) ∧ o = { cls := .type "range_iterator", dict := none, data := .fields #[rawInt x, rawInt n, rawInt step], slots := #[] } ∧ ds = rangeL x step n)
theorem ItOk.sees {g : Dat × Value} {S : View} {o : Obj} {ds : List Dat} (h : ItOk g S o ds) : Rep S g.1 g.2 := by
  rcases h with ⟨a, all, i, rfl, h1, h2, h3, h4⟩ | ⟨a, all, i, rfl, h1, h2, h3, h4⟩ | ⟨b, t, i, rfl, _⟩ | ⟨x, step, n, rfl, _⟩
  · exact h3
  · exact h3
  · unfold Rep; rfl
  · unfold Rep; rfl
theorem ItOk.to {g : Dat × Value} {S S' : View} {o : Obj} {ds : List Dat} (V : Rep S' g.1 g.2) (h : ItOk g S o ds) : ItOk g S' o ds := by
  rcases h with ⟨a, all, i, rfl, h1, h2, h3, h4⟩ | ⟨a, all, i, rfl, h1, h2, h3, h4⟩ | h | h
  · exact .inl ⟨a, all, i, rfl, h1, h2, V, h4⟩
  · exact .inr (.inl ⟨a, all, i, rfl, h1, h2, V, h4⟩)
  · exact .inr (.inr (.inl h))
  · exact .inr (.inr (.inr h))
theorem ItOk.fields {S : View} {o : Obj} {ds : List Dat} {g : Dat × Value} (h : ItOk g S o ds) : ∃ vs, o.data = .fields vs := by
  rcases h with ⟨a, all, i, _, h1, h2, _⟩ | ⟨a, all, i, _, h1, h2, _⟩ | ⟨b, t, i, _, h1, h2, _⟩ | ⟨x, step, n, _, rfl, _⟩
  · exact ⟨_, h2⟩
  · exact ⟨_, h2⟩
  · exact ⟨_, h2⟩
  · exact ⟨_, rfl⟩
theorem ItOk.nocell {S : View} {o : Obj} {ds : List Dat} {g : Dat × Value} (h : ItOk g S o ds) : ∀ v, o.data ≠ .cell v := fun v q => by
  obtain ⟨vs, e⟩ := h.fields
  rw [e] at q; cases q

section
variable {prog : Program} {w : World} {h0 : Heap} {H : Nat} {sc : Scope} {c : Fx} {A : Around} {l : Addr} {ρ : St} {s : Shared} {E : Value → Shared → Prop}

theorem none_back {s₁ : Shared} {a : Addr} (G : Goes c s s₁) (h : s₁.heap.get? a = none) : s.heap.get? a = none := by
  cases e : s.heap.get? a with
  | none => rfl
  | some o =>
    obtain ⟨⟨_, e2⟩, _⟩ := G.ext a o (by simp) e
    have e3 := h.symm.trans e2; cases e3
theorem next_sound {it : Addr} {o : Obj} {d : Dat} {ds : List Dat} {M : List Addr} {g : Dat × Value} {Q : Option Value → Shared → Prop} (ho : s.heap.get? it = some o) (hM : it ∈ M) (h : ItOk g (vw s.heap M) o (d :: ds))
    (hQ : ∀ v o' s', s'.gens = s.gens → s'.os = s.os → Heap.SameBut it s.heap s'.heap → s'.heap.get? it = some o' → ItOk g (vw s'.heap M) o' ds → Rep (vw s'.heap M) d v → Q (some v) s') :
    wpAny (model prog w) A (pyNext (.ref it)) Q E s := by
  rcases h with ⟨a, all, i, hg, h1, h2, h3, h4⟩ | ⟨a, all, i, hg, h1, h2, h3, h4⟩ | ⟨b, t, i, hg, h1, h2, h3⟩ | ⟨x, step, n, hg, rfl, h2⟩
  rotate_left
  · have h3' := h3
    unfold Rep at h3
    obtain ⟨a', vs, n, e, ho', hr⟩ := h3
    cases e
    have e1 : (all.drop i)[0]? = some d := by rw [← h4]; rfl
    have e2 : (all.drop i).drop 1 = ds := by rw [← h4]; rfl
    rw [List.getElem?_drop] at e1
    obtain ⟨v, hx, hv⟩ := hr.get (i := i) (by simpa using e1)
    refine PyProof.Rows.next_tuple_item ⟨o, ho, h1, h2⟩ ⟨_, vw_get ho', rfl, n, rfl⟩ (x := v) (by simpa using hx) fun h' hit hs => ?_
    obtain ⟨o', q1, q2, q3⟩ := hit
    have V := same_vle (M := M) hs hM
    exact hQ v o' _ rfl rfl hs q1 (.inr (.inl ⟨a, all, i + 1, hg, q2, q3, h3'.mono V, by rw [← e2, List.drop_drop]⟩)) (hv.mono V)
  rotate_right
  · have h3' := h3
    unfold Rep at h3
    obtain ⟨a', vs, n, e, ho', hr⟩ := h3
    cases e
    have e1 : (all.drop i)[0]? = some d := by rw [← h4]; rfl
    have e2 : (all.drop i).drop 1 = ds := by rw [← h4]; rfl
    rw [List.getElem?_drop] at e1
    obtain ⟨v, hx, hv⟩ := hr.get (i := i) (by simpa using e1)
    refine PySem.wpAny_pyNext_list_item ⟨o, ho, h1, h2⟩ ⟨_, vw_get ho', rfl, n, rfl⟩ (x := v) (by simpa using hx) fun h' hit hs => ?_
    obtain ⟨o', q1, q2, q3⟩ := hit
    have V := same_vle (M := M) hs hM
    exact hQ v o' _ rfl rfl hs q1 (.inl ⟨a, all, i + 1, hg, q2, q3, h3'.mono V, by rw [← e2, List.drop_drop]⟩) (hv.mono V)
  · have hb : ∃ u, b.toList[i]? = some u ∧ d = .int (u.toNat : Int) ∧ ds = (b.toList.drop (i + 1)).map fun u => .int (u.toNat : Int) := by
      cases e : b.toList.drop i with
      | nil => rw [e] at h3; cases h3
      | cons u r =>
        rw [e] at h3
        injection h3 with h4 h5
        have e1 : (b.toList.drop i)[0]? = some u := by rw [e]; rfl
        have e2 : (b.toList.drop i).drop 1 = r := by rw [e]; rfl
        refine ⟨u, by simpa using e1, h4, ?_⟩
        rw [List.drop_drop] at e2
        rw [h5, Nat.add_comm, ← e2, Nat.add_comm]
    obtain ⟨u, e1, rfl, rfl⟩ := hb
    refine PySem.W.KBw.next_item (b := b) (t := t) (i := i) (c := u) ⟨o, ho, h1, h2⟩ (by simpa using e1) fun h' hit hs => ?_
    obtain ⟨o', q1, q2, q3⟩ := hit
    exact hQ _ o' _ rfl rfl hs q1 (.inr (.inr (.inl ⟨b, t, i + 1, hg, q2, q3, rfl⟩))) (by unfold Rep; exact ⟨_, rfl⟩)
  · cases n with
    | zero => cases h2
    | succ n =>
      unfold rangeL at h2
      injection h2 with h3 h4
      subst h3
      subst h4
      refine wpAny_pyNext_range_item ho (by omega) fun h' hit hs => ?_
      refine hQ _ _ _ rfl rfl hs hit (.inr (.inr (.inr ⟨x + step, step, n, hg, by rw [show ((n + 1 : Nat) : Int) - 1 = (n : Int) by omega], rfl⟩))) (by unfold Rep; exact ⟨_, rfl⟩)
theorem end_sound {it : Addr} {o : Obj} {M : List Addr} {g : Dat × Value} {Q : Option Value → Shared → Prop} (hh : A.handled = none) (ho : s.heap.get? it = some o) (h : ItOk g (vw s.heap M) o [])
    (hQ : ∀ h', Heap.ExtBut it s.heap h' → Q none { s with heap := h' }) : wpAny (model prog w) A (pyNext (.ref it)) Q E s := by
  rcases h with ⟨a, all, i, hg, h1, h2, h3, h4⟩ | ⟨a, all, i, hg, h1, h2, h3, h4⟩ | ⟨b, t, i, hg, h1, h2, h3⟩ | ⟨x, step, n, hg, rfl, h2⟩
  rotate_left
  · unfold Rep at h3
    obtain ⟨a', vs, n, e, ho', hr⟩ := h3
    cases e
    refine PyProof.Rows.next_tuple_end hh ⟨o, ho, h1, h2⟩ ⟨_, vw_get ho', rfl, n, rfl⟩ ?_ hQ
    have := List.drop_eq_nil_iff.mp h4.symm
    have hl := hr.length
    simp
    omega
  rotate_right
  · unfold Rep at h3
    obtain ⟨a', vs, n, e, ho', hr⟩ := h3
    cases e
    refine PySem.wpAny_pyNext_list_end hh ⟨o, ho, h1, h2⟩ ⟨_, vw_get ho', rfl, n, rfl⟩ ?_ hQ
    have := List.drop_eq_nil_iff.mp h4.symm
    have hl := hr.length
    simp
    omega
  · refine PySem.W.KBw.next_end (b := b) (t := t) (i := i) hh ⟨o, ho, h1, h2⟩ ?_ hQ
    have := List.drop_eq_nil_iff.mp (List.map_eq_nil_iff.mp h3.symm)
    simpa using this
  · cases n with
    | zero => exact wpAny_pyNext_range_end hh ho (by decide) hQ
    | succ n => cases h2
theorem go_sound {it : Addr} {o : Obj} {ds : List Dat} {M : List Addr} {g : Dat × Value} {target : Expr} {v : Value} {Q : Unit → Shared → Prop} (ho : s.heap.get? it = some o) (h : ItOk g (vw s.heap M) o ds) (hQ : Q () s) :
    wpAny (model prog w) A (letOwnedTupleGo target (.ref it) v) Q E s := by
  have key : wpAny (model prog w) A (do
    let (.ref r, .ref a) := (Value.ref it, v) | return
    let o ← load r
    match o.cls, o.data with
    | .type n, .fields vs =>
      if ["enumerate", "zip", "dict_itemiterator", "dict_reverseitemiterator", "odict_iterator", "itertools.zip_longest", "itertools.pairwise"].contains n && vs[0]? == some (rawInt a) then
        rule "for.unpacks-the-owned-tuple"
        updateField r 0 .none
    | _, _ => pure ()) Q E s := by
    cases v <;> first | exact wpAny_pure hQ | skip
    refine wpAny_bind (wpAny_load ho ?_)
    have hcls : ∃ n vs, o.cls = .type n ∧ o.data = .fields vs ∧ ["enumerate", "zip", "dict_itemiterator", "dict_reverseitemiterator", "odict_iterator", "itertools.zip_longest", "itertools.pairwise"].contains n = false := by
      rcases h with ⟨a, all, i, _, h1, h2, _⟩ | ⟨a, all, i, _, h1, h2, _⟩ | ⟨b, t, i, _, h1, h2, _⟩ | ⟨x, step, n, _, rfl, _⟩
      · exact ⟨_, _, h1, h2, by decide⟩
      · exact ⟨_, _, h1, h2, by decide⟩
      · exact ⟨_, _, h1, h2, by decide⟩
      · exact ⟨_, _, rfl, rfl, by decide⟩
    obtain ⟨n, vs, h1, h2, h3⟩ := hcls
    rw [h1, h2]
    dsimp only
    rw [h3, Bool.false_and, if_neg (by decide)]
    exact wpAny_pure hQ
  cases target <;> first | exact wpAny_pure hQ | exact key

/-- what a for statement walks over -/
noncomputable def SemI (prog : Program) (w : World) (h0 : Heap) (H : Nat) (sc : Scope) (e : Expr) (φ : EM (List Dat)) : Prop :=
  ∀ (c : Fx) (A : Around) (l : Addr) (ρ : St) (s : Shared) (Q : Value → Shared → Prop) (E : Value → Shared → Prop),
    Fok h0 c sc → AOk true H c A → Rel h0 c l ρ s.heap → PassesOwn (model prog w) A c.env E →
    ∀ r, φ ρ = some r →
    (∀ ds, r = .ok ds → ∀ g it o s', Goes c s s' → s.heap.get? it = none → it ∉ c.P.map (·.1) → Rel h0 (c.pinned it o) l ρ s'.heap → ItOk g (vw s'.heap (hid (c.pinned it o) l)) o ds → Q (.ref it) s') →
    ErrOk h0 c s r E →
    wpAny (model prog w) A (eval e c.env) (fun x s₁ => wpAny (model prog w) A (pyIter x) Q E s₁) E s

noncomputable def itemsD : Dat → Option (List Dat)
  | .list ds => some ds
  | .tuple ds => some ds
  | .bytes b => some (b.map fun u => .int (u.toNat : Int))
  | _ => none
theorem pin_vle {h h' : Heap} {o : Obj} {a : Addr} (ha : a = h.objs.size) (k : ∀ b ob, h.get? b = some ob → h'.get? b = some ob) : VLe (vw h (hid c l)) (vw h' (hid (c.pinned a o) l)) := fun b ob e => vw_at (k b ob (vw_get e)) fun q => by
  rcases mem_hid_pinned.mp q with q | q
  · have := Heap.lt_size (vw_get e)
    rw [q, ha] at this
    exact Nat.lt_irrefl _ this
  · exact vw_not e q
theorem SemI.seq {e : Expr} {φ : EM Dat} (a : SemE prog w h0 true H sc e φ) : SemI prog w h0 H sc e (φ.bind fun d => EM.lift (itemsD d)) := by
  intro c A l ρ s Q E K hA R hE r hr hQ hX
  refine a.use K hA R hE hr hX fun d v s₁ hr₁ G₁ R₁ hv hX₁ => ?_
  obtain ⟨ds, e, rfl⟩ := lift_some hr₁
  unfold itemsD at e
  split at e <;> first | (cases e; done) | skip
  · obtain rfl := Option.some.inj e
    have hv' := hv
    unfold Rep at hv
    obtain ⟨a, vs, n, rfl, ho, hr⟩ := hv
    refine PySem.wpAny_pyIter_list (items := vs.toArray) ⟨_, vw_get ho, rfl, n, rfl⟩ ?_
    have k : ∀ b ob, s₁.heap.get? b = some ob → (s₁.heap.push { cls := .type "list_iterator", data := .fields #[.ref a, .int 0 0] }).get? b = some ob := fun b ob e => Heap.get?_push_of_some _ e
    have V := pin_vle (c := c) (l := l) (o := { cls := .type "list_iterator", data := .fields #[.ref a, .int 0 0] }) rfl k
    exact hQ _ rfl _ _ _ _ (G₁.trans .push') (none_back G₁ (Heap.get?_none_of_le (Nat.le_refl _))) R₁.pin_fresh (R₁.newPin K rfl k (Heap.get?_push_size _ rfl)) (.inl ⟨a, _, 0, rfl, rfl, rfl, hv'.mono V, by simp⟩)
  · obtain rfl := Option.some.inj e
    have hv' := hv
    unfold Rep at hv
    obtain ⟨a, vs, n, rfl, ho, hr⟩ := hv
    refine PyProof.Rows.iter_tuple (items := vs.toArray) ⟨_, vw_get ho, rfl, n, rfl⟩ ?_
    have k : ∀ b ob, s₁.heap.get? b = some ob → (s₁.heap.push { cls := .type "tuple_iterator", data := .fields #[.ref a, .int 0 0] }).get? b = some ob := fun b ob e => Heap.get?_push_of_some _ e
    have V := pin_vle (c := c) (l := l) (o := { cls := .type "tuple_iterator", data := .fields #[.ref a, .int 0 0] }) rfl k
    exact hQ _ rfl _ _ _ _ (G₁.trans .push') (none_back G₁ (Heap.get?_none_of_le (Nat.le_refl _))) R₁.pin_fresh (R₁.newPin K rfl k (Heap.get?_push_size _ rfl)) (.inr (.inl ⟨a, _, 0, rfl, rfl, rfl, hv'.mono V, by simp⟩))
  · obtain rfl := Option.some.inj e
    unfold Rep at hv
    obtain ⟨t, rfl⟩ := hv
    refine PySem.W.KBw.pyIter_bytes ?_
    rename_i bs
    have k : ∀ b ob, s₁.heap.get? b = some ob → (s₁.heap.push { cls := .type "bytes_iterator", data := .fields #[.bytes bs.toArray t, .int 0 0] }).get? b = some ob := fun b ob e => Heap.get?_push_of_some _ e
    exact hQ _ rfl _ _ _ _ (G₁.trans .push') (none_back G₁ (Heap.get?_none_of_le (Nat.le_refl _))) R₁.pin_fresh (R₁.newPin K rfl k (Heap.get?_push_size _ rfl)) (.inr (.inr (.inl ⟨_, t, 0, rfl, rfl, rfl, by simp⟩)))
noncomputable def rangeI : List Int → Option (List Dat)
  | [n] => if 0 ≤ n ∧ n < 2 ^ 60 then some (rangeL 0 1 n.toNat) else none
  | [a, b] => if 0 ≤ a ∧ a < 2 ^ 60 ∧ 0 ≤ b ∧ b < 2 ^ 60 then some (rangeL a 1 (b - a).toNat) else none
  | [a, b, c] => if 0 ≤ a ∧ a < 2 ^ 60 ∧ 0 ≤ b ∧ b < 2 ^ 60 ∧ 1 ≤ c ∧ c < 2 ^ 20 then some (rangeL a c (Builtin.Range.rangeSize a b c).toNat) else none
  | _ => none
noncomputable def rangeD (ds : List Dat) : Option (List Dat) := (intsD ds).bind rangeI
theorem small_of {a b c : Int} (ha : 0 ≤ a) (ha' : a < 2 ^ 60) (hb : 0 ≤ b) (hb' : b < 2 ^ 60) (hc : 1 ≤ c) (hc' : c < 2 ^ 20) : Builtin.Range.small a b c = true := by
  have h1 := PyProof.Rows.rangeSize_toNat a b c
  have h2 := PyProof.Rows.rangeSize_toNat_le a b c
  have hc0 : c > 0 := by omega
  unfold Builtin.Range.small
  rw [if_pos hc0]
  generalize Builtin.Range.rangeSize a b c = z at *
  simp only [Builtin.Range.rangeFitsLong, Bool.and_eq_true, Bool.or_eq_true, decide_eq_true_eq, beq_iff_eq]
  omega
theorem iter_range {r : Addr} {a b c' : Int} {t u v : Tok} {n : Nat} {Q : Value → Shared → Prop} (K : Fok h0 c sc) (R : Rel h0 c l ρ s.heap) (hr : IsRange s.heap r a b c' t u v) (hs : Builtin.Range.small a b c' = true) (hn : Builtin.Range.rangeSize a b c' = n)
    (hQ : ∀ g it o s', Goes c s s' → s.heap.get? it = none → it ∉ c.P.map (·.1) → Rel h0 (c.pinned it o) l ρ s'.heap → ItOk g (vw s'.heap (hid (c.pinned it o) l)) o (rangeL a c' n) → Q (.ref it) s') : wpAny (model prog w) A (pyIter (.ref r)) Q E s := by
  refine wpAny_pyIter_range hr hs ?_
  rw [hn]
  have k : ∀ b ob, s.heap.get? b = some ob → (s.heap.push { cls := .type "range_iterator", data := .fields #[rawInt a, rawInt (n : Int), rawInt c'] }).get? b = some ob := fun b ob e => Heap.get?_push_of_some _ e
  exact hQ _ _ _ _ .push' (Heap.get?_none_of_le (Nat.le_refl _)) R.pin_fresh (R.newPin K rfl k (Heap.get?_push_size _ rfl)) (.inr (.inr (.inr ⟨a, c', n, rfl, rfl, rfl⟩)))
theorem SemI.range {p pos : Pos} {e : Expr} {es : List Expr} {φ : EM (List Dat)} (G : Gd w h0)
    (hx : sc.names.lookup ("range" : Str) = some .globalImplicit) (hg : nsIn (KF w) mainGlobals "range" = some none) (hb : bootBuiltins "range" = some (.type "range")) (ha : SemA prog w h0 true H sc (e :: es) φ)
    (he : ∀ env, starEach (e :: es) env = (false, eval e env) :: starEach es env := by intro _; rfl) (hplain : ∀ env, (backTo pos (starEach es env)).any (·.1) = false := by intro _; rfl) :
    SemI prog w h0 H sc (.Call (.Name "range" p) (e :: es) [] pos) (φ.bind fun ds => EM.lift (rangeD ds)) := by
  intro c A l ρ s Q E K hA R hE r hr hQ hX
  refine Call_Name rfl (blt_at G K R hx hg hb (by decide) (by decide) ?_)
  have body : wpAny (model prog w) A (spliced (backTo pos (starEach (e :: es) c.env))) (fun vs s₁ => wpAny (model prog w) A (PySem.call (.type "range") vs) (fun x s₁ => wpAny (model prog w) A (pyIter x) Q E s₁) E s₁) E s := by
    refine (ha pos).use K hA R hE hr hX fun ds vs s₁ hr₁ G₁ R₁ hv hX₁ => ?_
    obtain ⟨d, e, rfl⟩ := lift_some hr₁
    unfold rangeD at e
    obtain ⟨ns, e0, e1⟩ := Option.bind_eq_some_iff.mp e
    clear e
    obtain rfl := intsD_map e0
    clear e0
    have e := e1
    clear e1
    unfold rangeI at e
    split at e <;> first | (cases e; done) | skip
    all_goals
      split at e <;> first | (cases e; done) | skip
      obtain rfl := Option.some.inj e
    · rename_i n hb
      obtain ⟨v, rfl, h1⟩ := one_of (d := .int n) hv
      unfold Rep at h1
      obtain ⟨t, rfl⟩ := h1
      refine call_range_1 ?_
      have G₂ : Goes c s₁ { s₁ with heap := s₁.heap.push { cls := .type "range", data := .fields #[.int 0 s₁.toks, .int n t, .int 1 (s₁.toks + 1)] }, toks := s₁.toks + 1 + 1 } := .push
      refine iter_range K (R₁.goes K G₂) (IsRange.new ..) (small_of (by decide) (by decide) hb.1 hb.2 (by decide) (by decide)) ?_ fun gg it o s' g k n R' h => hQ _ rfl gg it o s' ((G₁.trans G₂).trans g) (none_back (G₁.trans G₂) k) n R' h
      rw [rangeSize_one]; split <;> omega
    · rename_i a b hb
      have hv : Reps _ [.int a, .int b] vs := hv
      unfold Reps at hv
      obtain ⟨v, r, rfl, h1, h2⟩ := hv
      obtain ⟨v', rfl, h3⟩ := one_of h2
      unfold Rep at h1 h3
      obtain ⟨t, rfl⟩ := h1; obtain ⟨t', rfl⟩ := h3
      refine call_range_2 ?_
      have G₂ : Goes c s₁ { s₁ with heap := s₁.heap.push { cls := .type "range", data := .fields #[.int a t, .int b t', .int 1 s₁.toks] }, toks := s₁.toks + 1 } := .push
      refine iter_range K (R₁.goes K G₂) (IsRange.new ..) (small_of hb.1 hb.2.1 hb.2.2.1 hb.2.2.2 (by decide) (by decide)) ?_ fun gg it o s' g k n R' h => hQ _ rfl gg it o s' ((G₁.trans G₂).trans g) (none_back (G₁.trans G₂) k) n R' h
      rw [rangeSize_one]; split <;> omega
    · rename_i a b d hb
      have hv : Reps _ [.int a, .int b, .int d] vs := hv
      unfold Reps at hv
      obtain ⟨v, r, rfl, h1, h2⟩ := hv
      unfold Reps at h2
      obtain ⟨v', r, rfl, h3, h2⟩ := h2
      obtain ⟨v'', rfl, h5⟩ := one_of h2
      unfold Rep at h1 h3 h5
      obtain ⟨t, rfl⟩ := h1; obtain ⟨t', rfl⟩ := h3; obtain ⟨t'', rfl⟩ := h5
      obtain ⟨b1, b2, b3, b4, b5, b6⟩ := hb
      refine call_range_3 (by omega) ?_ (.inl (PyProof.noPylong_small (by omega)))
      have G₂ : Goes c s₁ { s₁ with heap := s₁.heap.push { cls := .type "range", data := .fields #[.int a t, .int b t', .int d t''] }, toks := s₁.toks } := .push
      exact iter_range K (R₁.goes K G₂) (IsRange.new ..) (small_of b1 b2 b3 b4 b5 b6) (PyProof.Rows.rangeSize_toNat _ _ _) fun gg it o s' g k n R' h => hQ _ rfl gg it o s' ((G₁.trans G₂).trans g) (none_back (G₁.trans G₂) k) n R' h
  have hp : (backTo pos (starEach (e :: es) c.env)).any (·.1) = false := by rw [he]; show (false || (backTo pos (starEach es c.env)).any (·.1)) = false; rw [hplain]; rfl
  rw [he] at body hp ⊢
  exact PyProof.Rows.callWith_type hp (Calls.evalArgs_plain body)

noncomputable def SemG (prog : Program) (w : World) (h0 : Heap) (H : Nat) (sc : Scope) (t : Expr) (τ : Dat → SM) : Prop :=
  ∀ (c : Fx) (A : Around) (l : Addr) (ρ : St) (s : Shared) (Q : Unit → Shared → Prop) (E : Value → Shared → Prop) (d : Dat) (v : Value) (o : Out),
    Fok h0 c sc → AOk true H c A → Rel h0 c l ρ s.heap → Rep (vw s.heap (hid c l)) d v → τ d ρ = some o →
    (∃ ρ', o = .next ρ') ∧ ((∀ ρ', o = .next ρ' → ∀ s', s'.gens = s.gens → s'.os = s.os → Rel h0 c l ρ' s'.heap → Q () s') → wpAny (model prog w) A (assign t c.env v) Q E s)
theorem SemG.name {x : Str} {p : Pos} (i : Nat) (hx : nm sc i = some x) (hk : sc.names.lookup x = some .local) : SemG prog w h0 H sc (.Name x p) (SM.put i) := by
  intro c A l ρ s Q E d v o K hA R hv ho
  obtain ⟨hf, rfl⟩ := put_some ho
  exact ⟨⟨_, rfl⟩, fun hQ => PySem.wpAny_assign_Name (store_sound K R hx hk hf hv fun s' g k R' _ => hQ _ rfl s' g k R')⟩
theorem SemG.tuple {es : List Expr} {is : List Nat} {xs : List Str} {k} {pos : Pos} (N : NamesAt sc es is xs) : SemG prog w h0 H sc (.Tuple es k pos) (putsOf is) := by
  intro c A l ρ s Q E d v o K hA R hv ho
  unfold putsOf at ho
  split at ho <;> first | (cases ho; done) | skip
  exact ⟨puts_next ho, fun hQ => spread_sound N K (hA.handled rfl) R hv ho hQ⟩

noncomputable def forM (τ : Dat → SM) (β : SM) : List Dat → SM
  | [] => SM.next
  | d :: ds => fun ρ => match SM.seq (τ d) β ρ with
    | some (.next ρ') => forM τ β ds ρ'
    | some (.brk ρ') => some (.next ρ')
    | o => o
noncomputable def Fx.seen (c : Fx) (g : Dat × Value) : Fx := { c with V := g :: c.V }
theorem Fok.seen (K : Fok h0 c sc) (g : Dat × Value) : Fok h0 (c.seen g) sc := ⟨K.is, K.kind, K.glob, K.blt, K.frame, K.gL, K.bL, K.LX, K.XF, K.Xb, K.Mb, K.dup, K.pnd⟩
theorem AOk.seen {q : Bool} (K : AOk q H c A) (g : Dat × Value) : AOk q H (c.seen g) A := ⟨K.frames, K.depth, K.units, K.handled⟩
theorem ns_reV {h : Heap} {V' : List (Dat × Value)} (x : ∃ m, NsOk h0 c l ρ h m) : ∃ m, NsOk h0 { c with V := V' } l ρ h m := by
  obtain ⟨m, hn, a1, a2, a3⟩ := x
  refine ⟨m, hn, fun i d e => ?_, fun i ds e => ?_, fun i b wt pl e => ?_⟩
  · obtain ⟨x, hx, y | ⟨k, a, o, v, r⟩⟩ := a1 i d e
    · exact ⟨x, hx, .inl y⟩
    · exact ⟨x, hx, .inr ⟨k, a, o, v, r.1, r.2, r.3, r.4, r.5, r.6, r.7, r.8⟩⟩
  · obtain ⟨x, vs, n, r⟩ := a2 i ds e
    exact ⟨x, vs, n, r.1, r.2, r.3, r.4, r.5, r.6⟩
  · obtain ⟨x, xa, dx, P, t, n, r⟩ := a3 i b wt pl e
    exact ⟨x, xa, dx, P, t, n, r.1, r.2, r.3, r.4, r.5, r.6, r.7, r.8, r.9, r.10, r.11, r.12, r.13, r.14, r.15, r.16, r.17, r.18⟩
theorem Rel.seen {h : Heap} {g : Dat × Value} (R : Rel h0 c l ρ h) (hg : Rep (vw h (hid c l)) g.1 g.2) : Rel h0 (c.seen g) l ρ h := ⟨R.stays, R.frs, R.ext, R.lb, R.pin, R.xin, fun p hp => by
  rcases List.mem_cons.mp hp with rfl | hp
  · exact hg
  · exact R.see p hp, R.min, ns_reV (c := c) (V' := g :: c.V) R.ns⟩
theorem Rel.unseen {h : Heap} {g : Dat × Value} (R : Rel h0 (c.seen g) l ρ h) : Rel h0 c l ρ h := ⟨R.stays, R.frs, R.ext, R.lb, R.pin, R.xin, fun p hp => R.see p (.tail _ hp), R.min, ns_reV (c := c.seen g) (V' := c.V) R.ns⟩
theorem Thrown.unseen {e C : Addr} {g : Dat × Value} {h : Heap} (x : Thrown h0 (c.seen g) e C h) : Thrown h0 c e C h := by
  obtain ⟨t1, t2, t3, t4, t5, t6, t8, t9, t7⟩ := x
  refine ⟨t1, t2, t3, t4, t5, t6, fun p hp => t8 p (.tail _ hp), t9, ?_⟩
  rcases t7 with ⟨oe, vs, a0, u1, u2, u3, u4, u5, u6, u7, u8, u9, u10, u11⟩ | ⟨B, a0, u1, u2⟩
  · exact .inl ⟨oe, vs, a0, u1, u2, u3, u4, u5, u6, u7, u8, u9, fun p hp => u10 p (.tail _ hp), u11⟩
  · exact .inr ⟨B, a0, u1, ⟨u2.st, u2.g, u2.p, u2.x, fun p hp => u2.v p (.tail _ hp), u2.m⟩⟩
theorem SemS.for {t e : Expr} {body : List Stmt} {pos : Pos} {τ : Dat → SM} {β : SM} {φ : EM (List Dat)} (hi : SemI prog w h0 H sc e φ) (ht : SemG prog w h0 H sc t τ) (hb : SemB prog w h0 true H sc body β)
    (hs : ∀ env x, foldedSetIterable e env x = pure x := by intro _ _; rfl) :
    SemS prog w h0 true H sc (.For t e body [] pos) (SM.ofE φ fun ds => forM τ β ds) := by
  intro c A l ρ s Q E K hA R hE hfe o ho hP
  refine PySem.wpAny_For ?_ (hs _)
  unfold SM.ofE at ho
  cases hφ : φ ρ with
  | none => rw [hφ] at ho; cases ho
  | some r =>
    rw [hφ] at ho
    refine hi c A l ρ s _ E K hA R hE r hφ (fun ds hd g it ob s₁ G₁ _ hn R₁ hi₁ => ?_) fun C hC e s' h1 h2 h3 => ?_
    · subst hd
      have ho : forM τ β ds ρ = some o := ho
      refine codeAny_forLoop_any (fun n s' => ∃ l' ρ' ob' ds', ds'.length = n ∧ s'.gens = s.gens ∧ s'.os = s.os ∧ Rel h0 ((c.seen g).pinned it ob') l' ρ' s'.heap ∧ ItOk g (vw s'.heap (hid ((c.seen g).pinned it ob') l')) ob' ds' ∧ forM τ β ds' ρ' = some o) (fun n s₂ hI => ?_) ds.length ⟨l, ρ, ob, ds, rfl, G₁.gens, G₁.os, R₁.seen (c := c.pinned it ob) hi₁.sees, hi₁, ho⟩
      obtain ⟨l₂, ρ₂, ob₂, ds₂, rfl, g₂, k₂, R₂, hi₂, ho₂⟩ := hI
      refine wpAny_passesOwn hE ?_
      have hP₂ := hP.of g₂ k₂
      have hit := (R₂.pin _ (.head _)).1
      cases ds₂ with
      | nil =>
        obtain rfl : Out.next ρ₂ = o := Option.some.inj ho₂
        refine end_sound (hA.handled rfl) hit hi₂ fun h' he => wpAny_passesOwn hE (wpAny_execs_nil (hP₂ l₂ _ rfl rfl ?_))
        exact (Rel.past (c := c.seen g) (P' := c.P) (K.seen g) hn R₂ (fun b ob hb e => he b ob hb e) hi₂.nocell (.inl rfl)).unseen
      | cons d ds₂ =>
        have hK : ∀ o', Fok h0 ((c.seen g).pinned it o') sc := fun o' => (K.seen g).pinned o' hn
        refine next_sound hit (mem_hid_pinned.mpr (.inl rfl)) hi₂ fun v o' s₃ g₃ k₃ hs₃ ho₃ hi₃ hv₃ => ?_
        have R₃ : Rel h0 ((c.seen g).pinned it o') l₂ ρ₂ s₃.heap := Rel.past (c := c.seen g) (K.seen g) hn R₂ (fun b ob hb e => (hs₃.2 b hb).trans e) hi₂.nocell (.inr ⟨o', ho₃, rfl⟩)
        refine wpAny_passesOwn hE (go_sound ho₃ hi₃ (wpAny_passesOwn hE ?_))
        unfold forM at ho₂
        have hseq : ∃ o₁, SM.seq (τ d) β ρ₂ = some o₁ := by
          cases e : SM.seq (τ d) β ρ₂ with
          | none => rw [e] at ho₂; cases ho₂
          | some o₁ => exact ⟨o₁, rfl⟩
        obtain ⟨o₁, ho₁⟩ := hseq
        rw [ho₁] at ho₂
        obtain ⟨ρ₃, e1, e2⟩ := seq_any ho₁ fun o₂ e => (ht ((c.seen g).pinned it o') A l₂ ρ₂ s₃ (fun _ _ => True) E d v o₂ (hK o') ((hA.seen g).pinned _ _) R₃ hv₃ e).1
        refine (ht ((c.seen g).pinned it o') A l₂ ρ₂ s₃ _ _ d v _ (hK o') ((hA.seen g).pinned _ _) R₃ hv₃ e1).2 fun ρ₄ e4 s₄ g₄ k₄ R₄ => ?_
        injection e4 with e4
        subst e4
        refine wpAny_passesOwn hE ?_
        refine hb ((c.seen g).pinned it o') A l₂ ρ₃ s₄ _ E (hK o') ((hA.seen g).pinned _ _) R₄ hE hfe o₁ e2 ?_
        have unpin : ∀ l' ρ' h, Rel h0 ((c.seen g).pinned it o') l' ρ' h → Rel h0 c l' ρ' h := fun l' ρ' h R => (Rel.past (c := c.seen g) (P' := c.P) (K.seen g) hn R (fun _ _ _ e => e) (fun v => hi₃.nocell v) (.inl rfl)).unseen
        cases o₁ with
        | next ρ' => exact fun l' s' g5 k5 R' => ⟨_, Nat.lt_succ_self _, l', ρ', o', ds₂, rfl, ((g5.trans g₄).trans g₃).trans g₂, ((k5.trans k₄).trans k₃).trans k₂, R', hi₃.to (R'.see _ (.head _)), ho₂⟩
        | brk ρ' =>
          obtain rfl := Option.some.inj ho₂
          exact fun l' s' g5 k5 R' => hP₂ l' s' ((g5.trans g₄).trans g₃) ((k5.trans k₄).trans k₃) (unpin _ _ _ R')
        | ret d =>
          obtain rfl := Option.some.inj ho₂
          exact fun v s' g5 k5 x hv => hP₂ v s' ((g5.trans g₄).trans g₃) ((k5.trans k₄).trans k₃) ⟨x.1, x.2, x.3, x.4⟩ hv
        | raise C =>
          obtain rfl := Option.some.inj ho₂
          exact fun e s' g5 k5 x => hP₂ e s' ((g5.trans g₄).trans g₃) ((k5.trans k₄).trans k₃) (Thrown.unseen (Thrown.unpin x))
    · subst hC
      obtain rfl : Out.raise C = o := Option.some.inj ho
      exact hP e s' h1 h2 h3
end
end Mine
end
section
set_option Elab.async false
set_option maxRecDepth 100000
open PySem PySem.W PyProof.Rows PySem.SeqAt PySem.Spec
namespace Mine

noncomputable def resOf : Option Out → Option (Except Addr Dat)
  | some (.ret d) => some (.ok d)
  | some (.next _) => some (.ok .none)
  | some (.raise C) => some (.error C)
  | _ => none
noncomputable def startOf (is : List Nat) (ds : List Dat) : St := { loc := fun j => (is.zip ds).lookup j }

theorem lookup_zip_rev {β : Type} : ∀ {xs : List Str} {vs : List β} {i : Nat} {x : Str} {v : β}, xs.Nodup → xs.length = vs.length → xs[i]? = some x → vs[i]? = some v → (xs.zip vs).reverse.lookup x = some v
  | [], _, i, x, v, _, _, hx, _ => by simp at hx
  | _ :: _, [], _, _, _, _, hl, _, _ => by simp at hl
  | y :: xs, u :: vs, i, x, v, hd, hl, hx, hv => by
    obtain ⟨hy, hd⟩ := List.nodup_cons.mp hd
    rw [List.zip_cons_cons, List.reverse_cons, List.lookup_append]
    cases i with
    | zero =>
      have e1 : y = x := by simpa using hx
      have e2 : u = v := by simpa using hv
      subst e1; subst e2
      have : (xs.zip vs).reverse.lookup y = none := by
        rw [List.lookup_eq_none_iff]
        intro p hp
        have hp := List.mem_reverse.mp hp
        have := (List.of_mem_zip (show (p.1, p.2) ∈ xs.zip vs from hp)).1
        simp
        intro q; exact hy (q ▸ this)
      rw [this]
      simp
    | succ i =>
      rw [lookup_zip_rev hd (Nat.succ.inj hl) (by simpa using hx) (by simpa using hv)]
      rfl
theorem lookup_zip_at : ∀ {is : List Nat} {ds : List Dat} {i : Nat} {d : Dat}, (is.zip ds).lookup i = some d → ∃ k : Nat, is[k]? = some i ∧ ds[k]? = some d
  | [], _, i, d, h => by simp at h
  | _ :: _, [], i, d, h => by simp at h
  | j :: is, e :: ds, i, d, h => by
    rw [List.zip_cons_cons, List.lookup_cons] at h
    cases q : (i == j) with
    | true =>
      rw [q] at h
      exact ⟨0, by simp [eq_of_beq q], by simpa using h⟩
    | false =>
      rw [q] at h
      obtain ⟨k, h1, h2⟩ := lookup_zip_at h
      exact ⟨k + 1, by simpa using h1, by simpa using h2⟩

section
variable {prog : Program} {w : World} {h0 : Heap} {H : Nat} {sc : Scope} {c : Fx} {A : Around} {l : Addr} {ρ : St} {s : Shared} {E : Value → Shared → Prop}

/-- an exception leaves its frame -/
theorem leave_sound {e C : Addr} {Q : Unit → Shared → Prop} (hE : c.fenv = c.env) (hX : c.X = []) (K : Fok h0 c sc) (hA : A.frames = some (c.env :: c.fs)) (hT : Thrown h0 c e C s.heap)
    (hQ : ∀ s', s'.gens = s.gens → s'.os = s.os → Ext [] c.fs c.g s'.heap → Flown h0 c.fs c.g e C s'.heap → Q () s') :
    wpAny (model prog w) A (leaving c.env (.ref e)) Q E s := by
  obtain ⟨t1, t2, t3, ⟨m, tn⟩, _, _, _, _, t⟩ := hT
  obtain ⟨FL, hf, hf', hg⟩ := K.frame
  rw [hE] at t2
  rw [hX] at t3
  have ext : ∀ h', s.heap.UpToSlots h' → (∀ b o, c.g.get? b = some o → b ∉ addrs (c.env :: c.fs) → h'.get? b = some o) → Ext [] c.fs c.g h' := fun h' hu hk b o _ e1 => by
    have nb : b ∉ addrs c.fs → b ∉ addrs (c.env :: c.fs) := fun n q => by
      unfold addrs at q n
      rw [List.filterMap_cons, hf'] at q
      rcases List.mem_cons.mp q with q | q
      · rw [q, hg] at e1; cases e1
      · exact n q
    refine ⟨?_, fun n => hk b o e1 (nb n)⟩
    by_cases hb : b ∈ addrs (c.env :: c.fs)
    · obtain ⟨⟨sl, e2⟩, _⟩ := t3 b o (by simp) e1
      obtain ⟨_, o', ho', hn'⟩ := t2.mem hb
      rw [e2] at ho'; cases ho'
      obtain ⟨sl', e3⟩ := hu b _ e2 hn'
      exact ⟨sl', e3⟩
    · exact ⟨o.slots, hk b o e1 hb⟩
  rcases t with ⟨oe, vs, a0, he, hc, hd, h1, h2, h3, h4, _⟩ | ⟨B, a0, hB, ⟨hB0, hBg, _, _, _, _⟩⟩
  · let B := hideAll s.heap (e :: addrs (c.env :: c.fs))
    have kB : B.StaysIn s.heap := fun b o q => of_hideAll _ q
    have hin : ∀ env ∈ (c.env :: c.fs), ∀ b, env.frame = some b → b ∈ (e :: addrs (c.env :: c.fs)) := fun env he b hb => .tail _ (List.mem_filterMap.mpr ⟨env, he, hb⟩)
    have hBg : ∀ b o, c.g.get? b = some o → b ∉ addrs (c.env :: c.fs) → B.get? b = some o := fun b o q n => by
      have nf : b ∉ addrs c.fs := fun z => n (by unfold addrs at z ⊢; rw [List.filterMap_cons, hf']; exact .tail _ z)
      refine hideAll_get _ ((t3 b o (by simp) q).2 nf) fun z => ?_
      rcases List.mem_cons.mp z with z | z
      · rw [z, h4] at q; cases q
      · exact n z
    have hB0 : h0.StaysIn B := fun b o q => hideAll_get _ (t1 b o q) fun z => by
      rcases List.mem_cons.mp z with z | z
      · rw [z, h3] at q; cases q
      · rw [frames_none t2 z] at q; cases q
    refine wpAny_leaving_firstW (base := B) hA (funFrames_hide t2 hin) hf' he kB (hideAll_none _ (.head _)) hd h1 h2 fun h' hL => ?_
    obtain ⟨k1, ⟨k0, k00, k2⟩, k3, k4⟩ := hL
    rw [hc] at k3
    refine hQ _ rfl rfl (ext _ k4 fun b o q n => k1 b o (hBg b o q n)) ⟨B, a0, ⟨k1, hideAll_none _ (.head _), k2, k3⟩, hB0, fun b o q n => hideAll_get _ ((t3 b o (by simp) q).2 n) fun z => ?_⟩
    rcases List.mem_cons.mp z with z | z
    · rw [z, h4] at q; cases q
    · unfold addrs at z
      rw [List.filterMap_cons, hf'] at z
      rcases List.mem_cons.mp z with z | z
      · rw [z, hg] at q; cases q
      · exact n z
  · rw [hE] at hB hBg
    rw [hX] at hBg
    refine wpAny_leaves_onW hA hf' hB fun h' hF hu => hQ _ rfl rfl (ext _ hu fun b o q n => hF.1 b o (hBg b o (by simp) q n)) ⟨B, a0, hF, hB0, fun b o q n => hBg b o (by simp) q fun z => ?_⟩
    unfold addrs at z
    rw [List.filterMap_cons, hf'] at z
    rcases List.mem_cons.mp z with z | z
    · rw [z, hg] at q; cases q
    · exact n z

/-- a def of the text -/
theorem call_spec {f : Addr} {fd : FuncData} {oc : Value} {od : Option Addr} {osl : Array (Option Value)} {body : List Stmt} (xs : List Str) (is : List Nat) {ψ : SM} (G : Gd w h0)
    (ho : (KF w).lookup f = some ⟨oc, od, .func fd, osl⟩) (hbody : fd.body = .stmts body) (hsem : SemB prog w h0 true H fd.scope body ψ) (hcd : codeIn (KF w) fd.code fd.qualname = true)
    (hgl : fd.globals = mainGlobals) (hbl : fd.builtins = builtinsNs)
    (hbind : ∀ s vs, (KF w).In s.heap → vs.length = xs.length → BindsTo s fd ⟨vs, []⟩ (xs.zip vs)) (hnm : is.map (nm fd.scope) = xs.map some) (hnd : xs.Nodup) (hloc : (xs.all fun x => decide (fd.scope.names.lookup x = some .local)) = true)
    (hdup : (fd.scope.names.map (·.1)).Nodup) (hcell : ∀ x ∈ fd.scope.names, x.2 ≠ .cell)
    (hco : fd.scope.isCoroutine = false) (hgen : fd.scope.isGenerator = false) (hk : fd.scope.kind = .function) :
    CallSpec prog w h0 f (H + 1) (fun ds => if ds.length = xs.length then resOf (ψ (startOf is ds)) else none) := by
  intro A fs M s vs ds Q E hfr hh hdp hun hst hff hM hv r hr hQ hX
  dsimp only at hr
  split at hr <;> first | (cases hr; done) | skip
  rename_i hlen
  have X : (KF w).In s.heap := G.X.keeps hst
  obtain ⟨mg, mb, T⟩ := G.T
  have hvl := hv.length
  have hloc' : ∀ x ∈ xs.zip vs, fd.scope.names.lookup x.1 = some .local := fun x hx => of_decide_eq_true (List.all_eq_true.mp hloc x.1 (List.of_mem_zip (show (x.1, x.2) ∈ _ from hx)).1)
  refine wpAny_call (codeAny_call_def (fd := fd) (body := body) (binds := xs.zip vs) (by omega) (X _ _ ho) rfl (T.nolimit.keeps hst) (codeRec_of X hcd) hbody (hbind s vs X (by rw [hvl, hlen])) hcell hloc' (fun h₁ hns hk₁ => ?_) hco hgen hk)
  generalize hL : s.heap.objs.size = L at *
  let env := callEnv fd L f
  let c : Fx := { env := env, fenv := env, fs := fs, g := s.heap, X := [], M := M }
  have hgL : s.heap.get? L = none := by
    cases e : s.heap.get? L with
    | none => rfl
    | some o => exact absurd (Heap.lt_size e) (by rw [hL]; exact Nat.lt_irrefl _)
  have h0L : h0.get? L = none := by
    cases e : h0.get? L with
    | none => rfl
    | some o => have := hst _ _ e; rw [hgL] at this; cases this
  have K : Fok h0 c fd.scope := ⟨rfl, hk, hgl, hbl, ⟨L, rfl, rfl, hgL⟩, hgL, h0L, by simp [c], (fun a h => by cases h), (fun a h => by cases h), fun a ha => ⟨(hM a ha).1, by simp [c]⟩, hdup, by simp [c]⟩
  have hA' : AOk true H c (A.deeper env) := ⟨Around.frames_deeper hfr, by show A.depth + 1 + H < _; omega, by show A.units + 3 + 16 * H + 16 < _; omega, fun _ => hh⟩
  obtain ⟨oL, hoL, hdL⟩ := ns_obj hns
  have hh1 : ∀ b, b ∈ hid c L → b = L ∨ b ∈ M ++ addrs fs := fun b hb => by
    rcases List.mem_cons.mp hb with hb | hb
    · exact .inl hb
    rcases List.mem_cons.mp hb with hb | hb
    · exact .inl hb
    rcases List.mem_append.mp hb with hb | hb
    · exact .inr (List.mem_append_left _ (by simpa [pm, c] using hb))
    · have e : addrs (c.fenv :: c.fs) = L :: addrs fs := rfl
      rw [e] at hb
      rcases List.mem_cons.mp hb with hb | hb
      · exact .inl hb
      · exact .inr (List.mem_append_right _ hb)
  have V : VLe (vw s.heap (M ++ addrs fs)) (vw h₁ (hid c L)) := fun b o e => vw_at (hk₁ b o (vw_get e)) fun q => by
    rcases hh1 b q with q | q
    · rw [q, ] at e; have := vw_get e; rw [hgL] at this; cases this
    · exact vw_not e q
  have hff1 : h₁.FunFrames h0 fs := funFrames_keep (fun b o e hn => ⟨o, hk₁ b o e, hn⟩) hff
  have R : Rel h0 c L (startOf is ds) h₁ := by
    refine ⟨fun b o e => hk₁ b o (hst b o e), ⟨fun q => (by rw [show env.scope.kind = _ from hk] at q; cases q), ⟨L, oL, rfl, h0L, hoL, hdL⟩, hff1⟩, .of_keeps hk₁, fun _ => rfl, fun p hp => (by cases hp), fun a h => (by cases h), fun p hp => (by cases hp), fun a ha => (let ⟨o, ho⟩ := (hM a ha).2; ⟨o, hk₁ _ _ ho⟩), _, hns, fun i d e => ?_, fun i ds e => (by cases e), fun i b wt pl e => (by cases e)⟩
    obtain ⟨k, e1, e2⟩ := lookup_zip_at e
    have e3 : (is.map (nm fd.scope))[k]? = some (nm fd.scope i) := by rw [List.getElem?_map, e1]; rfl
    rw [hnm, List.getElem?_map] at e3
    obtain ⟨x, hx, e4⟩ := Option.map_eq_some_iff.mp e3
    obtain ⟨v, hv1, hv2⟩ := hv.get e2
    refine ⟨x, e4.symm, .inl ⟨?_, v, lookup_zip_rev hnd (by omega) hx hv1, hv2.mono V⟩⟩
    exact of_decide_eq_true (List.all_eq_true.mp hloc x (List.mem_of_getElem? hx))
  have outE : ∀ h', Ended h0 c h' → Ext [] fs s.heap h' := fun h' x => x.ext
  have hψ : ∃ o, ψ (startOf is ds) = some o ∧ resOf (some o) = some r := by
    cases e : ψ (startOf is ds) with
    | none => rw [e] at hr; cases hr
    | some o => exact ⟨o, rfl, by rw [← e]; exact hr⟩
  obtain ⟨o, ho₁, ho₂⟩ := hψ
  refine hsem c (A.deeper env) L (startOf is ds) { s with heap := h₁, toks := s.toks + (xs.zip vs).length } _ _ K hA' R PassesOwn.leaving rfl o ho₁ ?_
  cases o with
  | next ρ' =>
    intro l' s' g k R'
    obtain rfl := Option.some.inj ho₂
    exact hQ _ rfl _ s' R'.ended.ext g k (by unfold Rep; rfl)
  | brk ρ' => cases ho₂
  | ret d =>
    intro v s' g k x hv'
    obtain rfl := Option.some.inj ho₂
    refine hQ _ rfl v s' x.ext g k (hv'.mono (vw_sub fun b hb => ?_))
    rcases List.mem_append.mp hb with hb | hb
    · exact List.mem_append_left _ hb
    · exact List.mem_append_right _ (.tail _ hb)
  | raise C =>
    intro e s' g k x
    obtain rfl := Option.some.inj ho₂
    exact leave_sound (c := c) rfl rfl K (Around.frames_deeper hfr) x fun s'' g' k' y z => hX C rfl e s'' y (g'.trans g) (k'.trans k) z
end
end Mine
end
section
set_option Elab.async false
set_option maxRecDepth 100000
open PySem PySem.W PyProof.Rows PySem.SeqAt PySem.Spec
open Builtin Builtin.ObjectAttr
namespace Mine

noncomputable abbrev bm0 : List Value := [.type "Exception", .type "BaseException", .type "object"]
section
variable {prog : Program} {w : World} {A : Around} {E : Value → Shared → Prop} {h : Heap} {g : Array GenState} {d : Drawn} {t : Nat} {os : OsState} {K : Frag} {C x : Addr}

theorem told_entry {o : Obj} {v : Value} {name : Str} {tk : Tok} {Q : Fin → Shared → Prop} {cd : ClassData} (X : K.In h) (hx : h.get? x = some o) (hc : o.cls = .ref C) (hdn : o.dict = none) (hnc : ∀ c, o.data ≠ .cls c) (hfr : o.isFreed = false)
    (hcd : clsIn K C = some cd) (hmro : cd.mro = .ref C :: .ref 32 :: bm0) (hhas : cd.hasDict = true) (ht : findIn K (.ref C) name = some none)
    (hq : ∀ h' tk', (∃ dx, h'.get? x = some { o with dict := some dx }) → (∀ b ob, b ≠ x → h.get? b = some ob → h'.get? b = some ob) → Q (.done (.ret .none)) ⟨h', g, d, tk', os⟩) :
    wpAny (model prog w) A (Builtin.«object.__setattr__» ⟨[.ref x, .str name tk, v], []⟩) Q E ⟨h, g, d, t, os⟩ := by
  have SF := F.store_Exception
  have hT : Looks (model prog w) h (typeOf (.ref x)) (.ref C) := by
    have := (Looks.ld (M := model prog w) (part := none) hx)
    exact hc ▸ (this.andThen .now)
  have hm : Looks (model prog w) h (mroOf (.ref C)) cd.mro := (looks_clsIn X hcd).andThen .now
  rw [osa_eq, refuse_eq]
  refine wpAny_bind (wpAny_bind (hT.here (wpAny_bind (hm.here ?_))))
  rw [hmro, refuseLoop_ref, refuseLoop_ref, SF.passes]
  refine wpAny_pure (wpAny_bind (hT.here (wpAny_bind ((looks_findIn X ht).here (wpAny_bind (wpAny_pure ?_))))))
  show wpAny _ _ (storeInOwnDict (.ref x) (.ref C) (.str name tk) name v false) _ _ _
  refine wpAny_bind (wpAny_pure (wpAny_bind (wpAny_bind (wpAny_loadPart hx ?_))))
  rw [hc]
  refine wpAny_bind ((looks_clsIn X hcd).here ?_)
  rw [hhas, hdn]
  rw [if_neg (by decide)]
  dsimp only
  rw [if_neg (by simp [typeHasDict])]
  have hx₁ : (h.push { cls := .type "dict", data := .dict #[] }).get? x = some o := Heap.get?_push_of_some _ hx
  have hxs : x ≠ h.objs.size := Nat.ne_of_lt (Heap.lt_size hx)
  split
  · rename_i c hcd
    exact absurd hcd (hnc c)
  · refine wpAny_bind (wpAny_alloc ?_)
    refine wpAny_bind (wpAny_update hx₁ ?_)
    refine wpAny_pure ?_
    have hgd : ((h.push { cls := .type "dict", data := .dict #[] }).update x fun o => { cls := o.cls, dict := some h.objs.size, data := o.data, slots := o.slots }).get? h.objs.size
        = some { cls := .type "dict", data := .dict #[] } :=
      (Heap.get?_update_ne _ _ _ _ hxs.symm).trans (Heap.get?_push_at rfl rfl)
    have hnd : ((h.push { cls := .type "dict", data := .dict #[] }).update x fun o => { cls := o.cls, dict := some h.objs.size, data := o.data, slots := o.slots }).Ns h.objs.size (fun _ => none) :=
      ⟨_, #[], _, hgd, rfl, fun e he => absurd he (by simp), fun _ => rfl⟩
    show wpAny _ _ (storeInDict h.objs.size (.str name tk) name v) _ _ _
    unfold storeInDict newKeyGuard
    refine wpAny_bind (wpAny_pure (wpAny_bind (wpAny_nsSet1 (Heap.Ns1.of_empty hnd) fun h' hn' hs => ?_)))
    obtain ⟨oD, esD, epD, hoD, hdD, hcD⟩ := hn'.count (Within.cons name v Within.nil)
    refine wpAny_bind (wpAny_lookBehind hoD (by rw [hdD]; exact pastItsLine_dict (Nat.le_trans hcD (by rw [List.length_cons, List.length_nil, sizeLine_eq]; omega))) ?_)
    refine wpAny_pure (hq h' _ ⟨h.objs.size, (hs.2 x hxs).trans (Heap.get?_update_self _ hx₁ ?_)⟩ fun b ob hbx hb => ?_)
    · obtain ⟨oc, od, odt, osl⟩ := o
      cases odt <;> first | rfl | exact hfr
    · exact (hs.2 b (Nat.ne_of_lt (Heap.lt_size hb))).trans ((Heap.get?_update_ne _ _ _ _ hbx).trans (Heap.get?_push_of_some _ hb))

theorem clsIn_of {K : Frag} {C : Addr} {oc : Value} {od : Option Addr} {cd : ClassData} {sl : Array (Option Value)} (e : K.lookup C = some ⟨oc, od, .cls cd, sl⟩) : clsIn K C = some cd := by unfold clsIn; rw [e]
structure ExcCls (K : Frag) (C : Addr) : Prop where
  obj : ∃ nm q N bs sn sub ab col dd k0 k1 k2 k3 k5, K.lookup C = some (excClassObj nm q C N bs (.ref 32 :: bm0) true sn sub ab col dd k0 k1 k2 k3 k5 "Exception.__new__")
  init : findIn K (.ref C) "__init__" = some (some (.ref 29))
  told : findIn K (.ref C) "told" = some none
  sa : findIn K (.ref C) "__setattr__" = some (some (.builtin "object.__setattr__"))
theorem told_set {o : Obj} {v : Value} {Q : Unit → Shared → Prop} (Y : ExcCls K C) (X : K.In h) (hx : h.get? x = some o) (hc : o.cls = .ref C) (hdn : o.dict = none) (hnc : ∀ c, o.data ≠ .cls c) (hno : notCls o = true) (hfr : o.isFreed = false)
    (hq : ∀ h' tk', (∃ dx, h'.get? x = some { o with dict := some dx }) → (∀ b ob, b ≠ x → h.get? b = some ob → h'.get? b = some ob) → Q () ⟨h', g, d, tk', os⟩) :
    wpAny (model prog w) A (setAttr (.ref x) "told" v) Q E ⟨h, g, d, t, os⟩ := by
  have SF := F.store_Exception
  obtain ⟨nm, q, N, bs, sn, sub, ab, col, dd, k0, k1, k2, k3, k5, hC⟩ := Y.obj
  have hcd := clsIn_of hC
  have I : InstAt h x o C none := ⟨hx, hc, hno, by rw [hdn]; trivial⟩
  have subO : Looks (model prog w) h (isInstance (.ref x) (.type "object")) true := I.type.andThen (looks_mroIn X (by unfold mroIn; rw [hcd]; simp))
  refine set_plain (s := ⟨h, g, d, t, os⟩) X I Y.sa (codeAny_call_builtin SF.slot.plain SF.entry (@check_slot (model prog w) _ _ _ "object.__setattr__" "object" "__setattr__" (.ref x) [.str "told" t, v] [] _ SF.kind SF.split subO (SF.args _ _ _) ?_))
  refine told_entry X hx hc hdn hnc hfr hcd rfl rfl Y.told fun h' tk' a b => ?_
  exact hq h' tk' a b

/-- UniError.__init__ -/
theorem init29 {w : World} {h0 : Heap} {s : Shared} {o : Obj} {v : Value} {Q : Value → Shared → Prop} (G : Gd w h0) (Y : ExcCls (KF w) C) (hst : h0.StaysIn s.heap) (hdp : A.depth < recursionLimit)
    (hx : s.heap.get? x = some o) (hc : o.cls = .ref C) (hdn : o.dict = none) (hnc : ∀ c, o.data ≠ .cls c) (hno : notCls o = true) (hfr : o.isFreed = false)
    (hq : ∀ h' tk', (∃ dx, h'.get? x = some { o with dict := some dx }) → (∀ b ob, b ≠ x → s.heap.get? b = some ob → h'.get? b = some ob) → Q .none { s with heap := h', toks := tk' }) :
    wpAny (model prog w) A (call (.ref 29) [.ref x, v]) Q E s := by
  have X := G.X.keeps hst
  obtain ⟨mg, mb, T⟩ := G.T
  refine wpAny_call (codeAny_call_def (binds := [("self", .ref x), ("told", v)]) hdp (X 29 _ (by rfl)) rfl (T.nolimit.keeps hst) (codeRec_of X (by rfl)) rfl ?_ ?_ ?_ (fun h₁ hns hk₁ => ?_) rfl rfl rfl)
  · exact BindsTo.of_defaults (T := 22) rfl (X 22 _ (by rfl)) rfl rfl rfl
  · decide
  · exact locs (by rfl)
  refine wpAny_execs_cons (plainObj_wpAny_Assign_Attribute ?_ rfl)
  refine wpAny_Name (wpAny_loadName_local rfl rfl hns (v := v) rfl ?_)
  refine wpAny_Name (wpAny_loadName_local rfl rfl hns (v := .ref x) rfl ?_)
  have hxs : x ≠ s.heap.objs.size := Nat.ne_of_lt (Heap.lt_size hx)
  refine told_set Y (fun b ob e => hk₁ b ob (X b ob e)) (hk₁ _ _ hx) hc hdn hnc hno hfr fun h' tk' a b => ?_
  exact wpAny_execs_nil (hq h' tk' a fun b' ob nb e => b b' ob nb (hk₁ b' ob e))
end
theorem exc57 (w : World) : ExcCls (KF w) 57 := ⟨⟨_, _, _, _, _, _, _, _, _, _, _, _, _, _, by rfl⟩, by rfl, by rfl, by rfl⟩
theorem exc45 (w : World) : ExcCls (KF w) 45 := ⟨⟨_, _, _, _, _, _, _, _, _, _, _, _, _, _, by rfl⟩, by rfl, by rfl, by rfl⟩
end Mine
end
section
set_option Elab.async false
set_option maxRecDepth 100000
open PySem PySem.W PyProof.Rows PySem.SeqAt PySem.Spec
namespace Mine

section
variable {prog : Program} {w : World} {A : Around} {R : Result → Shared → Prop} {E : Value → Shared → Prop} {h : Heap} {g : Array GenState} {d : Drawn} {t : Nat} {os : OsState}
variable {nm q : Str} {C N : Addr} {bs : List Value} {sn : List Str} {sub : List Value} {ab : Bool} {col : Option Bool} {dd : Option Addr} {k0 k1 k2 k3 k5 : Option Value}

noncomputable abbrev excO (nm q : Str) (C N : Addr) (bs : List Value) (sn : List Str) (sub : List Value) (ab : Bool) (col : Option Bool) (dd : Option Addr) (k0 k1 k2 k3 k5 : Option Value) : Obj :=
  excClassObj nm q C N bs (.ref 32 :: bm0) true sn sub ab col dd k0 k1 k2 k3 k5 "Exception.__new__"
theorem hasB {C : Addr} : (Value.ref C :: .ref 32 :: bm0).contains (.type "Exception") = true := by rw [List.contains_cons, List.contains_cons]; rfl

theorem check_new {M : Model} {rest : List Value} {Q : Unit → Shared → Prop} (hC : h.get? C = some (excO nm q C N bs sn sub ab col dd k0 k1 k2 k3 k5))
    (hq : Q () ⟨h, g, d, t, os⟩) : wpAny M A (checkBuiltinCall "Exception.__new__" ⟨.ref C :: rest, []⟩) Q E ⟨h, g, d, t, os⟩ := by
  have F := PySem.F.excBase_Exception
  have hcont := hasB (C := C)
  have hstar := F.noStar
  simp only [checkBuiltinCall, F.newKind, F.newSplit, F.newRow]
  repeat (first | refine wpAny_loadPart_at hC ?_ | (refine wpAny_isSubtype_exc hC ?_; rw [hcont]) | refine wpAny_staticBase_exc hC ?_ | refine wpAny_madeBy_exc hC ?_ | simp only [bne_self_eq_false, Bool.false_eq_true, if_false] | wp_step)
  exact hq

theorem exc_new {v : Value} (hC : h.get? C = some (excO nm q C N bs sn sub ab col dd k0 k1 k2 k3 k5))
    (hq : R (.ok (.ret (.ref (h.objs.size + 1)))) ⟨(h.push { cls := .type "tuple", data := .seq [v].toArray }).push
      { cls := .ref C, data := .fields #[.ref h.objs.size, .none, .none, .none, .bool false, .none] }, g, d, t, os⟩) :
    codeAny (model prog w) A (.builtin "Exception.__new__" ⟨.ref C :: [v], []⟩) R ⟨h, g, d, t, os⟩ := by
  have F := PySem.F.excBase_Exception
  have hends := F.ends
  have hcB := hasB (C := C)
  have hcA : (Value.ref C :: .ref 32 :: bm0).contains (.type "AttributeError") = false := by rw [List.contains_cons, List.contains_cons]; rfl
  have hcN : (Value.ref C :: .ref 32 :: bm0).contains (.type "NameError") = false := by rw [List.contains_cons, List.contains_cons]; rfl
  refine codeAny_builtinAt F.entry ?_
  unfold Builtin.«BaseException.__new__»
  refine PySem.wpAt_bind ?_
  show PySem.wpAt _ _ _ (stack >>= _) _ _ _
  refine PySem.wpAt_bind (PySem.wpAt_stack fun p below => wpAt_of_wpAny ?_)
  wp_walk
  refine wpAt_of_wpAny ?_
  rw [F.owner]
  repeat (first | with_reducible refine wpAny_madeHere_exc F.canon hC ?_ | with_reducible refine wpAny_loadPart_at hC ?_ | (with_reducible refine wpAny_isSubtype_exc hC ?_; first | rw [hcB] | rw [hcA] | rw [hcN]) | wp_step)
  show R _ _
  rw [Heap.size_push]
  exact hq

/-- a new exception -/
structure NewExc (h h' : Heap) (e C : Addr) : Prop where
  keeps : ∀ b o, h.get? b = some o → h'.get? b = some o
  new : h.get? e = none
  there : ∃ t dx, h'.get? e = some { cls := .ref C, dict := some dx, data := .fields #[.ref t, .none, .none, .none, .bool false, .none] }

theorem type_call {h0 : Heap} {v : Value} {Q : Fin → Shared → Prop} (G : Gd w h0) (Y : ExcCls (KF w) C) (hst : h0.StaysIn h) (hdp : A.depth < recursionLimit)
    (hC : h.get? C = some (excO nm q C N bs sn sub ab col dd k0 k1 k2 k3 k5))
    (hq : ∀ h' e tk', NewExc h h' e C → Q (.done (.ret (.ref e))) ⟨h', g, d, tk', os⟩) :
    wpAny (model prog w) A (Builtin.«type.__call__» ⟨.ref C :: [v], []⟩) Q E ⟨h, g, d, t, os⟩ := by
  have F := PySem.F.excBase_Exception
  have X := G.X.keeps hst
  repeat (first | with_reducible refine wpAny_loadPart_at hC ?_ | with_reducible refine wpAny_madeBy_exc hC ?_ | wp_step)
  refine codeAny_call_builtin_code (Code.quiet_builtin _ F.quiet) (check_new hC ?_)
  refine exc_new hC ?_
  show wpAny _ _ _ _ _ _
  have kp : ∀ b o, h.get? b = some o → ((h.push { cls := .type "tuple", data := .seq [v].toArray }).push { cls := .ref C, data := .fields #[.ref h.objs.size, .none, .none, .none, .bool false, .none] }).get? b = some o := fun b o e => Heap.get?_push_of_some _ (Heap.get?_push_of_some _ e)
  have hC₁ := kp _ _ hC
  have hget : ((h.push { cls := .type "tuple", data := .seq [v].toArray }).push
      { cls := .ref C, data := .fields #[.ref h.objs.size, .none, .none, .none, .bool false, .none] }).get? (h.objs.size + 1) = some
      { cls := .ref C, data := .fields #[.ref h.objs.size, .none, .none, .none, .bool false, .none] } := by heap_get
  have hcC : (Value.ref C :: .ref 32 :: bm0).contains (.ref C) = true := by simp
  unfold isInstance
  repeat (first | with_reducible refine wpAny_loadPart_at hget ?_ | (with_reducible refine wpAny_isSubtype_exc hC₁ ?_; rw [hcC]) | wp_step)
  have X₁ : (KF w).In _ := fun b o e => kp b o (X b o e)
  refine (looks_findIn X₁ Y.init).here ?_
  refine wpAny_holding (wpAny_bind ((bind_fn X₁ _ (by rfl)).here ?_))
  refine wpAny_bind (init29 (o := { cls := .ref C, data := .fields #[.ref h.objs.size, .none, .none, .none, .bool false, .none] }) G Y (fun b o e => kp b o (hst b o e)) hdp hget rfl rfl (fun c e => by cases e) rfl rfl fun h' tk' a b => ?_)
  wp_walk
  obtain ⟨dx, hdx⟩ := a
  refine hq h' _ tk' ⟨fun b' o e => b b' o (fun q => ?_) (kp b' o e), ?_, h.objs.size, dx, hdx⟩
  · rw [q] at e; have := Heap.lt_size e; exact absurd this (Nat.not_lt.mpr (Nat.le_succ _))
  · exact Heap.get?_none_of_le (Nat.le_succ _)

theorem check_tc {M : Model} {rest : List Value} {Q : Unit → Shared → Prop} (hC : h.get? C = some (excO nm q C N bs sn sub ab col dd k0 k1 k2 k3 k5))
    (hq : Q () ⟨h, g, d, t, os⟩) : wpAny M A (checkBuiltinCall "type.__call__" ⟨.ref C :: rest, []⟩) Q E ⟨h, g, d, t, os⟩ := wpAny_check_type_call_sub hC hq
theorem exc_call {h0 : Heap} {v : Value} {Q : Value → Shared → Prop} (G : Gd w h0) (Y : ExcCls (KF w) C) (hst : h0.StaysIn h) (hdp : A.depth + 1 < recursionLimit)
    (hq : ∀ h' e tk', NewExc h h' e C → Q (.ref e) ⟨h', g, d, tk', os⟩) : wpAny (model prog w) A (call (.ref C) [v]) Q E ⟨h, g, d, t, os⟩ := by
  obtain ⟨nm, q, N, bs, sn, sub, ab, col, dd, k0, k1, k2, k3, k5, hK⟩ := Y.obj
  have hC := G.X.keeps hst _ _ hK
  have f1 := tc_lookup
  have f2 := tc_bind (.ref C)
  have hT : (⟨h, g, d, t, os⟩ : Shared).TypeIs (.ref C) "type" := ⟨_, hC, rfl⟩
  refine wpAny_call (codeAny_of_tree ?_)
  show wpAny _ _ (callAny (.ref C) _) _ _ _
  repeat (any_goals (first | assumption | with_reducible refine wpAny_loadPart_at hC ?_ | wp_step))
  refine ⟨rfl, ?_⟩
  refine codeAny_call_builtin_at (Code.quiet_builtin _ (by decide +kernel)) entry_typeCall (check_tc hC (type_call G Y hst ?_ hC fun h' e tk' hm => ?_))
  · exact hdp
  · exact hq h' e tk' hm

theorem raise_made {env : Env} {s : Shared} {x : Sem Value} {Q : Flow → Shared → Prop} (hh : A.handled = none) {M : Model}
    (hx : wpAny M A x (fun v s₁ => ∃ e oe, v = .ref e ∧ s₁.heap.get? C = some (excO nm q C N bs sn sub ab col dd k0 k1 k2 k3 k5) ∧
      s₁.heap.get? e = some oe ∧ oe.cls = .ref C ∧ (∃ t dx, oe = { cls := .ref C, dict := some dx, data := .fields #[.ref t, .none, .none, .none, .bool false, .none] }) ∧ E (.ref e) s₁) E s) :
    wpAny M A (raiseStmt env (some x) none) Q E s := by
  have hcB : (Value.ref C :: .ref 32 :: bm0).contains (.type "BaseException") = true := by rw [List.contains_cons, List.contains_cons]; rfl
  unfold raiseStmt
  refine wpAny_bind (wpAny_mono hx (fun v s₁ h₁ => ?_) fun _ _ x => x)
  obtain ⟨e, oe, rfl, hC, he, hc, ⟨t, dx, rfl⟩, hE⟩ := h₁
  obtain ⟨hp, g, d, tk, os⟩ := s₁
  repeat (first | with_reducible refine wpAny_loadPart_at he ?_ | with_reducible refine wpAny_loadPart_at hC ?_ | (with_reducible refine wpAny_isSubtype_exc hC ?_; rw [hcB]) | wp_step)
  exact wpAny_raiseNew_none hh hE
end

section
variable {prog : Program} {w : World} {h0 : Heap} {H : Nat} {sc : Scope}
/-- raise C(e) -/
theorem SemS.raise {C : Addr} {x : Str} {np cpos pos : Pos} {e : Expr} {φ : EM Dat} (G : Gd w h0) (Y : ExcCls (KF w) C) (hH : 2 ≤ H)
    (hx : sc.names.lookup x = some .globalImplicit) (hg : nsIn (KF w) mainGlobals x = some (some (.ref C))) (hd : (x == ("__debug__" : Str)) = false) (a : SemE prog w h0 true H sc e φ)
    (he : ∀ env, starEach [e] env = [(false, eval e env)] := by intro _; rfl) :
    SemS prog w h0 true H sc (.Raise (some (.Call (.Name x np) [e] [] cpos)) none pos) (SM.ofE φ fun _ _ => some (.raise C)) := by
  intro c A l ρ s Q E K hA R hE hfe o ho hP
  obtain ⟨nm, q, N, bs, sn, sub, ab, col, dd, k0, k1, k2, k3, k5, hK⟩ := Y.obj
  rw [arm_exec_Raise]
  refine wpAny_bind (wpAny_standAt (raise_made (C := C) (hA.handled rfl) (wpAny_bind (wpAny_mono (Q := fun v s₁ => ∃ e oe, v = .ref e ∧ s₁.heap.get? C = some (excO nm q C N bs sn sub ab col dd k0 k1 k2 k3 k5) ∧
      s₁.heap.get? e = some oe ∧ oe.cls = .ref C ∧ (∃ t dx, oe = { cls := .ref C, dict := some dx, data := .fields #[.ref t, .none, .none, .none, .bool false, .none] }) ∧ E (.ref e) s₁) (wpAny_Call_ofName (glob_at G K R hx hg hd ?_)) (fun v s₃ h₃ => wpAny_bind (wpAny_standAt (wpAny_pure h₃))) fun _ _ x => x))))
  unfold callWith
  rw [he]
  refine wpAny_bind (wpAny_holding (Calls.evalArgs_plain (Calls.spliced_cons (a.useS K hA R hE ho hP fun d v s₁ ho₁ G₁ R₁ hv hP₁ => Calls.spliced_nil (wpAny_bind (wpAny_standAt ?_))))))
  obtain rfl : Out.raise C = o := Option.some.inj ho₁
  have hC := G.X.keeps R₁.stays _ _ hK
  obtain ⟨hp, g, d', tk, os⟩ := s₁
  refine wpAny_bind (wpAny_keeperOf_exc hC ?_)
  refine wpAny_bind (exc_call G Y R₁.stays (by have := hA.depth; omega) fun h' e tk' hm => wpAny_bind (wpAny_holding (wpAny_point (wpAny_pure ?_))))
  obtain ⟨t, dx, ht⟩ := hm.there
  refine ⟨e, _, rfl, hm.keeps _ _ hC, ht, rfl, ⟨t, dx, rfl⟩, hP₁ e _ rfl rfl ?_⟩
  have R₂ : Rel h0 c l ρ h' := R₁.of_ext K (.of_keeps hm.keeps)
  obtain ⟨m, hn, _⟩ := R₂.ns
  refine ⟨R₂.stays, R₂.frs, R₂.ext, ⟨m, hn⟩, fun p hp => (R₂.pin p hp).drop, R₂.xin, fun p hp => (R₂.see p hp).mono (vw_sub hid_locals), R₂.min, .inl ⟨_, _, _, ht, rfl, rfl, rfl, rfl, ?_, ?_, fun p hp q => ?_, fun a ha q => ?_, fun p hp => ?_, fun a ha q => ?_⟩⟩
  · cases e1 : h0.get? e with
    | none => rfl
    | some ob => have e2 := hm.new.symm.trans (R₁.stays _ _ e1); cases e2
  · cases e1 : c.g.get? e with
    | none => rfl
    | some ob =>
      by_cases hx : e ∈ c.X
      · obtain ⟨ob', e2⟩ := R₁.xin e hx
        have e3 := hm.new.symm.trans e2; cases e3
      · obtain ⟨⟨_, e2⟩, _⟩ := R₁.ext e ob hx e1
        have e3 := hm.new.symm.trans e2; cases e3
  · have e2 := (R₁.pin p hp).1
    rw [q] at e2
    have e3 := hm.new.symm.trans e2; cases e3
  · obtain ⟨ob', e2⟩ := R₁.xin a ha
    rw [q] at e2
    have e3 := hm.new.symm.trans e2; cases e3
  · refine (R₁.see p hp).mono fun b ob e1 => vw_at (hm.keeps b ob (vw_get e1)) fun q => ?_
    rcases List.mem_cons.mp q with q | q
    · have e2 := vw_get e1
      rw [q] at e2
      have e3 := hm.new.symm.trans e2; cases e3
    · exact vw_not e1 (hid_locals _ q)
  · obtain ⟨ob', e2⟩ := R₁.min a ha
    rw [q] at e2
    have e3 := hm.new.symm.trans e2; cases e3
end
end Mine
end
section
set_option Elab.async false
set_option maxRecDepth 100000
open PySem PySem.W PyProof.Rows PySem.SeqAt PySem.Spec
namespace Mine

noncomputable def St.empty : St := { loc := fun _ => none }

section
variable {prog : Program} {w : World} {h0 : Heap} {H : Nat} {sc : Scope} {c : Fx} {A : Around} {l : Addr} {ρ : St} {s : Shared} {E : Value → Shared → Prop}

theorem look_sound {e C : Addr} {Q : Unit → Shared → Prop} (hfe : c.fenv = c.env) (K : Fok h0 c sc) (hA : A.frames = some (c.fenv :: c.fs)) (hT : Thrown h0 c e C s.heap)
    (hQ : ∀ h' B a0 L, c.env.frame = some L → Heap.HeldW B (c.fenv :: c.fs) e (.ref C) a0 L h' → Base h0 c B → s.heap.UpToSlots h' → Q () { s with heap := h' }) :
    wpAny (model prog w) A (noteFrame (.ref e) c.env) Q E s := by
  obtain ⟨t1, t2, t3, ⟨m, tn⟩, t4, t5, t6, t7, t⟩ := hT
  obtain ⟨FL, hf, hf', hg⟩ := K.frame
  rcases t with ⟨oe, vs, a0, he, hc, hd, h1, h2, h3, h4, h5, h6, h7, h8⟩ | ⟨B, a0, hB, hb⟩
  · let B := hideAll s.heap (e :: addrs (c.fenv :: c.fs))
    have kB : B.StaysIn s.heap := fun b o q => of_hideAll _ q
    have hin : ∀ env ∈ (c.fenv :: c.fs), ∀ b, env.frame = some b → b ∈ (e :: addrs (c.fenv :: c.fs)) := fun env he b hb => .tail _ (List.mem_filterMap.mpr ⟨env, he, hb⟩)
    have get : ∀ b o, s.heap.get? b = some o → b ≠ e → b ∉ addrs (c.fenv :: c.fs) → B.get? b = some o := fun b o q n1 n2 => hideAll_get _ q fun z => by
      rcases List.mem_cons.mp z with z | z
      · exact n1 z
      · exact n2 z
    have hb : Base h0 c B := by
      refine ⟨fun b o q => get b o (t1 b o q) (fun z => ?_) fun z => ?_, fun b o hX q n => get b o ((t3 b o hX q).2 fun z => n ?_) (fun z => ?_) n, fun p hp => get _ _ (t4 p hp).1 (h5 p hp) (t4 p hp).2.2.1, fun a ha => ?_, fun p hp => (h7 p hp).mono fun b o q => vw_at (get b o (vw_get q) (fun z => vw_not q (z ▸ .head _)) fun z => vw_not q (.tail _ (hid_frames z))) fun z => vw_not q (.tail _ z), fun a ha => ?_⟩
      · rw [z, h3] at q; cases q
      · rw [frames_none t2 z] at q; cases q
      · unfold addrs at z ⊢
        rw [List.filterMap_cons]
        split
        · exact z
        · exact List.mem_cons_of_mem _ z
      · rw [z, h4] at q; cases q
      · obtain ⟨o, ho⟩ := t5 a ha
        exact ⟨o, get a o ho (h6 a ha) (K.XF a ha)⟩
      · by_cases hm : a ∈ addrs (c.fenv :: c.fs)
        · exact .inl hm
        · obtain ⟨o, ho⟩ := t7 a ha
          exact .inr ⟨o, get a o ho (h8 a ha) hm⟩
    unfold noteFrame
    simp only [hf']
    refine wpAny_bind (wpAny_field he hd h1 ?_)
    rw [if_neg (by decide)]
    have hsz : 1 < vs.size := (Array.getElem?_eq_some_iff.mp h1).1
    rw [← hfe]
    refine wpAny_entryW (base := B) (a0 := a0) hA (funFrames_hide t2 hin) hf he kB (hideAll_none _ (.head _)) hd hsz h2 fun h' hN => ?_
    obtain ⟨k1, k2, k3, k4⟩ := hN
    rw [hc] at k3
    exact hQ h' B a0 FL hf' ⟨k1, hideAll_none _ (.head _), k2, k3⟩ hb k4
  · rw [hfe] at hB hA
    refine wpAny_looks_onW hA hf' hB fun h' hH hu => ?_
    rw [← hfe] at hH
    exact hQ h' B a0 FL hf' hH hb hu

/-- where an exception has been caught, only what the caller saw is known -/
theorem Rel.after {e C : Addr} {h h' B : Heap} {a0 : Value} (K : Fok h0 c sc) (hT : Thrown h0 c e C h) (hF : Heap.FlyingW B (c.fenv :: c.fs) e (.ref C) a0 h') (hb : Base h0 c B) (hu : h.UpToSlots h') : Rel h0 c c.env.locals St.empty h' := by
  obtain ⟨t1, t2, t3, ⟨m, tn⟩, t4, t5, t6, t7, _⟩ := hT
  obtain ⟨FL, hf, hf', hg⟩ := K.frame
  refine ⟨fun b o q => hF.1 b o (hb.st b o q), funFrames_base hb.st hF.2.2.1, fun b o hX q => ?_, fun _ => rfl, fun p hp => ?_, fun a ha => ?_, fun p hp => ?_, fun a ha => ?_, m, hu.ns tn, fun i d q => (by cases q), fun i ds q => (by cases q), fun i b wt pl q => (by cases q)⟩
  · obtain ⟨⟨sl, e1⟩, k⟩ := t3 b o hX q
    by_cases hm : b ∈ addrs (c.fenv :: c.fs)
    · obtain ⟨_, o', ho', hn'⟩ := t2.mem hm
      rw [e1] at ho'; cases ho'
      obtain ⟨sl', e2⟩ := hu b _ e1 hn'
      refine ⟨⟨sl', e2⟩, fun n => ?_⟩
      unfold addrs at hm n
      rw [List.filterMap_cons, hf] at hm
      rcases List.mem_cons.mp hm with hm | hm
      · rw [hm, hg] at q; cases q
      · exact absurd hm n
    · have e2 := hF.1 b o (hb.g b o hX q hm)
      exact ⟨⟨o.slots, e2⟩, fun _ => e2⟩
  · exact ⟨hF.1 _ _ (hb.p p hp), (t4 p hp).2⟩
  · obtain ⟨o, ho⟩ := hb.x a ha
    exact ⟨o, hF.1 _ _ ho⟩
  · exact (hb.v p hp).mono fun b o q => vw_at (hF.1 b o (vw_get q)) (vw_not q)
  · rcases hb.m a ha with hm | ⟨o, ho⟩
    · obtain ⟨_, o, ho, _⟩ := hF.2.2.1.mem hm
      exact ⟨o, ho⟩
    · exact ⟨o, hF.1 _ _ ho⟩

noncomputable def tryM (β : SM) (C : Addr) (η : SM) : SM := fun ρ => match β ρ with
  | some (.raise C') => if C' = C then (match η St.empty with
    | some (.raise _) => none
    | o => o) else none
  | o => o
theorem SemS.try {C : Addr} {x : Str} {np hp pos : Pos} {body suite : List Stmt} {b₀ : Stmt} {β η : SM} (G : Gd w h0) (Y : ExcCls (KF w) C)
    (hx : sc.names.lookup x = some .globalImplicit) (hg : nsIn (KF w) mainGlobals x = some (some (.ref C))) (hd : (x == ("__debug__" : Str)) = false) (hb : SemB prog w h0 true H sc body β) (hs : SemB prog w h0 false H sc (b₀ :: suite) η) :
    SemS prog w h0 true H sc (.Try body [.ExceptHandler (some (.Name x np)) none (b₀ :: suite) hp] [] [] pos) (tryM β C η) := by
  intro c A l ρ s Q E K hA R hE hfe o ho hP
  obtain ⟨nm, q, N, bs, sn, sub, ab, col, dd, k0, k1, k2, k3, k5, hK⟩ := Y.obj
  refine wpAny_Try_except ?_
  unfold tryM at ho
  cases hβ : β ρ with
  | none => rw [hβ] at ho; cases ho
  | some o₁ =>
    rw [hβ] at ho
    refine hb c A l ρ s _ _ K hA R PassesOwn.looking hfe o₁ hβ ?_
    cases o₁ with
    | next ρ' =>
      obtain rfl := Option.some.inj ho
      exact fun l' s' g k R' => wpAny_execs_nil (hP l' s' g k R')
    | brk ρ' =>
      obtain rfl := Option.some.inj ho
      exact fun l' s' g k R' => hP l' s' g k R'
    | ret d =>
      obtain rfl := Option.some.inj ho
      exact fun v s' g k a b => hP v s' g k a b
    | raise C' =>
      dsimp only at ho
      split at ho <;> first | (cases ho; done) | skip
      rename_i hC
      subst hC
      intro e s₁ g₁ k₁ hT
      have hP₁ := hP.of g₁ k₁
      refine look_sound hfe K hA.frames hT fun h₄ B a0 L hL hheld₄ hb hsm₄ => ?_
      refine wpAny_landsW hheld₄ fun h₅ hheld hsm₅ => ?_
      have R₅ := Rel.after K hT hheld hb (hsm₄.trans hsm₅)
      obtain ⟨ob, hob, hobc⟩ := hheld.there
      refine wpAny_handleBy_cons (codeAny_handlers_test (glob_at (s := { s₁ with heap := h₅ }) G K R₅ hx hg hd ?_)) (by intro q; cases q)
      have hCo := G.X.keeps R₅.stays _ _ hK
      refine wpAny_excMatches_sub_self hCo hob hobc (by decide) (codeAny_handlers_suite ?_)
      refine lands_againW (s := { s₁ with heap := h₅ }) hheld fun h₆ hfl₆ hsm₆ => ?_
      have R₆ := Rel.after K hT hfl₆ hb ((hsm₄.trans hsm₅).trans hsm₆)
      refine wpAny_noRaise ?_
      cases hη : η St.empty with
      | none => rw [hη] at ho; cases ho
      | some o₂ =>
        rw [hη] at ho
        have hA' : AOk false H c (A.mark (some (.ref e))) := ⟨hA.frames, hA.depth, hA.units, fun q => by cases q⟩
        refine hs c (A.mark (some (.ref e))) c.env.locals St.empty { s₁ with heap := h₆ } _ _ K hA' R₆ PassesOwn.never hfe o₂ hη ?_
        cases o₂ with
        | next ρ' =>
          obtain rfl := Option.some.inj ho
          exact fun l' s' g k R' => hP₁ l' s' g k R'
        | brk ρ' =>
          obtain rfl := Option.some.inj ho
          exact fun l' s' g k R' => hP₁ l' s' g k R'
        | ret d =>
          obtain rfl := Option.some.inj ho
          exact fun v s' g k a b => hP₁ v s' g k a b
        | raise C' => cases ho
end
end Mine
end
section
set_option Elab.async false
set_option maxRecDepth 100000
open PySem PySem.W PyProof.Rows PySem.SeqAt PySem.Spec
namespace Mine

noncomputable def onePt (i : Nat) (d : Dat) (base : Nat → Option Dat) : St := { loc := fun j => if j = i then some d else base j }
noncomputable def compM (i : Nat) (base : Nat → Option Dat) (τ : EM Bool) (φ : EM Dat) : List Dat → Option (List Dat)
  | [] => some []
  | d :: ds => match τ (onePt i d base) with
    | some (.ok false) => compM i base τ φ ds
    | some (.ok true) => (match φ (onePt i d base) with
       | some (.ok y) => (compM i base τ φ ds).map (y :: ·)
       | _ => none)
    | _ => none
noncomputable abbrev testsOf (ifs : List Expr) (env : Env) : Sem Bool := forIn ifs true fun c r => if r = true then do let ok ← isTrue c env (eval c env); pure (ForInStep.yield ok) else pure (ForInStep.yield r)
noncomputable def SemF (prog : Program) (w : World) (h0 : Heap) (q : Bool) (H : Nat) (sc : Scope) (ifs : List Expr) (τ : EM Bool) : Prop := Sem0 prog w h0 q H sc (testsOf ifs) (fun _ b v => v = b) τ

section
variable {prog : Program} {w : World} {h0 : Heap} {q : Bool} {H : Nat} {sc : Scope} {c : Fx} {A : Around} {l : Addr} {ρ : St} {s : Shared} {E : Value → Shared → Prop}
theorem SemF.nil : SemF prog w h0 q H sc [] (EM.pure true) := by
  intro c A l ρ s Q E K hA R hE r hr hQ hX
  obtain rfl : Except.ok true = r := Option.some.inj hr
  exact wpAny_tests_nil (hQ _ rfl _ _ (.refl _ _) rfl)
theorem SemF.one {t : Expr} {τ : EM Bool} (a : SemT prog w h0 q H sc t τ) : SemF prog w h0 q H sc [t] τ := by
  intro c A l ρ s Q E K hA R hE r hr hQ hX
  exact wpAny_tests_one (a c A l ρ s Q E K hA R hE r hr hQ hX)

theorem self_sound {it : Addr} {o : Obj} {ds : List Dat} {M : List Addr} {g : Dat × Value} {Q : Value → Shared → Prop} (ho : s.heap.get? it = some o) (h : ItOk g (vw s.heap M) o ds) (hQ : Q (.ref it) s) : wpAny (model prog w) A (pyIter (.ref it)) Q E s := by
  rcases h with ⟨a, all, i, hg, h1, h2, h3, h4⟩ | ⟨a, all, i, hg, h1, h2, h3, h4⟩ | ⟨b, t, i, hg, h1, h2, h3⟩ | ⟨x, step, n, hg, rfl, h2⟩
  · exact wpAny_pyIter_listiter ⟨o, ho, h1, h2⟩ hQ
  · exact wpAny_pyIter_tupleiter ⟨o, ho, h1, h2⟩ hQ
  · exact PySem.W.KBw.pyIter_self (b := b) (t := t) (i := i) ⟨o, ho, h1, h2⟩ hQ
  · exact wpAny_pyIter_rangeiter ho hQ

/-- the frame of a comprehension -/
noncomputable def Fx.comp (c : Fx) (l : Addr) (cenv : Env) (it D : Addr) : Fx := { env := cenv, fenv := c.fenv, fs := c.fs, g := c.g, X := c.X, M := c.env.locals :: l :: it :: D :: pm c }
theorem mem_hid_comp {cenv : Env} {it D a : Addr} : a ∈ hid (c.comp l cenv it D) cenv.locals ↔ a = cenv.locals ∨ a = it ∨ a = D ∨ a ∈ hid c l := by
  have e : hid (c.comp l cenv it D) cenv.locals = cenv.locals :: cenv.locals :: (((c.env.locals :: l :: it :: D :: pm c) ++ []) ++ addrs (c.fenv :: c.fs)) := rfl
  have p : ((c.env.locals :: l :: it :: D :: pm c) ++ addrs (c.fenv :: c.fs)).Perm (it :: D :: hid c l) :=
    (List.perm_append_comm (l₁ := [c.env.locals, l]) (l₂ := [it, D])).append_right (pm c ++ addrs (c.fenv :: c.fs))
  rw [e, List.append_nil]
  have q := p.mem_iff (a := a)
  rw [List.mem_cons, List.mem_cons, q, List.mem_cons, List.mem_cons]
  exact ⟨fun h => h.elim .inl id, .inr⟩
theorem Rel.notX {a : Addr} {h : Heap} (K : Fok h0 c sc) (R : Rel h0 c l ρ h) (ha : a ∈ c.env.locals :: l :: pm c) : a ∉ c.X := by
  obtain ⟨m, hn, _, a2, _⟩ := R.ns
  rcases List.mem_cons.mp ha with rfl | ha
  · exact K.LX
  rcases List.mem_cons.mp ha with rfl | ha
  · cases ho : ρ.own with
    | none => rw [R.lb ho]; exact K.LX
    | some p => obtain ⟨i, ds⟩ := p; obtain ⟨_, _, _, _, _, _, _, _, _, _, _, _, _, h⟩ := a2 i ds ho; exact h
  · rcases List.mem_append.mp ha with ha | ha
    · exact (K.Mb a ha).2
    · obtain ⟨p, hp, rfl⟩ := List.mem_map.mp ha
      exact (R.pin p hp).2.1
theorem Rel.fresh_g {a : Addr} {h : Heap} (R : Rel h0 c l ρ h) (ha : h.get? a = none) : c.g.get? a = none ∧ h0.get? a = none ∧ a ∉ c.X ∧ a ∉ addrs (c.fenv :: c.fs) := by
  have nX : a ∉ c.X := fun q => by obtain ⟨o, e⟩ := R.xin a q; have := ha.symm.trans e; cases this
  refine ⟨?_, ?_, nX, fun q => ?_⟩
  · cases e : c.g.get? a with
    | none => rfl
    | some o => obtain ⟨⟨_, e2⟩, _⟩ := R.ext a o nX e; have := ha.symm.trans e2; cases this
  · cases e : h0.get? a with
    | none => rfl
    | some o => have := ha.symm.trans (R.stays a o e); cases this
  · obtain ⟨_, o, e, _⟩ := R.frs.mem q
    have := ha.symm.trans e; cases this

/-- the names of the outer frame that the comprehension reads -/
noncomputable def capOf (cp : Option (Nat × Nat × Str)) (ρ : St) : Nat → Option Dat := fun jj => match cp with
  | some (k, j, _) => if jj = k then ρ.loc j else none
  | none => none
noncomputable def CapOk (cp : Option (Nat × Nat × Str)) (sc scc : Scope) (env : Env) (cl : List (Str × Addr)) : Prop := match cp with
  | none => True
  | some (k, j, n) => nm scc k = some n ∧ nm sc j = some n ∧ sc.names.lookup n = some .cell ∧ (scc.names.lookup n = some .cell ∨ scc.names.lookup n = some .free) ∧ (∀ a, env.cells.lookup n = some a → cl.lookup n = some a)

theorem comp_rel {h₂ h : Heap} {it C D : Addr} {o : Obj} {scc : Scope} {cenv : Env} {cl : List (Str × Addr)} {cp : Option (Nat × Nat × Str)} {i : Nat} {x : Str} {d : Dat} {v : Value} {m : Str → Option Value}
    (K : Fok h0 c sc) (R₂ : Rel h0 (c.pinned it o) l ρ h₂) (hn : it ∉ c.P.map (·.1)) (hoc : ∀ v, o.data ≠ .cell v) (hC : h₂.get? C = none) (hD : h₂.get? D = none) (hCD : C ≠ D)
    (hL : cenv.locals = C) (hcl : cenv.cells = cl) (hcs : cenv.scope = scc) (x₁ : Ext [it] (c.fenv :: c.fs) h₂ h) (hit : ∃ o', h.get? it = some o') (hDo : ∃ o', h.get? D = some o') (hns : h.Ns C m)
    (hx : nm scc i = some x) (hxl : scc.names.lookup x = some .local) (hcap : CapOk cp sc scc c.env cl) (hci : ∀ k j n, cp = some (k, j, n) → k ≠ i) (hm : m x = some v) (hv : Rep (vw h (hid (c.comp l cenv it D) C)) d v) :
    Rel h0 (c.comp l cenv it D) C (onePt i d (capOf cp ρ)) h := by
  have R := Rel.pastX (P' := c.P) K hn R₂ x₁ hoc (.inl rfl)
  have R : Rel h0 c l ρ h := R
  have nC : C ≠ it := fun q => by have e := (R₂.pin _ (.head _)).1; rw [← q] at e; have := hC.symm.trans e; cases this
  refine ⟨R.stays, R.frs, R.ext, fun _ => hL.symm, fun p hp => (by cases hp), R.xin, fun p hp => (by cases hp), fun a ha => ?_, m, by rw [show (c.comp l cenv it D).env.locals = C from hL]; exact hns, fun j e he => ?_, fun j ds q => (by cases q), fun j b wt pl q => (by cases q)⟩
  · have ha : a ∈ c.env.locals :: l :: it :: D :: pm c := ha
    simp only [List.mem_cons] at ha
    rcases ha with rfl | rfl | rfl | rfl | ha
    · exact (R.hidIn K (.head _)).2
    · exact (R.hidIn K (.tail _ (.head _))).2
    · exact hit
    · exact hDo
    · exact (R.hidIn K (.tail _ (.tail _ ha))).2
  · have he : (if j = i then some d else capOf cp ρ j) = some e := he
    by_cases hj : j = i
    · rw [if_pos hj] at he
      cases he
      subst hj
      refine ⟨x, by rw [show (c.comp l cenv it D).env.scope = scc from hcs]; exact hx, .inl ⟨by rw [Env.kindOf, show (c.comp l cenv it D).env.scope = scc from hcs]; exact hxl, v, hm, hv⟩⟩
    · rw [if_neg hj] at he
      cases cp with
      | none => cases he
      | some p =>
      obtain ⟨k, j', n⟩ := p
      have he : (if j = k then ρ.loc j' else none) = some e := he
      split at he <;> first | (cases he; done) | skip
      rename_i hjk
      obtain ⟨c1, c2, c3, c4, c5⟩ := hcap
      obtain ⟨m₀, hn₀, a1, _, _⟩ := R₂.ns
      obtain ⟨y, hy, hl⟩ := a1 j' e he
      have hy : nm c.env.scope j' = some y := hy
      rw [K.is, c2] at hy
      cases hy
      refine ⟨n, by rw [show (c.comp l cenv it D).env.scope = scc from hcs, hjk]; exact c1, ?_⟩
      rcases hl with ⟨kk, _⟩ | ⟨kk, a, ob, v', hl, ho, hd, hs, hnf, hLn, hX, hr⟩
      · have kk : c.env.kindOf n = some .local := kk
        rw [Env.kindOf, K.is, c3] at kk; cases kk
      · have na : a ≠ it := fun q => by have e := (R₂.pin _ (.head _)).1; rw [← q, ho] at e; cases e; exact hoc _ hd
        refine .inr ⟨by rw [Env.kindOf, show (c.comp l cenv it D).env.scope = scc from hcs]; exact c4, a, ob, v', by rw [show (c.comp l cenv it D).env.cells = cl from hcl]; exact c5 a hl, (x₁ a ob (by simpa using na) ho).2 hnf, hd, hs, hnf, fun q => ?_, hX, hr.mono fun b ob' e1 => ?_⟩
        · rw [show (c.comp l cenv it D).env.locals = C from hL] at q
          rw [q] at ho; have := hC.symm.trans ho; cases this
        · have nb := vw_not e1
          have nit : b ≠ it := fun q => nb (mem_hid_pinned.mpr (.inl q))
          refine vw_at ((x₁ b ob' (by simpa using nit) (vw_get e1)).2 fun q => nb (hid_frames q)) fun q => ?_
          rw [← hL] at q
          rcases mem_hid_comp.mp q with q | q | q | q
          · rw [hL] at q; have e2 := vw_get e1; rw [q] at e2; have := hC.symm.trans e2; cases this
          · exact nit q
          · have e2 := vw_get e1; rw [q] at e2; have := hD.symm.trans e2; cases this
          · exact nb (mem_hid_pinned.mpr (.inr q))
end
end Mine
end
section
set_option Elab.async false
set_option maxRecDepth 100000
open PySem PySem.W PyProof.Rows PySem.SeqAt PySem.Spec
namespace Mine

section
variable {prog : Program} {w : World} {h0 : Heap} {q : Bool} {H : Nat} {sc : Scope} {c : Fx} {A : Around} {l : Addr} {ρ : St} {E : Value → Shared → Prop}

structure CInv (c : Fx) (l : Addr) (cenv : Env) (it C D : Addr) (g : Dat × Value) (ρ : St) (cp : Option (Nat × Nat × Str)) (i : Nat) (τ : EM Bool) (φ : EM Dat) (total : List Dat) (s₂ s' : Shared) (o' : Obj) (ds' acc' : List Dat) (vs' : List Value) (k' : Nat) (m' : Str → Option Value) (rest : List Dat) : Prop where
  i1 : s'.gens = s₂.gens
  i2 : s'.os = s₂.os
  i3 : Ext [it] (c.fenv :: c.fs) s₂.heap s'.heap
  i4 : s'.heap.get? it = some o'
  i5 : ItOk g (vw s'.heap (hid (c.comp l cenv it D) C)) o' ds'
  i6 : s'.heap.get? D = some (lst vs' k')
  i7 : Reps (vw s'.heap (hid (c.comp l cenv it D) C)) acc' vs'
  i8 : s'.heap.Ns C m'
  i9 : compM i (capOf cp ρ) τ φ ds' = some rest
  i10 : acc' ++ rest = total
structure CAft (c : Fx) (l : Addr) (cenv : Env) (it C D : Addr) (g : Dat × Value) (s₂ s₇ : Shared) (o₄ : Obj) (ds₃ acc₃ : List Dat) (vs₃ : List Value) (k₃ : Nat) (m' : Str → Option Value) : Prop where
  y1 : s₇.heap.get? it = some o₄
  y2 : s₇.heap.get? D = some (lst vs₃ k₃)
  y3 : s₇.heap.Ns C m'
  y4 : ItOk g (vw s₇.heap (hid (c.comp l cenv it D) C)) o₄ ds₃
  y5 : Reps (vw s₇.heap (hid (c.comp l cenv it D) C)) acc₃ vs₃
  y6 : Ext [it] (c.fenv :: c.fs) s₂.heap s₇.heap
  y7 : s₇.gens = s₂.gens
  y8 : s₇.os = s₂.os
theorem comp_loop {s₂ : Shared} {it C D : Addr} {o : Obj} {g : Dat × Value} {scc scope : Scope} {cenv : Env} {cl : List (Str × Addr)} {cp : Option (Nat × Nat × Str)} {i : Nat} {x : Str} {px pos : Pos} {elt iter : Expr} {ifs : List Expr} {τ : EM Bool} {φ : EM Dat} {R : Result → Shared → Prop}
    (K : Fok h0 c sc) (hA : AOk true H c A) (R₂ : Rel h0 (c.pinned it o) l ρ s₂.heap) (hn : it ∉ c.P.map (·.1)) (hoc : ∀ v, o.data ≠ .cell v) (hC : s₂.heap.get? C = none) (hD : s₂.heap.get? D = none) (hCD : C ≠ D)
    (hL : cenv.locals = C) (hcl : cenv.cells = cl) (hcs : cenv.scope = scc) (hcg : cenv.globals = mainGlobals) (hcb : cenv.builtins = builtinsNs) (hcf : cenv.frame = c.env.frame)
    (hx : nm scc i = some x) (hxl : scc.names.lookup x = some .local) (hk : scc.kind = .function) (hdup : (scc.names.map (·.1)).Nodup) (hcap : CapOk cp sc scc c.env cl) (hci : ∀ k j n, cp = some (k, j, n) → k ≠ i)
    (ht : SemF prog w h0 true H scc ifs τ) (he : SemE prog w h0 true H scc elt φ) {total : List Dat} (htot : total.length ≤ 4096)
    (hR : ∀ s' vs k m, s'.gens = s₂.gens → s'.os = s₂.os → Ext [it] (c.fenv :: c.fs) s₂.heap s'.heap → s'.heap.get? D = some (lst vs k) → Reps (vw s'.heap (hid (c.comp l cenv it D) C)) total vs → s'.heap.Ns C m → R (.ok .next) s')
    {s : Shared} {o' : Obj} {ds acc : List Dat} {vs : List Value} {k : Nat} {m : Str → Option Value} (hg : s.gens = s₂.gens) (hos : s.os = s₂.os) (x₁ : Ext [it] (c.fenv :: c.fs) s₂.heap s.heap) (hit : s.heap.get? it = some o') (hi : ItOk g (vw s.heap (hid (c.comp l cenv it D) C)) o' ds)
    (hDo : s.heap.get? D = some (lst vs k)) (hacc : Reps (vw s.heap (hid (c.comp l cenv it D) C)) acc vs) (hns : s.heap.Ns C m) (hm : ∃ rest, compM i (capOf cp ρ) τ φ ds = some rest ∧ acc ++ rest = total) :
    codeAny (model prog w) A (.compLoop (.ListComp elt [⟨.Name x px, iter, ifs, 0⟩] scope pos) 0 (.ref it) (.ref D) cenv) R s := by
  have pit := R₂.pin _ (.head _)
  have nCit : C ≠ it := fun q => by have e := pit.1; rw [← q] at e; have := hC.symm.trans e; cases this
  have nDit : D ≠ it := fun q => by have e := pit.1; rw [← q] at e; have := hD.symm.trans e; cases this
  have R₂u : Rel h0 c l ρ s₂.heap := Rel.past (P' := c.P) K hn R₂ (fun _ _ _ e => e) hoc (.inl rfl)
  obtain ⟨Cg, C0, CX, CF⟩ := R₂u.fresh_g hC
  obtain ⟨Dg, D0, DX, DF⟩ := R₂u.fresh_g hD
  obtain ⟨FL, hf, hf', hgF⟩ := K.frame
  have K' : Fok h0 (c.comp l cenv it D) scc := by
    refine ⟨hcs, hk, hcg, hcb, ⟨FL, hf, hcf.trans hf', hgF⟩, by rw [show (c.comp l cenv it D).env.locals = C from hL]; exact Cg, by rw [show (c.comp l cenv it D).env.locals = C from hL]; exact C0, by rw [show (c.comp l cenv it D).env.locals = C from hL]; exact CX, K.XF, K.Xb, fun a ha => ?_, hdup, List.nodup_nil⟩
    have ha : a ∈ c.env.locals :: l :: it :: D :: pm c := ha
    simp only [List.mem_cons] at ha
    rcases ha with rfl | rfl | rfl | rfl | ha
    · exact ⟨(R₂u.hidIn K (.head _)).1, (show _ ∉ c.X from R₂u.notX K (.head _))⟩
    · exact ⟨(R₂u.hidIn K (.tail _ (.head _))).1, (show _ ∉ c.X from R₂u.notX K (.tail _ (.head _)))⟩
    · exact ⟨pit.2.2.2.2.2.1, pit.2.1⟩
    · exact ⟨D0, DX⟩
    · exact ⟨(R₂u.hidIn K (.tail _ (.tail _ ha))).1, (show _ ∉ c.X from R₂u.notX K (.tail _ (.tail _ ha)))⟩
  have hA' : AOk true H (c.comp l cenv it D) A := ⟨hA.frames, hA.depth, hA.units, hA.handled⟩
  have inC : C ∈ hid (c.comp l cenv it D) C := by rw [← hL]; exact mem_hid_comp.mpr (.inl rfl)
  have inIt : it ∈ hid (c.comp l cenv it D) C := by rw [← hL]; exact mem_hid_comp.mpr (.inr (.inl rfl))
  have inD : D ∈ hid (c.comp l cenv it D) C := by rw [← hL]; exact mem_hid_comp.mpr (.inr (.inr (.inl rfl)))
  have itF : it ∉ addrs (c.fenv :: c.fs) := pit.2.2.1
  have stepX : ∀ {a : Addr} {h h' : Heap}, (a = it ∨ s₂.heap.get? a = none) → Heap.SameBut a h h' → Ext [it] (c.fenv :: c.fs) s₂.heap h → Ext [it] (c.fenv :: c.fs) s₂.heap h' := fun {a h h'} ha hs x b ob hb e => by
    have nb : b ≠ a := fun q => by
      rcases ha with ha | ha
      · exact hb (by rw [q, ha]; exact .head _)
      · rw [q] at e; have := ha.symm.trans e; cases this
    obtain ⟨⟨sl, e1⟩, kk⟩ := x b ob hb e
    exact ⟨⟨sl, (hs.2 b nb).trans e1⟩, fun n => (hs.2 b nb).trans (kk n)⟩
  obtain ⟨rest₀, hm₀, hm₁⟩ := hm
  refine codeAny_compLoop_tests (fun n s' => ∃ o' ds' acc' vs' k' m' rest, ds'.length = n ∧ CInv c l cenv it C D g ρ cp i τ φ total s₂ s' o' ds' acc' vs' k' m' rest) (fun n s₃ hI => ?_) ds.length ⟨o', ds, acc, vs, k, m, rest₀, rfl, hg, hos, x₁, hit, hi, hDo, hacc, hns, hm₀, hm₁⟩
  obtain ⟨o₃, ds₃, acc₃, vs₃, k₃, m₃, rest, rfl, hg₃, hos₃, x₃, hit₃, hi₃, hDo₃, hacc₃, hns₃, hm₃, htot₃⟩ := hI
  cases ds₃ with
  | nil =>
    refine end_sound (hA.handled rfl) hit₃ hi₃ fun h' hx' => ?_
    obtain rfl := Option.some.inj hm₃
    rw [List.append_nil] at htot₃
    subst htot₃
    refine hR _ vs₃ k₃ m₃ hg₃ hos₃ (fun b ob hb e => ?_) (hx' _ _ nDit hDo₃) (hacc₃.mono fun b ob e => vw_at (hx' b ob (fun q => vw_not e (q ▸ inIt)) (vw_get e)) (vw_not e)) ?_
    · obtain ⟨⟨sl, e1⟩, kk⟩ := x₃ b ob hb e
      have nb : b ≠ it := by simpa using hb
      exact ⟨⟨sl, hx' b _ nb e1⟩, fun n => hx' b _ nb (kk n)⟩
    · obtain ⟨oL, es, ep, e1, r⟩ := hns₃
      exact ⟨oL, es, ep, hx' C _ nCit e1, r⟩
  | cons d ds₃ =>
    refine next_sound hit₃ inIt hi₃ fun v o₄ s₄ hg₄ hos₄ hs₄ hit₄ hi₄ hv₄ => ?_
    have x₄ := stepX (.inl rfl) hs₄ x₃
    have hns₄ : s₄.heap.Ns C m₃ := by obtain ⟨oL, es, ep, e1, r⟩ := hns₃; exact ⟨oL, es, ep, (hs₄.2 C nCit).trans e1, r⟩
    have hDo₄ : s₄.heap.get? D = some (lst vs₃ k₃) := (hs₄.2 D nDit).trans hDo₃
    have hacc₄ := hacc₃.mono (same_vle hs₄ inIt)
    refine PySem.wpAny_assign_Name (wpAny_storeName_local (env := cenv) (by rw [Env.kindOf, hcs]; exact hxl) (by rw [hL]; exact hns₄) (fun h₅ hns₅ hs₅ => ?_) (by rw [hcs, hk]; rfl))
    rw [hL] at hns₅ hs₅
    have x₅ := stepX (.inr hC) hs₅ x₄
    have hit₅ : h₅.get? it = some o₄ := (hs₅.2 it (Ne.symm nCit)).trans hit₄
    have hDo₅ : h₅.get? D = some (lst vs₃ k₃) := (hs₅.2 D (Ne.symm hCD)).trans hDo₄
    have V₅ := same_vle (M := hid (c.comp l cenv it D) C) hs₅ inC
    have hacc₅ := hacc₄.mono V₅
    have hi₅ : ItOk g (vw h₅ (hid (c.comp l cenv it D) C)) o₄ ds₃ := hi₄.to (hi₄.sees.mono V₅)
    have R₅ : Rel h0 (c.comp l cenv it D) C (onePt i d (capOf cp ρ)) h₅ := comp_rel K R₂ hn hoc hC hD hCD hL hcl hcs x₅ ⟨_, hit₅⟩ ⟨_, hDo₅⟩ hns₅ hx hxl hcap hci (if_pos rfl) (hv₄.mono V₅)
    unfold compM at hm₃
    have keepE : ∀ {s₆ s₇ : Shared}, Goes (c.comp l cenv it D) s₆ s₇ → Ext [it] (c.fenv :: c.fs) s₂.heap s₆.heap → Ext [it] (c.fenv :: c.fs) s₂.heap s₇.heap := fun G x => x.trans (G.ext.mono fun a h => by cases h)
    have after : ∀ {s₇ : Shared}, Goes (c.comp l cenv it D) { s₄ with heap := h₅, toks := s₄.toks + 1 } s₇ → ∃ m', CAft c l cenv it C D g s₂ s₇ o₄ ds₃ acc₃ vs₃ k₃ m' := fun G =>
      ⟨_, (G.ext it _ (by simp) hit₅).2 itF, (G.ext D _ (by simp) hDo₅).2 DF, G.ext.ns (by simp) hns₅, hi₅.to (hi₅.sees.mono (G.vle C)), hacc₅.mono (G.vle C), keepE G x₅, (G.gens.trans hg₄).trans hg₃, (G.os.trans hos₄).trans hos₃⟩
    refine wpAny_noRaise ?_
    cases hτ : τ (onePt i d (capOf cp ρ)) with
    | none => rw [hτ] at hm₃; cases hm₃
    | some r =>
      rw [hτ] at hm₃
      cases r with
      | error Cx => cases hm₃
      | ok b =>
        refine ht (c.comp l cenv it D) A C _ _ _ _ K' hA' R₅ PassesOwn.never (.ok b) hτ (fun b' hb v s₆ G₆ hv => ?_) fun C hC => by cases hC
        have hb : b' = b := by injection hb with q; exact q.symm
        have hv : v = b' := hv
        rw [hv, hb]
        cases b with
        | false =>
          rw [if_neg (by decide)]
          obtain ⟨m', y1, y2, y3, y4, y5, y6, y7, y8⟩ := after G₆
          exact ⟨_, Nat.lt_succ_self _, o₄, ds₃, acc₃, vs₃, k₃, m', rest, rfl, y7, y8, y6, y1, y4, y2, y5, y3, hm₃, htot₃⟩
        | true =>
          rw [if_pos rfl]
          refine wpAny_noRaise ?_
          dsimp only at hm₃
          cases hφ : φ (onePt i d (capOf cp ρ)) with
          | none => rw [hφ] at hm₃; cases hm₃
          | some r =>
            rw [hφ] at hm₃
            cases r with
            | error Cx => cases hm₃
            | ok y =>
              refine he (c.comp l cenv it D) A C _ s₆ _ _ K' hA' (R₅.goes (s' := s₆) (s := { s₄ with heap := h₅, toks := s₄.toks + 1 }) K' G₆) PassesOwn.never (.ok y) hφ (fun y' hy yv s₇ G₇ hyv => ?_) fun C hC => by cases hC
              cases hy
              obtain ⟨rest', hm₄, rfl⟩ := Option.map_eq_some_iff.mp hm₃
              obtain ⟨m', y1, y2, y3, y4, y5, y6, y7, y8⟩ := after (G₆.trans G₇)
              have hlen := hacc₃.length
              have hsz : acc₃.length ≤ 4096 := by have := congrArg List.length htot₃; simp at this; omega
              refine wpAny_noRaise (call_meets PySem.F.slot_list_append ⟨_, y2, rfl⟩ PySem.F.entry_list_append (PySem.F.args_list_append_2 _ _) (AutoListH.list_append_list_val_0 D vs₃.toArray k₃ yv (by rw [List.size_toArray, hlen, sizeLine_eq]; omega)) ⟨y2, ?_⟩)
              have hsb := Heap.SameBut.update s₇.heap D (Obj.mapSeq fun x => x.push yv)
              have e := IsL.update (show IsL s₇.heap D vs₃.toArray k₃ from y2) (fun x => x.push yv)
              rw [if_neg (by simp)] at e
              have e1 : (vs₃ ++ [yv]).toArray = vs₃.toArray.push yv := by simp
              have V := same_vle (M := hid (c.comp l cenv it D) C) hsb inD
              refine ⟨_, Nat.lt_succ_self _, o₄, ds₃, acc₃ ++ [y], vs₃ ++ [yv], k₃ + 1, m', rest', rfl, y7, y8, stepX (.inr hD) hsb y6, (hsb.2 it (Ne.symm nDit)).trans y1, y4.to (y4.sees.mono V), ?_, (y5.append (.one hyv)).mono V, ?_, hm₄, by rw [← htot₃]; simp⟩
              · unfold lst
                rw [e1]
                exact e
              · obtain ⟨oL, es, ep, e1, r⟩ := y3
                exact ⟨oL, es, ep, (hsb.2 C hCD).trans e1, r⟩
end
end Mine
end
section
set_option Elab.async false
set_option maxRecDepth 100000
open PySem PySem.W PyProof.Rows PySem.SeqAt PySem.Spec
namespace Mine

section
variable {prog : Program} {w : World} {h0 : Heap} {q : Bool} {H : Nat} {sc : Scope} {c : Fx} {A : Around} {l : Addr} {ρ : St} {s : Shared} {E : Value → Shared → Prop}
theorem Rel.hid_in {h : Heap} {a : Addr} (K : Fok h0 c sc) (R : Rel h0 c l ρ h) (ha : a ∈ hid c l) : ∃ o, h.get? a = some o := by
  rcases List.mem_cons.mp ha with rfl | ha
  · exact (R.hidIn K (.head _)).2
  rcases List.mem_cons.mp ha with rfl | ha
  · exact (R.hidIn K (.tail _ (.head _))).2
  rcases List.mem_append.mp ha with ha | ha
  · exact (R.pm_in K ha).2
  · obtain ⟨_, o, ho, _⟩ := R.frs.mem ha
    exact ⟨o, ho⟩
theorem Rel.newPinX {h h' : Heap} {a : Addr} {o : Obj} (K : Fok h0 c sc) (R : Rel h0 c l ρ h) (ha : h.get? a = none) (y : Ext [] (c.fenv :: c.fs) h h') (ho : h'.get? a = some o) : Rel h0 (c.pinned a o) l ρ h' ∧ a ∉ c.P.map (·.1) := by
  have nf : a ∉ hid c l := fun q => by obtain ⟨ob, e⟩ := R.hid_in K q; have := ha.symm.trans e; cases this
  have na : ∀ b ob, h.get? b = some ob → b ≠ a := fun b ob e q => by rw [q] at e; have := ha.symm.trans e; cases this
  have R' := R.of_ext K y
  obtain ⟨ng, nh0, nX, nF⟩ := R.fresh_g ha
  have nL : a ≠ c.env.locals := fun q => nf (q ▸ .head _)
  have nl : a ≠ l := fun q => nf (q ▸ .tail _ (.head _))
  have nM : a ∉ c.M := fun q => by obtain ⟨ob, e⟩ := R.min a q; exact na a ob e rfl
  have V : VLe (vw h (hid c l)) (vw h' (hid (c.pinned a o) l)) := fun b ob e => vw_at ((y b ob (by simp) (vw_get e)).2 fun q => vw_not e (hid_frames q)) fun q => by
    rcases mem_hid_pinned.mp q with q | q
    · exact na b ob (vw_get e) q
    · exact vw_not e q
  obtain ⟨m, hn, a1, a2, a3⟩ := R.ns
  refine ⟨⟨R'.stays, R'.frs, R'.ext, R.lb, fun p hp => ?_, R'.xin, fun p hp => (R.see p hp).mono V, R'.min, m, y.ns (by simp) hn, fun i d e => ?_, fun i ds e => ?_, fun i b wt pl e => ?_⟩, fun q => ?_⟩
  · rcases List.mem_cons.mp hp with rfl | hp
    · exact ⟨ho, nX, nF, nL, nl, nh0, ng, nM⟩
    · exact R'.pin p hp
  · obtain ⟨x, hx, hl⟩ := a1 i d e
    refine ⟨x, hx, ?_⟩
    rcases hl with ⟨kk, v, hm, hr⟩ | ⟨kk, b, ob, v, hl, ho, hd, hs, hn, hL, hX, hr⟩
    · exact .inl ⟨kk, v, hm, hr.mono V⟩
    · exact .inr ⟨kk, b, ob, v, hl, (y b ob (by simp) ho).2 hn, hd, hs, hn, hL, hX, hr.mono V⟩
  · obtain ⟨x, vs, n, h1, h2, h3, h4, h5, h6⟩ := a2 i ds e
    exact ⟨x, vs, n, h1, h2, h3, (y _ _ (by simp) h4).2 h6.2.2.1, h5.mono V, h6⟩
  · obtain ⟨x, xa, dx, P, t, n, h1, h2, h3, h4, h5, h6, h7, h8, h9, h10, h11, h12, h13, h14, h15, h16, h18, h19⟩ := a3 i b wt pl e
    refine ⟨x, xa, dx, P, t, n, h1, h2, h3, (y _ _ (by simp) h4).2 h6, (y _ _ (by simp) h5).2 h7, h6, h7, h8, h9, h10, h11, h12, h13, h14, h15, h16, fun p hp => ?_, h19⟩
    rcases List.mem_cons.mp hp with rfl | hp
    · exact ⟨fun q => na _ _ h5 q.symm, fun q => na _ _ h4 q.symm⟩
    · exact h18 p hp
  · obtain ⟨p, hp, e⟩ := List.mem_map.mp q
    exact na _ _ (R.pin p hp).1 e

theorem ext_fresh {fs : List Env} {a : Addr} {h h₂ h' : Heap} (x : Ext [] fs h h₂) (y : Ext [a] fs h₂ h') (n : h.get? a = none) : Ext [] fs h h' := fun b o _ e => by
  have nb : b ≠ a := fun q => by rw [q] at e; have := n.symm.trans e; cases this
  obtain ⟨⟨sl, e1⟩, k1⟩ := x b o (by simp) e
  obtain ⟨⟨sl', e2⟩, _⟩ := y b _ (by simpa using nb) e1
  exact ⟨⟨sl', e2⟩, fun n => (y b o (by simpa using nb) (k1 n)).2 n⟩

/-- what the comprehension has made -/
structure Made (c : Fx) (l : Addr) (s s' : Shared) (D C : Addr) (total : List Dat) : Prop where
  ext : Ext [] (c.fenv :: c.fs) s.heap s'.heap
  gens : s'.gens = s.gens
  os : s'.os = s.os
  dn : s.heap.get? D = none
  cn : s.heap.get? C = none
  dc : D ≠ C
  ns : ∃ m, s'.heap.Ns C m
  list : ∃ vs k, s'.heap.get? D = some (lst vs k) ∧ Reps (vw s'.heap (C :: hid c l)) total vs
noncomputable def clipL (o : Option (List Dat)) : Option (List Dat) := o.bind fun es => if es.length ≤ 4096 then some es else none
theorem clip_some {o : Option (List Dat)} {es : List Dat} (h : clipL o = some es) : o = some es ∧ es.length ≤ 4096 := by
  unfold clipL at h
  obtain ⟨es', e1, e2⟩ := Option.bind_eq_some_iff.mp h
  split at e2 <;> first | (cases e2; done) | skip
  rename_i hl
  cases e2
  exact ⟨e1, hl⟩

/-- the whole comprehension, up to what is done with its list -/
theorem comp_core {x : Str} {px pos pos2 : Pos} {elt iter : Expr} {ifs : List Expr} {scope scc : Scope} {cl : List (Str × Addr)} {cp : Option (Nat × Nat × Str)} {i : Nat} {τ : EM Bool} {φ : EM Dat} {χ : EM (List Dat)} {use : Option (Value → Sem Unit)} {Q : Value → Shared → Prop} {ρ' : St}
    (K : Fok h0 c sc) (hA : AOk true H c A) (R : Rel h0 c l ρ s.heap) (hE : PassesOwn (model prog w) A c.env E) (hρ : ρ' = ρ)
    (hi : SemI prog w h0 H sc iter χ) (hrel : relabel scope c.env = scc) (hclos : closureFor scope c.env = pure cl)
    (hcell : ∀ y ∈ scope.names, y.2 ≠ .cell) (hkind : scope.kind = .function) (hnames : ∀ y ∈ scope.names, y.2 = .local → scope.names.lookup y.1 = some .local)
    (hx : nm scc i = some x) (hxl : scc.names.lookup x = some .local) (hk : scc.kind = .function) (hdup : (scc.names.map (·.1)).Nodup) (hcap : CapOk cp sc scc c.env cl) (hci : ∀ k j n, cp = some (k, j, n) → k ≠ i)
    (ht : SemF prog w h0 true H scc ifs τ) (he : SemE prog w h0 true H scc elt φ) {r : Except Addr (List Dat)} (hr : (χ.bind fun ds => EM.lift (clipL (compM i (capOf cp ρ') τ φ ds))) ρ = some r)
    (hQ : ∀ total, r = .ok total → ∀ D C s', Made c l s s' D C total → compPost (model prog w) A E use Q (.ref D) C (.ok .next) s')
    (hX : ErrOk h0 c s r E)
    (hs : ∀ x, foldedSetIterable iter c.env x = pure x := by intro _; rfl) :
    wpAny (model prog w) A (comprehension (.ListComp elt [⟨.Name x px, iter, ifs, 0⟩] scope pos) scope c.env pos2 (newList []) false (eval iter c.env) use) Q E s := by
  subst hρ
  refine wpAny_comprehension_free rfl hs hclos hkind hnames ?_
  unfold EM.bind at hr
  cases hχ : χ ρ' with
  | none => rw [hχ] at hr; cases hr
  | some r₀ =>
    rw [hχ] at hr
    refine hi c A l ρ' s _ E K hA R hE r₀ hχ (fun ds hd g it o s₂ G₂ hit0 hn R₂ hi₂ => ?_) fun Cx hCx e s' h1 h2 h3 => ?_
    · subst hd
      obtain ⟨total, e, rfl⟩ := lift_some hr
      obtain ⟨e, hlen⟩ := clip_some e
      refine wpAny_newObj_type ?_ (by size_fits)
      refine wpAny_newFunctionEnv hcell (by intro y hy; simp at hy) (fun h₁ hns₁ hsb₁ => ?_) hkind
      dsimp only at hns₁ hsb₁ ⊢
      generalize hH2 : s₂.heap.push { cls := .type "list", dict := none, data := .seq ([] : List Value).toArray } = H2 at hns₁ hsb₁ ⊢
      have hCs : H2.objs.size = s₂.heap.objs.size + 1 := by rw [← hH2, Heap.size_push]
      have hD : s₂.heap.get? s₂.heap.objs.size = none := Heap.get?_none_of_le (Nat.le_refl _)
      have hC : s₂.heap.get? H2.objs.size = none := Heap.get?_none_of_le (by rw [hCs]; exact Nat.le_succ _)
      have hDC : s₂.heap.objs.size ≠ H2.objs.size := by rw [hCs]; exact Nat.ne_of_lt (Nat.lt_succ_self _)
      have keep : ∀ b ob, s₂.heap.get? b = some ob → h₁.get? b = some ob := fun b ob e => hsb₁.extBut b ob (fun q => by rw [q] at e; have := hC.symm.trans e; cases this) (Heap.get?_push_of_some _ (hH2 ▸ Heap.get?_push_of_some _ e))
      have hDo : h₁.get? s₂.heap.objs.size = some (lst [] 0) := hsb₁.extBut _ _ hDC (Heap.get?_push_of_some _ (hH2 ▸ Heap.get?_push_size _ rfl))
      generalize H2.objs.size = C at *
      generalize s₂.heap.objs.size = D at *
      have hit := (R₂.pin _ (.head _)).1
      have inHid : ∀ b, b ∈ hid (c.comp l (compEnvC scope cl C c.env) it D) C → b = C ∨ b = D ∨ b ∈ hid (c.pinned it o) l := fun b hb => by
        rcases mem_hid_comp.mp (show b ∈ hid (c.comp l (compEnvC scope cl C c.env) it D) (compEnvC scope cl C c.env).locals from hb) with q | q | q | q
        · exact .inl q
        · exact .inr (.inr (mem_hid_pinned.mpr (.inl q)))
        · exact .inr (.inl q)
        · exact .inr (.inr (mem_hid_pinned.mpr (.inr q)))
      have V : VLe (vw s₂.heap (hid (c.pinned it o) l)) (vw h₁ (hid (c.comp l (compEnvC scope cl C c.env) it D) C)) := fun b ob e => vw_at (keep b ob (vw_get e)) fun q => by
        rcases inHid b q with q | q | q
        · have e2 := vw_get e; rw [q] at e2; have := hC.symm.trans e2; cases this
        · have e2 := vw_get e; rw [q] at e2; have := hD.symm.trans e2; cases this
        · exact vw_not e q
      have loop : ∀ s₃ : Shared, s₃ = { s₂ with heap := h₁, toks := s₂.toks + ([] : List (Str × Value)).length } →
          codeAny (model prog w) A (.compLoop (.ListComp elt [⟨.Name x px, iter, ifs, 0⟩] scope pos) 0 (.ref it) (.ref D) (compEnvC scope cl C c.env)) (compPost (model prog w) A E use Q (.ref D) C) s₃ := by
        rintro s₃ rfl
        refine comp_loop (cenv := compEnvC scope cl C c.env) (scc := scc) (C := C) (total := total) (acc := []) (vs := []) (k := 0) (g := g) (ds := ds) K hA R₂ hn hi₂.nocell hC hD (Ne.symm hDC) rfl rfl hrel K.glob K.blt rfl hx hxl hk hdup hcap hci ht he hlen (fun s' vs k m hg hos x₁ hDo' hacc hns => ?_) rfl rfl (.of_keeps keep) (keep _ _ hit) (hi₂.to (hi₂.sees.mono V)) hDo (by unfold Reps; rfl) hns₁ ⟨total, e, rfl⟩
        refine hQ total rfl D C s' ⟨ext_fresh G₂.ext x₁ hit0, hg.trans G₂.gens, hos.trans G₂.os, none_back G₂ hD, none_back G₂ hC, hDC, ⟨m, hns⟩, vs, k, hDo', hacc.mono (vw_sub fun b hb => ?_)⟩
        rcases List.mem_cons.mp hb with hb | hb
        · exact mem_hid_comp.mpr (.inl hb)
        · exact mem_hid_comp.mpr (.inr (.inr (.inr hb)))
      exact codeAny_compStart_list (loop _ rfl) (self_sound (keep _ _ hit) (hi₂.to (hi₂.sees.mono V)) (loop _ rfl))
    · subst hCx
      exact hX Cx (Option.some.inj hr).symm e s' h1 h2 h3
end
end Mine
end
section
set_option Elab.async false
set_option maxRecDepth 100000
open PySem PySem.W PyProof.Rows PySem.SeqAt PySem.Spec
namespace Mine

theorem bind_pure {α β : Type} {m : EM α} {f : α → β} {ρ : St} {r : Except Addr β} (h : (m.bind fun a => EM.pure (f a)) ρ = some r) : ∃ r₀, m ρ = some r₀ ∧ (∀ a, r₀ = .ok a → r = .ok (f a)) ∧ (∀ C, r₀ = .error C → r = .error C) := by
  unfold EM.bind at h
  cases e : m ρ with
  | none => rw [e] at h; cases h
  | some r₀ =>
    rw [e] at h
    refine ⟨r₀, rfl, fun a q => ?_, fun C q => ?_⟩
    · subst q; exact (Option.some.inj h).symm
    · subst q; exact (Option.some.inj h).symm
structure CompS (sc scope scc : Scope) (x : Str) (i : Nat) : Prop where
  rel : ∀ env : Env, env.scope = sc → relabel scope env = scc
  cell : ∀ y ∈ scope.names, y.2 ≠ .cell
  kind : scope.kind = .function
  names : ∀ y ∈ scope.names, y.2 = .local → scope.names.lookup y.1 = some .local
  hx : nm scc i = some x
  xl : scc.names.lookup x = some .local
  k : scc.kind = .function
  dup : (scc.names.map (·.1)).Nodup

section
variable {prog : Program} {w : World} {h0 : Heap} {H : Nat} {sc : Scope} {c : Fx} {A : Around} {l : Addr} {ρ : St} {s : Shared} {E : Value → Shared → Prop}

theorem Made.goes {s' : Shared} {D C : Addr} {total : List Dat} {h' : Heap} (K : Fok h0 c sc) (R : Rel h0 c l ρ s.heap) (M : Made c l s s' D C total) (hs : Heap.SameBut C s'.heap h') :
    Goes c s { s' with heap := h' } ∧ Rep (vw h' (hid c l)) (.list total) (.ref D) := by
  obtain ⟨vs, k, hDo, hr⟩ := M.list
  refine ⟨⟨fun b o _ e => ?_, M.gens, M.os⟩, ?_⟩
  · have nb : b ≠ C := fun q => by rw [q] at e; have := M.cn.symm.trans e; cases this
    obtain ⟨⟨sl, e1⟩, kk⟩ := M.ext b o (by simp) e
    exact ⟨⟨sl, (hs.2 b nb).trans e1⟩, fun n => (hs.2 b nb).trans (kk n)⟩
  · unfold Rep
    refine ⟨D, vs, k, rfl, vw_at ((hs.2 D M.dc).trans hDo) fun q => ?_, hr.mono fun b o e => vw_at ((hs.2 b fun q => vw_not e (q ▸ .head _)).trans (vw_get e)) fun q => vw_not e (.tail _ q)⟩
    obtain ⟨o, e⟩ := R.hid_in K q
    have := M.dn.symm.trans e; cases this

theorem comp_value {x : Str} {px pos : Pos} {elt iter : Expr} {ifs : List Expr} {scope scc : Scope} {cl : List (Str × Addr)} {cp : Option (Nat × Nat × Str)} {i : Nat} {τ : EM Bool} {φ : EM Dat} {χ : EM (List Dat)} {Q : Value → Shared → Prop} {r : Except Addr (List Dat)} {ρ' : St}
    (S : CompS sc scope scc x i) (K : Fok h0 c sc) (hA : AOk true H c A) (R : Rel h0 c l ρ s.heap) (hE : PassesOwn (model prog w) A c.env E) (hρ : ρ' = ρ)
    (hi : SemI prog w h0 H sc iter χ) (ht : SemF prog w h0 true H scc ifs τ) (he : SemE prog w h0 true H scc elt φ)
    (hclos : closureFor scope c.env = pure cl) (hcap : CapOk cp sc scc c.env cl) (hci : ∀ k j n, cp = some (k, j, n) → k ≠ i)
    (hr : (χ.bind fun ds => EM.lift (clipL (compM i (capOf cp ρ') τ φ ds))) ρ = some r)
    (hQ : ∀ ds, r = .ok ds → ∀ v s', Goes c s s' → Rep (vw s'.heap (hid c l)) (.list ds) v → Q v s') (hX : ErrOk h0 c s r E)
    (hs : ∀ x, foldedSetIterable iter c.env x = pure x) :
    wpAny (model prog w) A (eval (.ListComp elt [⟨.Name x px, iter, ifs, 0⟩] scope pos) c.env) Q E s := by
  rw [PySem.eval_ListComp]
  refine comp_core K hA R hE hρ hi (S.rel _ K.is) hclos S.cell S.kind S.names S.hx S.xl S.k S.dup hcap hci ht he hr (fun total ht D C s' M => ?_) hX hs
  obtain ⟨m, hn⟩ := M.ns
  refine ⟨m, hn, fun h' hs' => ?_⟩
  obtain ⟨G, hv⟩ := M.goes K R hs'
  exact hQ total ht _ _ G hv

theorem SemE.comp {x : Str} {px pos : Pos} {elt iter : Expr} {ifs : List Expr} {scope scc : Scope} (i : Nat) {τ : EM Bool} {φ : EM Dat} {χ : EM (List Dat)}
    (S : CompS sc scope scc x i) (hi : SemI prog w h0 H sc iter χ) (ht : SemF prog w h0 true H scc ifs τ) (he : SemE prog w h0 true H scc elt φ)
    (hclos : ∀ env : Env, env.scope = sc → closureFor scope env = pure [])
    (hs : ∀ env x, foldedSetIterable iter env x = pure x := by intro _ _; rfl) :
    SemE prog w h0 true H sc (.ListComp elt [⟨.Name x px, iter, ifs, 0⟩] scope pos) ((χ.bind fun ds => EM.lift (clipL (compM i (fun _ => none) τ φ ds))).bind fun es => EM.pure (.list es)) := by
  intro c A l ρ s Q E K hA R hE r hr hQ hX
  obtain ⟨r₀, hφ, hok, her⟩ := bind_pure hr
  · skip
    refine comp_value (cp := none) S K hA R hE rfl hi ht he (hclos _ K.is) trivial (fun _ _ _ q => by cases q) hφ (fun ds hd v s' G hv => ?_) (fun C hC e s' h1 h2 h3 => ?_) (hs _)
    · subst hd
      exact hQ _ (hok _ rfl) v s' G hv
    · subst hC
      exact hX C (her _ rfl) e s' h1 h2 h3

/-- .. that reads a name of the frame -/
noncomputable def capE (j : Nat) {α : Type} (φ : Dat → EM α) : EM α := fun ρ => match ρ.loc j with
  | some d => φ d ρ
  | none => none
theorem SemE.compC {x n : Str} {px pos : Pos} {elt iter : Expr} {ifs : List Expr} {scope scc : Scope} (i k j : Nat) {τ : EM Bool} {φ : EM Dat} {χ : EM (List Dat)}
    (S : CompS sc scope scc x i) (hi : SemI prog w h0 H sc iter χ) (ht : SemF prog w h0 true H scc ifs τ) (he : SemE prog w h0 true H scc elt φ) (hki : k ≠ i)
    (c1 : nm scc k = some n) (c2 : nm sc j = some n) (c3 : sc.names.lookup n = some .cell) (c4 : scc.names.lookup n = some .cell)
    (hclos : ∀ env : Env, ∀ a, env.scope = sc → env.cells.lookup n = some a → closureFor scope env = pure [(n, a)])
    (hs : ∀ env x, foldedSetIterable iter env x = pure x := by intro _ _; rfl) :
    SemE prog w h0 true H sc (.ListComp elt [⟨.Name x px, iter, ifs, 0⟩] scope pos) (capE j fun d => (χ.bind fun ds => EM.lift (clipL (compM i (fun jj => if jj = k then some d else none) τ φ ds))).bind fun es => EM.pure (.list es)) := by
  intro c A l ρ s Q E K hA R hE r hr hQ hX
  unfold capE at hr
  cases hd : ρ.loc j with
  | none => rw [hd] at hr; cases hr
  | some d =>
  rw [hd] at hr
  dsimp only at hr
  have hcp : capOf (some (k, j, n)) ρ = fun jj => if jj = k then some d else none := by
    funext jj
    show (if jj = k then ρ.loc j else none) = _
    rw [hd]
  obtain ⟨m₀, hn₀, a1, _, _⟩ := R.ns
  obtain ⟨y, hy, hl⟩ := a1 j d hd
  rw [K.is, c2] at hy
  cases hy
  have hcell : ∃ a, c.env.cells.lookup n = some a := by
    rcases hl with ⟨kk, _⟩ | ⟨kk, a, ob, v', hl, _⟩
    · rw [Env.kindOf, K.is, c3] at kk; cases kk
    · exact ⟨a, hl⟩
  obtain ⟨a, ha⟩ := hcell
  obtain ⟨r₀, hφ, hok, her⟩ := bind_pure hr
  · skip
    refine comp_value (cp := some (k, j, n)) (ρ' := ρ) (cl := [(n, a)]) S K hA R hE rfl hi ht he (hclos _ a K.is ha) ⟨c1, c2, c3, .inl c4, fun a' h' => ?_⟩ (fun _ _ _ q => by cases q; exact hki) (by rw [hcp]; exact hφ) (fun ds hd v s' G hv => ?_) (fun C hC e s' h1 h2 h3 => ?_) (hs _)
    · rw [ha] at h'; cases h'
      show List.lookup n [(n, a)] = some a
      simp [List.lookup_cons]
    · subst hd
      exact hQ _ (hok _ rfl) v s' G hv
    · subst hC
      exact hX C (her _ rfl) e s' h1 h2 h3

/-- y = [.. for x in ..] -/
theorem SemS.comp {x y : Str} {px py pos spos : Pos} {elt iter : Expr} {ifs : List Expr} {scope scc : Scope} (i k : Nat) {τ : EM Bool} {φ : EM Dat} {χ : EM (List Dat)}
    (S : CompS sc scope scc x i) (hi : SemI prog w h0 H sc iter χ) (ht : SemF prog w h0 true H scc ifs τ) (he : SemE prog w h0 true H scc elt φ)
    (hclos : ∀ env : Env, env.scope = sc → closureFor scope env = pure [])
    (hy : nm sc k = some y) (hyl : sc.names.lookup y = some .local)
    (hsw : ∀ env : Env, env.scope = sc → swapsWith (.ListComp elt [⟨.Name x px, iter, ifs, 0⟩] scope pos) (some (.Name y py)) spos.line env = pure true)
    (hs : ∀ env x, foldedSetIterable iter env x = pure x := by intro _ _; rfl) :
    SemS prog w h0 true H sc (.Assign [.Name y py] (.ListComp elt [⟨.Name x px, iter, ifs, 0⟩] scope pos) spos) (SM.ofE (χ.bind fun ds => EM.lift (clipL (compM i (fun _ => none) τ φ ds))) fun es => SM.put k (.list es)) := by
  intro c A l ρ s Q E K hA R hE hfe o ho hP
  rw [PySem.exec_Assign_Name_used _ _ _ _ (hsw _ K.is)]
  refine wpAny_bind (wpAny_standAt (wpAny_bind ?_))
  show wpAny _ A (do let _ ← comprehension (.ListComp elt [⟨.Name x px, iter, ifs, 0⟩] scope pos) scope c.env _ (newList []) false (eval iter c.env) (some (PySem.assign (.Name y py) c.env))) _ _ s
  cases hφ : (χ.bind fun ds => EM.lift (clipL (compM i (fun _ => none) τ φ ds))) ρ with
  | none => unfold SM.ofE at ho; rw [hφ] at ho; cases ho
  | some r₀ =>
    unfold SM.ofE at ho
    rw [hφ] at ho
    refine wpAny_bind (wpAny_mono (Q := fun _ s' => Q .next s') (comp_core (cp := none) (cl := []) K hA R hE rfl hi (S.rel _ K.is) (hclos _ K.is) S.cell S.kind S.names S.hx S.xl S.k S.dup trivial (fun _ _ _ q => by cases q) ht he hφ (fun total htot D C s' M => ?_) (fun C hC e s' h1 h2 h3 => ?_) (hs _)) (fun _ s' hq => wpAny_pure (wpAny_pure hq)) fun _ _ e => e)
    · subst htot
      have ho : SM.put k (.list total) ρ = some o := ho
      obtain ⟨hf, rfl⟩ := put_some ho
      obtain ⟨m, hn⟩ := M.ns
      obtain ⟨oC, hoC, hdC⟩ := ns_obj hn
      have hcC := ns_nocell hn
      obtain ⟨R₁, hnp⟩ := R.newPinX K M.cn M.ext hoC
      obtain ⟨vs, kk, hDo, hr⟩ := M.list
      have hv : Rep (vw s'.heap (hid (c.pinned C oC) l)) (.list total) (.ref D) := by
        unfold Rep
        refine ⟨D, vs, kk, rfl, vw_at hDo fun q => ?_, hr.mono (vw_sub fun b hb => ?_)⟩
        · rcases mem_hid_pinned.mp q with q | q
          · exact M.dc q
          · obtain ⟨o, e⟩ := R.hid_in K q
            have := M.dn.symm.trans e; cases this
        · rcases mem_hid_pinned.mp hb with hb | hb
          · exact hb ▸ .head _
          · exact .tail _ hb
      refine PySem.wpAny_assign_Name (store_sound (c := c.pinned C oC) (K.pinned oC hnp) R₁ hy hyl hf hv fun s₂ g₂ k₂ R₂ _ => ?_)
      have hC₂ := (R₂.pin _ (.head _)).1
      obtain ⟨m', hn'⟩ : ∃ m', s₂.heap.Ns C m' := by
        obtain ⟨o', es, ep, e1, e2, r⟩ := hn
        rw [hoC] at e1; cases e1
        exact ⟨_, _, es, ep, hC₂, e2, r⟩
      refine ⟨m', hn', fun h' hs' => hP l _ (g₂.trans M.gens) (k₂.trans M.os) ?_⟩
      exact Rel.past (P' := c.P) K hnp R₂ (fun b ob hb e => (hs'.2 b hb).trans e) (fun v => hcC oC v hoC) (.inl rfl)
    · subst hC
      obtain rfl := Option.some.inj ho
      exact hP e s' h1 h2 h3
end
end Mine
end
section
set_option Elab.async false
set_option maxRecDepth 100000
open PySem PySem.W PyProof.Rows PySem.SeqAt PySem.Spec
open Builtin Builtin.ObjectAttr
namespace Mine

/-- views that agree on lists and tuples -/
noncomputable def VL (S S' : View) : Prop := ∀ a o, (o.cls = .type "list" ∨ o.cls = .type "tuple") → S a = some o → S' a = some o
mutual
theorem Rep.monoL {S S' : View} (x : VL S S') : ∀ {d : Dat} {v : Value}, Rep S d v → Rep S' d v
  | .none, _, h => h
  | .bool _, _, h => h
  | .int _, _, h => h
  | .str _, _, h => h
  | .bytes _, _, h => h
  | .obj _, _, h => h
  | .tuple ds, v, h => by
    unfold Rep at h ⊢
    obtain ⟨a, vs, n, e, ho, hr⟩ := h
    exact ⟨a, vs, n, e, x _ _ (.inr rfl) ho, Reps.monoL x hr⟩
  | .list ds, v, h => by
    unfold Rep at h ⊢
    obtain ⟨a, vs, n, e, ho, hr⟩ := h
    exact ⟨a, vs, n, e, x _ _ (.inl rfl) ho, Reps.monoL x hr⟩
theorem Reps.monoL {S S' : View} (x : VL S S') : ∀ {ds : List Dat} {vs : List Value}, Reps S ds vs → Reps S' ds vs
  | [], _, h => h
  | d :: ds, vs, h => by
    unfold Reps at h ⊢
    obtain ⟨v, r, e, h1, h2⟩ := h
    exact ⟨v, r, e, Rep.monoL x h1, Reps.monoL x h2⟩
end

section
variable {prog : Program} {w : World} {h0 : Heap} {H : Nat} {sc : Scope} {c : Fx} {A : Around} {l : Addr} {ρ : St} {s : Shared} {E : Value → Shared → Prop}

/-- the stream's dict has changed -/
theorem strm_step {h h' : Heap} {i : Nat} {b : Bool} {wt wt' : List UInt8} {pl pl' : Int} {x : Str} {xa dx : Addr} {P P' : Int × Int × Int} {t t' : Tok × Tok × Tok × Tok × Tok} {n n' : Nat} {m : Str → Option Value}
    (K : Fok h0 c sc) (R : Rel h0 c l ρ h) (hs : ρ.stm = some (i, b, wt, pl)) (hn : h.Ns c.env.locals m) (hx : nm c.env.scope i = some x) (hm : m x = some (.ref xa)) (ho : h.get? xa = some (instObj 176 dx))
    (hd : h.get? dx = some (dictOf (strmEs P t b wt pl) n)) (y : Ext [dx] (c.fenv :: c.fs) h h') (hd' : h'.get? dx = some (dictOf (strmEs P' t' b wt' pl') n')) :
    Rel h0 c l { ρ with stm := some (i, b, wt', pl') } h' ∧ VL (vw h (hid c l)) (vw h' (hid c l)) := by
  obtain ⟨m', hm', a1, a2, a3⟩ := R.ns
  obtain rfl : m' = m := ns_eq hm' hn
  obtain ⟨x₁, xa₁, dx₁, P₁, t₁, n₁, h1, h2, h3, h4, h5, h6, h7, h8, h9, h10, h11, h12, h13, h14, h15, h16, h18, h19⟩ := a3 i b wt pl hs
  rw [hx] at h1; cases h1
  rw [hm] at h3; cases h3
  rw [ho] at h4
  have hdd : dx₁ = dx := by injection h4 with h4; injection h4 with _ q; exact (Option.some.inj q).symm
  subst hdd
  have k : ∀ b ob, b ≠ dx₁ → b ∉ addrs (c.fenv :: c.fs) → h.get? b = some ob → h'.get? b = some ob := fun b ob n1 n2 e => (y b ob (by simpa using n1) e).2 n2
  have V : VL (vw h (hid c l)) (vw h' (hid c l)) := fun b ob hc e => vw_at (k b ob (fun q => by
    have e2 := vw_get e; rw [q, h5] at e2; cases e2; rcases hc with hc | hc <;> simp at hc) (fun q => vw_not e (hid_frames q)) (vw_get e)) (vw_not e)
  obtain ⟨FL, hf, hf', hg⟩ := K.frame
  refine ⟨⟨y.stays (fun a q => by simp at q; rw [q]; exact h13) R.frs R.stays, y.frames (fun a q => by simp at q; rw [q]; exact h7) R.frs, fun b ob hX e => ?_, R.lb, fun p hp => ?_, fun a ha => ?_, fun p hp => (R.see p hp).monoL V, fun a ha => ?_, m', y.ns (by simpa using Ne.symm h10) hn, fun j d e => ?_, fun j ds e => ?_, fun j b' wt'' pl'' e => ?_⟩, V⟩
  · have nb : b ≠ dx₁ := fun q => by
      subst q
      have := h15.1.symm.trans e; cases this
    obtain ⟨⟨sl, e1⟩, kk⟩ := R.ext b ob hX e
    obtain ⟨⟨sl', e2⟩, _⟩ := y b _ (by simpa using nb) e1
    refine ⟨⟨sl', e2⟩, fun q => k b _ nb (fun z => ?_) (kk q)⟩
    unfold addrs at z q
    rw [List.filterMap_cons, hf] at z
    rcases List.mem_cons.mp z with z | z
    · rw [z] at e; have e3 := hg.symm.trans e; cases e3
    · exact q z
  · obtain ⟨q1, r⟩ := R.pin p hp
    exact ⟨k _ _ (h18 p hp).1 r.2.1 q1, r⟩
  · by_cases q : a = dx₁
    · subst q; exact ⟨_, hd'⟩
    · obtain ⟨o, e⟩ := R.xin a ha
      obtain ⟨⟨_, e2⟩, _⟩ := y a o (by simpa using q) e
      exact ⟨_, e2⟩
  · obtain ⟨o, e⟩ := R.min a ha
    obtain ⟨⟨_, e2⟩, _⟩ := y a o (fun q => h19 ((List.mem_singleton.mp q) ▸ ha)) e
    exact ⟨_, e2⟩
  · obtain ⟨z, hz, hl⟩ := a1 j d e
    refine ⟨z, hz, ?_⟩
    rcases hl with ⟨kk, v, hm, hr⟩ | ⟨kk, a, ob, v, hl, ho', hd'', hs', hn', hL, hX, hr⟩
    · exact .inl ⟨kk, v, hm, hr.monoL V⟩
    · exact .inr ⟨kk, a, ob, v, hl, k a ob (fun q => by rw [q, h5] at ho'; cases ho'; cases hd'') hn' ho', hd'', hs', hn', hL, hX, hr.monoL V⟩
  · obtain ⟨z, vs, nn, g1, g2, g3, g4, g5, g6, g7, g8, g9⟩ := a2 j ds e
    exact ⟨z, vs, nn, g1, g2, g3, k _ _ (Ne.symm h9) g8 g4, g5.monoL V, g6, g7, g8, g9⟩
  · cases e
    exact ⟨x, xa, dx₁, P', t', n', hx, h2, hm, k _ _ (Ne.symm h8) h6 ho, hd', h6, h7, h8, h9, h10, h11, h12, h13, h14, h15, h16, h18, h19⟩

theorem strm_at {i : Nat} {b : Bool} {wt : List UInt8} {pl : Int} {x : Str} (K : Fok h0 c sc) (R : Rel h0 c l ρ s.heap) (hs : ρ.stm = some (i, b, wt, pl)) (hx : nm sc i = some x) :
    ∃ m xa dx P t n, s.heap.Ns c.env.locals m ∧ nm c.env.scope i = some x ∧ m x = some (.ref xa) ∧ c.env.kindOf x = some .local ∧ s.heap.get? xa = some (instObj 176 dx) ∧ s.heap.get? dx = some (dictOf (strmEs P t b wt pl) n) ∧ dx ∉ addrs (c.fenv :: c.fs) ∧ xa ∉ addrs (c.fenv :: c.fs) ∧ h0.get? dx = none ∧ h0.get? xa = none ∧ dx ≠ l ∧ dx ≠ c.env.locals ∧ dx ∉ pm c ∧ dx ≠ xa ∧ c.g.get? dx = none ∧ dx ∉ c.X := by
  obtain ⟨m, hn, _, _, a3⟩ := R.ns
  obtain ⟨x₁, xa, dx, P, t, n, h1, h2, h3, h4, h5, h6, h7, h8, h9, h10, h11, h12, h13, h14, h15, h16, h18, h19⟩ := a3 i b wt pl hs
  have hx' : nm c.env.scope i = some x := by rw [K.is]; exact hx
  rw [hx'] at h1; cases h1
  refine ⟨m, xa, dx, P, t, n, hn, hx', h3, h2, h4, h5, h7, h6, h13, h14, h9, h10, fun q => ?_, h8, h15⟩
  rcases List.mem_append.mp q with q | q
  · exact h19 q
  · obtain ⟨p, hp, e⟩ := List.mem_map.mp q
    exact (h18 p hp).1 e
theorem strm_var {i : Nat} {b : Bool} {wt : List UInt8} {pl : Int} {x : Str} {xa : Addr} {m : Str → Option Value} {pos : Pos} {Q : Value → Shared → Prop} (K : Fok h0 c sc) (hn : s.heap.Ns c.env.locals m) (hm : m x = some (.ref xa)) (hk : c.env.kindOf x = some .local) (h1 : (x == ("__debug__" : Str)) = false)
    (hQ : Q (.ref xa) s) : wpAny (model prog w) A (eval (.Name x pos) c.env) Q E s := wpAny_Name (wpAny_loadName_local (K.is ▸ K.kind) hk hn hm hQ) h1

noncomputable def selS (attr : Str) (b : Bool) (wt : List UInt8) (pl : Int) : Option Dat :=
  if attr = "is_strict" then some (.bool b) else if attr = "waiting" then some (.bytes wt) else if attr = "place" then some (.int pl) else none
theorem sel_get {attr : Str} {b : Bool} {wt : List UInt8} {pl : Int} {d : Dat} {P : Int × Int × Int} {t : Tok × Tok × Tok × Tok × Tok} {S : View} (h : selS attr b wt pl = some d) : ∃ v, getL attr (strmEs P t b wt pl) = some (some v) ∧ Rep S d v ∧ handedIn v = true ∧ (attr = "is_strict" ∨ attr = "waiting" ∨ attr = "place") := by
  unfold selS at h
  split at h
  · rename_i e; subst e
    cases h
    exact ⟨.bool b, rfl, by unfold Rep; rfl, rfl, .inl rfl⟩
  · split at h
    · rename_i e; subst e
      cases h
      exact ⟨.bytes wt.toArray t.2.2.1, rfl, by unfold Rep; exact ⟨_, rfl⟩, rfl, .inr (.inl rfl)⟩
    · split at h
      · rename_i e; subst e
        cases h
        exact ⟨.int pl t.2.2.2.2, rfl, by unfold Rep; exact ⟨_, rfl⟩, rfl, .inr (.inr rfl)⟩
      · cases h
noncomputable def EM.attr (i : Nat) (attr : Str) : EM Dat := fun ρ => match ρ.stm with
  | some (j, b, wt, pl) => if j = i then (selS attr b wt pl).map .ok else none
  | none => none
theorem inst_at {h : Heap} {xa dx : Addr} {es : List DictEntry} {n : Nat} (h1 : h.get? xa = some (instObj 176 dx)) (h2 : h.get? dx = some (dictOf es n)) : InstAt h xa (instObj 176 dx) 176 (some (dictOf es n)) := ⟨h1, rfl, rfl, h2⟩
theorem cls176 (w : World) (attr : Str) (h : attr = "is_strict" ∨ attr = "waiting" ∨ attr = "place") : plainGet (KF w) 176 attr = true ∧ hasDictIn (KF w) 176 = true ∧ findIn (KF w) (.ref 176) attr = some none ∧ findIn (KF w) (.ref 176) "__setattr__" = some (some (.builtin "object.__setattr__")) ∧ plainOver (KF w) 176 = true ∧ takerIn (KF w) 176 attr = some none := by
  rcases h with rfl | rfl | rfl <;> exact ⟨by rfl, by rfl, by rfl, by rfl, by rfl, by rfl⟩
theorem SemE.attr {x attr : Str} {np pos : Pos} (i : Nat) (G : Gd w h0) (hx : nm sc i = some x) (h1 : (x == ("__debug__" : Str)) = false)
    (he : ∀ env, eval (.Attribute (.Name x np) attr pos) env = (do
      let o ← eval (.Name x np) env
      standAt pos.atName
      let r ← holding [o] (getAttr o attr true)
      letTemporaryGo (.Name x np) o r
      pure r) := by intro _; with_unfolding_all rfl) : SemE prog w h0 true H sc (.Attribute (.Name x np) attr pos) (EM.attr i attr) := by
  intro c A l ρ s Q E K hA R hE r hr hQ hX
  unfold EM.attr at hr
  split at hr <;> first | (cases hr; done) | skip
  rename_i j b wt pl hst
  split at hr <;> first | (cases hr; done) | skip
  rename_i hj
  subst hj
  obtain ⟨d, hd, rfl⟩ := Option.map_eq_some_iff.mp hr
  obtain ⟨m, xa, dx, P, t, n, hn, hx', hm, hk, ho, hdo, _⟩ := strm_at K R hst hx
  obtain ⟨v, hv, hrep, hh, hat⟩ := sel_get (P := P) (t := t) (S := vw s.heap (hid c l)) hd
  obtain ⟨c1, c2, c3, _⟩ := cls176 w attr hat
  refine Attribute_any_ (strm_var (b := b) (wt := wt) (pl := pl) (i := j) K hn hm hk h1 ?_) (he _)
  exact get_value (G.X.keeps R.stays) (inst_at ho hdo) (plainGet_of c1).1 (findObj_own c2 c3 rfl (by rw [lookIn_dict]; exact hv)) hh (hQ _ rfl _ _ (.toks _) hrep)
end
end Mine
end
section
set_option Elab.async false
set_option maxRecDepth 100000
open PySem PySem.W PyProof.Rows PySem.SeqAt PySem.Spec
open Builtin Builtin.ObjectAttr
namespace Mine

section
variable {prog : Program} {w : World} {A : Around} {E : Value → Shared → Prop} {R : Result → Shared → Prop} {s : Shared} {K : Frag} {C xa dx : Addr} {es : List DictEntry} {n : Nat}
theorem osa_upd {name : Str} {tk : Tok} {v : Value} (X : K.In s.heap) (I : InstAt s.heap xa (instObj C dx) C (some (dictOf es n))) (hp : plainOver K C = true) (ht : takerIn K C name = some none) (hh : hasDictIn K C = true)
    (hl : (getL name es).isSome = true) (hz : (putL name (PyData.keyHash w.params name) (.str name s.toks) v es).length ≤ 1000)
    (h : ∀ h', Heap.SameBut dx s.heap h' → h'.get? dx = some (dictOf (putL name (PyData.keyHash w.params name) (.str name s.toks) v es) (putN name es n)) → R (.ok (.ret .none)) { s with heap := h', toks := s.toks + 1 }) :
    codeAny (model prog w) A (.call (.builtin "object.__setattr__") ⟨[.ref xa, .str name tk, v], []⟩) R s := by
  refine osa_open X I hp ht fun b => ?_
  obtain ⟨cd, hc, hd'⟩ := any_some hh
  obtain ⟨hx, hcl, hn, D⟩ := I
  have D : s.heap.get? dx = some (dictOf es n) := D
  refine wpAny_bind (wpAny_pure (wpAny_bind (wpAny_bind (wpAny_loadPart hx (wpAny_bind ((looks_clsIn X hc).here ?_))))))
  rw [hd']
  refine wpAny_pure (a := some dx) (wpAny_bind (wpAny_pure (wpAny_bind ?_)))
  unfold nsSet
  refine wpAny_bind (wpAny_bind (wpAny_askSetting (wpAny_pure (wpAny_bind (wpAny_mkText (wpAny_bind (wpAny_loadPart D ?_)))))))
  have e := putName_dict name (PyData.keyHash w.params name) (.str name s.toks) v es n
  have D' : (s.heap.update dx (Obj.putName name (PyData.keyHash w.params name) (.str name s.toks) v)).get? dx = some (dictOf (putL name (PyData.keyHash w.params name) (.str name s.toks) v es) (putN name es n)) := by
    rw [← e]; exact Heap.get?_update_self _ D (by rw [e]; rfl)
  have c : (!es.toArray.any (·.key.isStr name) && es.toArray.any (·.refKey)) = false := by
    rw [← Array.any_toList, ← Array.any_toList]
    show (!es.any (·.key.isStr name) && es.any (·.refKey)) = false
    unfold getL at hl
    split at hl
    · rename_i en he
      rw [List.any_eq_true.mpr ⟨en, List.mem_of_find?_eq_some he, List.find?_some he⟩]; rfl
    · split at hl
      · cases hl
      · rename_i z; rw [Bool.not_eq_true] at z; rw [z, Bool.and_false]
  dsimp only
  rw [aRefKeyMayBeTheName_at, c]
  refine wpAny_updatePart D ?_
  refine wpAny_bind (wpAny_lookBehind D' (pastItsLine_dict (by rw [List.size_toArray, sizeLine_eq]; omega)) ?_)
  exact wpAny_pure (h _ (Heap.SameBut.update ..) D')

theorem set_upd {name : Str} {v : Value} {Q : Unit → Shared → Prop} (X : K.In s.heap) (I : InstAt s.heap xa (instObj C dx) C (some (dictOf es n))) (hs : findIn K (.ref C) "__setattr__" = some (some (.builtin "object.__setattr__"))) (hp : plainOver K C = true) (ht : takerIn K C name = some none) (hh : hasDictIn K C = true)
    (hl : (getL name es).isSome = true) (hz : ∀ k, (putL name (PyData.keyHash w.params name) (.str name k) v es).length ≤ 1000)
    (h : ∀ h' k, Heap.SameBut dx s.heap h' → h'.get? dx = some (dictOf (putL name (PyData.keyHash w.params name) (.str name k) v es) (putN name es n)) → Q () { s with heap := h', toks := s.toks + 2 }) :
    wpAny (model prog w) A (setAttr (.ref xa) name v) Q E s :=
  set_plain X I hs (osa_upd (s := { s with toks := s.toks + 1 }) X I hp ht hh hl (hz _) fun h' hs e => h h' _ hs e)
end

section
variable {prog : Program} {w : World} {h0 : Heap} {H : Nat} {sc : Scope} {c : Fx} {A : Around} {l : Addr} {ρ : St} {s : Shared} {E : Value → Shared → Prop}

noncomputable def updS (attr : Str) (d : Dat) (wt : List UInt8) (pl : Int) : Option (List UInt8 × Int) :=
  if attr = "waiting" then (match d with | .bytes w => some (w, pl) | _ => none) else if attr = "place" then (match d with | .int p => some (wt, p) | _ => none) else none
theorem upd_put {attr : Str} {d : Dat} {b : Bool} {wt wt' : List UInt8} {pl pl' : Int} {P : Int × Int × Int} {t : Tok × Tok × Tok × Tok × Tok} {S : View} {v : Value} {n : Nat} (h : updS attr d wt pl = some (wt', pl')) (hv : Rep S d v) :
    (attr = "is_strict" ∨ attr = "waiting" ∨ attr = "place") ∧ (getL attr (strmEs P t b wt pl)).isSome = true ∧ putN attr (strmEs P t b wt pl) n = n ∧ ∃ t', ∀ hh k, putL attr hh (.str attr k) v (strmEs P t b wt pl) = strmEs P t' b wt' pl' := by
  unfold updS at h
  split at h
  · rename_i e; subst e
    split at h <;> first | (cases h; done) | skip
    cases h
    unfold Rep at hv
    obtain ⟨tk, rfl⟩ := hv
    exact ⟨.inr (.inl rfl), rfl, rfl, (t.1, t.2.1, tk, t.2.2.2.1, t.2.2.2.2), fun _ _ => rfl⟩
  · split at h
    · rename_i e; subst e
      split at h <;> first | (cases h; done) | skip
      cases h
      unfold Rep at hv
      obtain ⟨tk, rfl⟩ := hv
      exact ⟨.inr (.inr rfl), rfl, rfl, (t.1, t.2.1, t.2.2.1, t.2.2.2.1, tk), fun _ _ => rfl⟩
    · cases h
noncomputable def SM.attr (i : Nat) (attr : Str) (d : Dat) : SM := fun ρ => match ρ.stm with
  | some (j, b, wt, pl) => if j = i then (updS attr d wt pl).map fun p => .next { ρ with stm := some (j, b, p.1, p.2) } else none
  | none => none
theorem SemS.attr {x attr : Str} {np ap pos : Pos} {e : Expr} {φ : EM Dat} (i : Nat) (G : Gd w h0) (a : SemE prog w h0 true H sc e φ) (hx : nm sc i = some x) (h1 : (x == ("__debug__" : Str)) = false)
    (hs : ∀ env, swapsWith e (some (.Attribute (.Name x np) attr ap)) pos.line env = pure false := by intro _; rfl) :
    SemS prog w h0 true H sc (.Assign [.Attribute (.Name x np) attr ap] e pos) (SM.ofE φ (SM.attr i attr)) := by
  intro c A l ρ s Q E K hA R hE hfe o ho hP
  refine plainObj_wpAny_Assign_Attribute (a.useS K hA R hE ho hP fun d v s₁ ho₁ G₁ R₁ hv hP₁ => ?_) (hs _)
  unfold SM.attr at ho₁
  split at ho₁ <;> first | (cases ho₁; done) | skip
  rename_i j b wt pl hst
  split at ho₁ <;> first | (cases ho₁; done) | skip
  rename_i hj
  subst hj
  obtain ⟨⟨wt', pl'⟩, hu, rfl⟩ := Option.map_eq_some_iff.mp ho₁
  obtain ⟨m, xa, dx, P, t, n, hn, hx', hm, hk, ho, hdo, hdF, _⟩ := strm_at K R₁ hst hx
  obtain ⟨hat, hsome, hN, t', hput⟩ := upd_put (b := b) (P := P) (t := t) (n := n) hu hv
  obtain ⟨c1, c2, c3, c4, c5, c6⟩ := cls176 w attr hat
  refine strm_var (b := b) (wt := wt) (pl := pl) (i := j) K hn hm hk h1 ?_
  refine set_upd (G.X.keeps R₁.stays) (inst_at ho hdo) c4 c5 c6 c2 hsome (fun k => by rw [hput]; exact Nat.le_of_ble_eq_true rfl) fun h' k hs' hd' => ?_
  rw [hput, hN] at hd'
  refine hP₁ l _ rfl rfl (strm_step K R₁ hst hn hx' hm ho hdo (fun b' ob hb e => ?_) hd').1
  have nb : b' ≠ dx := by simpa using hb
  exact ⟨⟨ob.slots, (hs'.2 b' nb).trans e⟩, fun _ => (hs'.2 b' nb).trans e⟩
end
end Mine
end
section
set_option Elab.async false
set_option maxRecDepth 100000
open PySem PySem.W PyProof.Rows PySem.SeqAt PySem.Spec
open Builtin Builtin.ObjectAttr
namespace Mine

section
variable {prog : Program} {w : World} {h0 : Heap} {H : Nat} {sc : Scope} {c : Fx} {A : Around} {l : Addr} {ρ : St} {s : Shared} {E : Value → Shared → Prop}

theorem init165 {xa dx : Addr} {b : Bool} {R : Result → Shared → Prop} (G : Gd w h0) (hst : h0.StaysIn s.heap) (hdp : A.depth < recursionLimit)
    (hx : s.heap.get? xa = some (instObj 176 dx)) (hd : s.heap.get? dx = some (dictOf [] 0)) (hne : dx ≠ xa) (h0x : h0.get? xa = none) (h0d : h0.get? dx = none)
    (hR : ∀ h' tk P t n, (∀ b' ob, b' ≠ dx → s.heap.get? b' = some ob → h'.get? b' = some ob) → h'.get? dx = some (dictOf (strmEs P t b [] 0) n) → R (.ok (.ret .none)) { s with heap := h', toks := tk }) :
    codeAny (model prog w) A (.call (.ref 165) ⟨[.ref xa, .bool b], []⟩) R s := by
  have X := G.X.keeps hst
  obtain ⟨mg, mb, T⟩ := G.T
  refine codeAny_call_def (binds := [("self", .ref xa), ("is_strict", .bool b)]) hdp (X 165 _ (by rfl)) rfl (T.nolimit.keeps hst) (codeRec_of X (by rfl)) rfl ?_ ?_ ?_ (fun h₁ hns hk₁ => ?_) rfl rfl rfl
  · exact BindsTo.of_defaults (T := 158) rfl (X 158 _ (by rfl)) rfl rfl rfl
  · decide
  · exact locs (by rfl)
  have hx₁ := hk₁ _ _ hx
  have hd₁ := hk₁ _ _ hd
  have nL : ∀ b' ob, s.heap.get? b' = some ob → b' ≠ s.heap.objs.size := fun b' ob e q => by rw [q] at e; exact Nat.lt_irrefl _ (Heap.lt_size e)
  have X₁ : (KF w).In h₁ := fun b' ob e => hk₁ _ _ (X b' ob e)
  have Xup : ∀ {g g' : Heap}, (KF w).In g → (∀ b' o, h0.get? b' = some o → g.get? b' = some o) → Heap.SameBut dx g g' → (KF w).In g' := fun {g g'} Y _ hs b' o e => (hs.2 b' fun q => by
    have e1 := G.X b' o e
    rw [q, h0d] at e1; cases e1).trans (Y b' o e)
  have nsUp : ∀ {g g' : Heap} {m : Str → Option Value}, g.Ns s.heap.objs.size m → Heap.SameBut dx g g' → g'.Ns s.heap.objs.size m := fun {g g' m} hn hs => by
    obtain ⟨o, es, ep, e1, r⟩ := hn
    exact ⟨o, es, ep, (hs.2 _ fun q => nL _ _ hd q.symm).trans e1, r⟩
  have c1 := cls176 w "is_strict" (.inl rfl)
  have c2 := cls176 w "waiting" (.inr (.inl rfl))
  have c3 := cls176 w "place" (.inr (.inr rfl))
  refine wpAny_execs_cons (plainObj_wpAny_Assign_Attribute ?_ rfl)
  refine wpAny_Name (wpAny_loadName_local rfl rfl hns (v := .bool b) rfl ?_)
  refine wpAny_Name (wpAny_loadName_local rfl rfl hns (v := .ref xa) rfl ?_)
  refine set_upd X₁ (inst_at hx₁ hd₁) c1.2.2.2.1 c1.2.2.2.2.1 c1.2.2.2.2.2 c1.2.1 rfl (fun k => Nat.le_of_ble_eq_true rfl) fun h₂ k₂ hs₂ hd₂ => ?_
  refine wpAny_execs_cons (plainObj_wpAny_Assign_Attribute ?_ rfl)
  refine Constant_bytes ?_
  have hns₂ := nsUp hns hs₂
  have hx₂ := (hs₂.2 xa (Ne.symm hne)).trans hx₁
  refine wpAny_Name (wpAny_loadName_local rfl rfl hns₂ (v := .ref xa) rfl ?_)
  have X₂ := Xup X₁ (fun b' o e => hk₁ _ _ (hst b' o e)) hs₂
  refine set_upd X₂ (inst_at hx₂ hd₂) c2.2.2.2.1 c2.2.2.2.2.1 c2.2.2.2.2.2 c2.2.1 rfl (fun k => Nat.le_of_ble_eq_true rfl) fun h₃ k₃ hs₃ hd₃ => ?_
  refine wpAny_execs_cons (plainObj_wpAny_Assign_Attribute ?_ rfl)
  refine wpAny_Constant_int ?_
  have hns₃ := nsUp hns₂ hs₃
  have hx₃ := (hs₃.2 xa (Ne.symm hne)).trans hx₂
  refine wpAny_Name (wpAny_loadName_local rfl rfl hns₃ (v := .ref xa) rfl ?_)
  have X₃ := Xup X₂ (fun b' o e => (hs₂.2 b' fun q => by rw [q, h0d] at e; cases e).trans (hk₁ _ _ (hst b' o e))) hs₃
  refine set_upd X₃ (inst_at hx₃ hd₃) c3.2.2.2.1 c3.2.2.2.2.1 c3.2.2.2.2.2 c3.2.1 rfl (fun k => Nat.le_of_ble_eq_true rfl) fun h₄ k₄ hs₄ hd₄ => ?_
  refine wpAny_execs_nil (hR h₄ _ (_, _, _) (k₂, k₃, _, k₄, _) _ (fun b' ob nb e => ?_) hd₄)
  exact (hs₄.2 b' nb).trans ((hs₃.2 b' nb).trans ((hs₂.2 b' nb).trans (hk₁ _ _ e)))

structure NewStrm (h h' : Heap) (xa dx : Addr) (b : Bool) : Prop where
  keeps : ∀ b' o, h.get? b' = some o → h'.get? b' = some o
  x : h'.get? xa = some (instObj 176 dx)
  d : ∃ P t n, h'.get? dx = some (dictOf (strmEs P t b [] 0) n)
  xn : h.get? xa = none
  dn : h.get? dx = none
  ne : dx ≠ xa
theorem new_strm {b : Bool} {Q : Value → Shared → Prop} (G : Gd w h0) (hst : h0.StaysIn s.heap) (hdp : A.depth + 1 < recursionLimit)
    (hQ : ∀ h' xa dx tk, NewStrm s.heap h' xa dx b → Q (.ref xa) { s with heap := h', toks := tk }) : wpAny (model prog w) A (call (.ref 176) [.bool b]) Q E s := by
  have X := G.X.keeps hst
  obtain ⟨hh, g, d, t, os⟩ := s
  refine wpAny_call ?_
  have hi : findIn (KF w) (.ref 176) "__init__" = some (some (.ref 165)) := by rfl
  refine make_core (makes_of X (C := 176) (by rfl)) (looks_findIn X hi) (fun self => bind_fn X self (by rfl)) (.inl (by rfl)) ?_
  have e1 : ((hh.push emptyDict).push (instObj 176 hh.objs.size)).get? (hh.objs.size + 1) = some (instObj 176 hh.objs.size) := by
    have := Heap.get?_push_size (hh.push emptyDict) (o := instObj 176 hh.objs.size) rfl
    rwa [Heap.size_push] at this
  have e2 : ((hh.push emptyDict).push (instObj 176 hh.objs.size)).get? hh.objs.size = some (dictOf [] 0) := Heap.get?_push_of_some _ (Heap.get?_push_size hh rfl)
  have kp : ∀ b' o, hh.get? b' = some o → ((hh.push emptyDict).push (instObj 176 hh.objs.size)).get? b' = some o := fun b' o e => Heap.get?_push_of_some _ (Heap.get?_push_of_some _ e)
  have nx : hh.get? (hh.objs.size + 1) = none := Heap.get?_none_of_le (Nat.le_succ _)
  have nd : hh.get? hh.objs.size = none := Heap.get?_none_of_le (Nat.le_refl _)
  have no0 : ∀ a, hh.get? a = none → h0.get? a = none := fun a e => by
    cases q : h0.get? a with
    | none => rfl
    | some o => have e3 := e.symm.trans (hst a o q); cases e3
  refine init165 (s := ⟨(hh.push emptyDict).push (instObj 176 hh.objs.size), g, d, t, os⟩) G (fun b' o e => kp b' o (hst b' o e)) ?_ e1 e2 (Nat.ne_of_lt (Nat.lt_succ_self _)) (no0 _ nx) (no0 _ nd) fun h' tk P t' n hk hd => ?_
  · exact hdp
  · refine ⟨rfl, hQ h' _ _ tk ⟨fun b' o e => hk b' o (fun q => ?_) (kp b' o e), hk _ _ (Nat.ne_of_gt (Nat.lt_succ_self _)) e1, ⟨P, t', n, hd⟩, nx, nd, Nat.ne_of_lt (Nat.lt_succ_self _)⟩⟩
    rw [q] at e
    have e3 := nd.symm.trans e; cases e3
end
end Mine
end
section
set_option Elab.async false
set_option maxRecDepth 100000
open PySem PySem.W PyProof.Rows PySem.SeqAt PySem.Spec
namespace Mine

section
variable {prog : Program} {w : World} {h0 : Heap} {H : Nat} {sc : Scope} {c : Fx} {A : Around} {l : Addr} {ρ : St} {s : Shared} {E : Value → Shared → Prop}

noncomputable def SM.strm (i : Nat) (b : Bool) : SM := fun ρ => if ρ.stm.isNone && ρ.free i then some (.next { ρ with stm := some (i, b, [], 0), loc := ρ.cut i }) else none
theorem strm_some {i : Nat} {b : Bool} {o : Out} (h : SM.strm i b ρ = some o) : ρ.stm = none ∧ ρ.free i = true ∧ o = .next { ρ with stm := some (i, b, [], 0), loc := ρ.cut i } := by
  unfold SM.strm at h
  split at h <;> first | (cases h; done) | skip
  rename_i hf
  obtain ⟨f1, f2⟩ := Bool.and_eq_true_iff.mp hf
  exact ⟨Option.isNone_iff_eq_none.mp f1, f2, (Option.some.inj h).symm⟩

theorem Rel.strm {h h' : Heap} {i n : Nat} {x : Str} {b : Bool} {xa dx : Addr} {P : Int × Int × Int} {t : Tok × Tok × Tok × Tok × Tok} {m : Str → Option Value}
    (K : Fok h0 ((c.pinned xa (instObj 176 dx)).pinned dx (dictOf (strmEs P t b [] 0) n)) sc) (R : Rel h0 ((c.pinned xa (instObj 176 dx)).pinned dx (dictOf (strmEs P t b [] 0) n)) l ρ h) (hx : nm sc i = some x) (hk : c.env.kindOf x = some .local) (hf : ρ.free i = true)
    (hn : h.Ns c.env.locals m) (hn' : h'.Ns c.env.locals (fun y => if y = x then some (.ref xa) else m y)) (hs : Heap.SameBut c.env.locals h h') :
    Rel h0 c l { ρ with stm := some (i, b, [], 0), loc := ρ.cut i } h' := by
  obtain ⟨m', hm', a1, a2, a3⟩ := R.ns
  obtain rfl : m' = m := ns_eq hm' hn
  obtain ⟨o', ho', hd'⟩ := ns_obj hn'
  obtain ⟨t1, t2, t3, t4, t5⟩ := touch R hs (.inl K.gL) K.bL ho' hd'
  obtain ⟨p1, pX, pF, pL, pl, p0, pg, pM⟩ := R.pin _ (.head _)
  obtain ⟨q1, qX, qF, qL, ql, q0, qg, qM⟩ := R.pin _ (.tail _ (.head _))
  have hnd := K.pnd
  obtain ⟨n1, hnd⟩ := List.nodup_cons.mp (show (dx :: xa :: c.P.map (·.1)).Nodup from hnd)
  obtain ⟨n2, _⟩ := List.nodup_cons.mp hnd
  have ndx : dx ≠ xa := fun q => n1 (q ▸ .head _)
  have V : VLe (vw h (hid ((c.pinned xa (instObj 176 dx)).pinned dx (dictOf (strmEs P t b [] 0) n)) l)) (vw h' (hid c l)) := fun b' ob e => by
    have nb := vw_not e
    exact vw_at ((hs.2 b' fun q => nb (by rw [q]; exact .head _)).trans (vw_get e)) fun q => nb (mem_hid_pinned.mpr (.inr (mem_hid_pinned.mpr (.inr q))))
  have other : ∀ j y, j ≠ i → nm c.env.scope j = some y → (fun y => if y = x then some (.ref xa) else m' y) y = m' y := fun j y hj hy => by
    show (if y = x then some (.ref xa) else m' y) = m' y
    rw [if_neg]
    intro q
    subst q
    rw [show c.env.scope = sc from K.is] at hy
    exact hj (nm_inj K.dup hy hx)
  have cells : ∀ b' ob v, h.get? b' = some ob → ob.data = .cell v → h'.get? b' = some ob := fun b' ob v e hd => (hs.2 b' fun q => ns_nocell hn ob v (q ▸ e) hd).trans e
  unfold St.free at hf
  obtain ⟨f1, f2⟩ := Bool.and_eq_true_iff.mp hf
  refine ⟨t1, t2, t3, R.lb, fun p hp => ?_, t4, fun p hp => (R.see p hp).mono V, t5, _, hn', fun j e he => ?_, fun j ds he => ?_, fun j b' wt pl' he => ?_⟩
  · obtain ⟨u1, u2, u3, u4, u5⟩ := R.pin p (.tail _ (.tail _ hp))
    exact ⟨(hs.2 _ u4).trans u1, u2, u3, u4, u5⟩
  · unfold St.cut at he
    dsimp only at he
    by_cases hj : j = i
    · rw [if_pos hj] at he; cases he
    · rw [if_neg hj] at he
      obtain ⟨y, hy, hl⟩ := a1 j e he
      exact ⟨y, hy, LocAt.to (c := (c.pinned xa (instObj 176 dx)).pinned dx (dictOf (strmEs P t b [] 0) n)) rfl rfl rfl rfl V (other j y hj hy) cells hl⟩
  · have he : ρ.own = some (j, ds) := he
    obtain ⟨y, vs, nn, h1, h2, h3, h4, h5, r6, h7, r8⟩ := a2 j ds he
    rw [he] at f1
    exact ⟨y, vs, nn, h1, h2, (other j y (by simpa using f1) h1).trans h3, (hs.2 _ h7).trans h4, h5.mono V, r6, h7, r8⟩
  · cases he
    exact ⟨x, xa, dx, P, t, n, by rw [show c.env.scope = sc from K.is]; exact hx, hk, if_pos rfl, (hs.2 _ qL).trans q1, (hs.2 _ pL).trans p1, qF, pF, ndx, pl, pL, ql, qL, p0, q0, ⟨pg, pX⟩, qX,
      fun p hp => ⟨fun q => n1 (.tail _ (List.mem_map.mpr ⟨p, hp, q⟩)), fun q => n2 (List.mem_map.mpr ⟨p, hp, q⟩)⟩, pM⟩

theorem stores_then (K : Fok h0 c sc) {ts₂ : List (Value → Sem Unit)} {vs₂ : List Value} : ∀ {is : List Nat} {xs : List Str} {ds : List Dat} {vs : List Value} {ρ ρ' : St} {s : Shared} {ts : List (Value → Sem Unit)} {Q : Unit → Shared → Prop},
    (∀ k : Nat, ∀ x t, xs[k]? = some x → ts[k]? = some t → ∀ v s Q E, wpAny (model prog w) A (storeName c.env x v) Q E s → wpAny (model prog w) A (t v) Q E s) → xs.length = is.length → ts.length = is.length →
    (∀ k : Nat, ∀ x i, xs[k]? = some x → is[k]? = some i → nm sc i = some x ∧ sc.names.lookup x = some .local) →
    Rel h0 c l ρ s.heap → Reps (vw s.heap (hid c l)) ds vs → SM.puts is ds ρ = some (.next ρ') →
    (∀ s', s'.gens = s.gens → s'.os = s.os → Rel h0 c l ρ' s'.heap → wpAny (model prog w) A (assignInOrder ts₂ vs₂) Q E s') → wpAny (model prog w) A (assignInOrder (ts ++ ts₂) (vs ++ vs₂)) Q E s
  | [], xs, ds, vs, ρ, ρ', s, ts, Q, _, hx, ht, _, R, hv, hp, hQ => by
    cases ts with
    | nil =>
      cases ds with
      | nil =>
        obtain rfl : ρ = ρ' := by injection (Option.some.inj hp)
        unfold Reps at hv
        subst hv
        exact hQ _ rfl rfl R
      | cons d ds => cases hp
    | cons t ts => cases ht
  | i :: is, xs, ds, vs, ρ, ρ', s, ts, Q, hst, hx, ht, hnm, R, hv, hp, hQ => by
    cases ts with
    | nil => cases ht
    | cons t ts =>
    cases xs with
    | nil => cases hx
    | cons x xs =>
    cases ds with
    | nil => cases hp
    | cons d ds =>
      unfold Reps at hv
      obtain ⟨v, r, rfl, h1, h2⟩ := hv
      obtain ⟨ρ₁, e1, e2⟩ := seq_some hp
      obtain ⟨hf, e3⟩ := put_some e1
      injection e3 with e3
      subst e3
      obtain ⟨n1, n2⟩ := hnm 0 x i rfl rfl
      show wpAny _ _ (do holding (r ++ vs₂) (t v); assignInOrder (ts ++ ts₂) (r ++ vs₂)) _ _ _
      refine wpAny_bind (wpAny_holding (hst 0 x t rfl rfl v s _ E ?_))
      refine store_sound K R n1 n2 hf h1 fun s' g k R' V => ?_
      exact stores_then K (fun k x t a b => hst (k + 1) x t (by simpa using a) (by simpa using b)) (Nat.succ.inj hx) (Nat.succ.inj ht) (fun k x i a b => hnm (k + 1) x i (by simpa using a) (by simpa using b)) R' (h2.mono V) e2 fun s'' g' k' R'' => hQ s'' (g'.trans g) (k'.trans k) R''

/-- stream, .. = (Utf8Stream(b), ..) -/
theorem SemS.strm {x₁ C : Str} {p₁ cp cpos tp vp pos kp : Pos} {els es : List Expr} {is : List Nat} {xs : List Str} {k k' kk} {b : Bool} {φ : EM (List Dat)} (i : Nat) (G : Gd w h0) (hH : 2 ≤ H) (hx : nm sc i = some x₁) (hk : sc.names.lookup x₁ = some .local) (N : NamesAt sc els is xs) (hz : is.length ≤ 8)
    (hxC : sc.names.lookup C = some .globalImplicit) (hgC : nsIn (KF w) mainGlobals C = some (some (.ref 176))) (hdC : (C == ("__debug__" : Str)) = false)
    (a : SemA prog w h0 true H sc es φ)
    (hs : ∀ env, swapsWithSole [.Tuple (.Name x₁ p₁ :: els) k tp] (.Tuple (.Call (.Name C cp) [.Constant (.bool b) kk kp] [] cpos :: es) k' vp) pos.line env = pure false := by intro _; rfl)
    (hw : ∀ env : Env, env.scope = sc → swappedStores [.Tuple (.Name x₁ p₁ :: els) k tp] (.Tuple (.Call (.Name C cp) [.Constant (.bool b) kk kp] [] cpos :: es) k' vp) env = pure (some (x₁ :: xs)))
    (he : ∀ env, starEach (.Call (.Name C cp) [.Constant (.bool b) kk kp] [] cpos :: es) env = (false, eval (.Call (.Name C cp) [.Constant (.bool b) kk kp] [] cpos) env) :: starEach es env := by intro _; rfl) :
    SemS prog w h0 true H sc (.Assign [.Tuple (.Name x₁ p₁ :: els) k tp] (.Tuple (.Call (.Name C cp) [.Constant (.bool b) kk kp] [] cpos :: es) k' vp) pos)
      (SM.ofE φ fun ds => if ds.length = is.length then SM.seq (SM.puts is.reverse ds.reverse) (SM.strm i b) else fun _ => none) := by
  intro c A l ρ s Q E K hA R hE hfe o ho hP
  refine Assign_Tuple_swapped (Tuple_ ?_) (hs _) (hw _ K.is)
  rw [he]
  refine Calls.spliced_cons (Call_Name rfl (glob_at G K R hxC hgC hdC ?_))
  refine callWith_K (K := KF w) (h₀ := h0) G.X (by rfl) ?_ rfl rfl
  refine Calls.spliced_cons (Constant_bool (k := kk) (pos := kp) (Calls.spliced_nil ⟨G.X.keeps R.stays, ?_⟩))
  refine new_strm G R.stays (by have := hA.depth; omega) fun h₁ xa dx tk M => ?_
  obtain ⟨P, t, n, hdx⟩ := M.d
  have kh : ∀ b' o, s.heap.get? b' = some o → (h₁.hide dx).get? b' = some o := fun b' o e => (Heap.hide_ne h₁ fun q => by rw [q] at e; have e2 := M.dn.symm.trans e; cases e2).trans (M.keeps b' o e)
  obtain ⟨R₁, n1⟩ := R.newPinX K M.xn (.of_keeps kh) ((Heap.hide_ne h₁ (Ne.symm M.ne)).trans M.x)
  have K₁ := K.pinned (instObj 176 dx) n1
  obtain ⟨R₂, n2⟩ := R₁.newPinX K₁ (Heap.hide_self h₁ dx) (.of_keeps fun b' o e => Heap.of_hide e) hdx
  have K₂ := K₁.pinned (dictOf (strmEs P t b [] 0) n) n2
  unfold SM.ofE at ho
  cases hφ : φ ρ with
  | none => rw [hφ] at ho; cases ho
  | some r =>
    rw [hφ] at ho
    refine (a vp) ((c.pinned xa (instObj 176 dx)).pinned dx (dictOf (strmEs P t b [] 0) n)) A l ρ { s with heap := h₁, toks := tk } _ E K₂ ((hA.pinned _ _).pinned _ _) R₂ hE r hφ (fun ds hd vs s₂ G₂ hv => ?_) fun Cx hC e s' h1 h2 h3 => ?_
    · subst hd
      dsimp only at ho
      split at ho <;> first | (cases ho; done) | skip
      rename_i hlen
      have R₃ := R₂.goes (s := { s with heap := h₁, toks := tk }) K₂ G₂
      refine wpAny_newObj_type ?_ (by show (Value.ref xa :: vs).toArray.size ≤ sizeLine; rw [List.size_toArray, List.length_cons, hv.length, hlen, sizeLine_eq]; omega)
      have G₃ : Goes ((c.pinned xa (instObj 176 dx)).pinned dx (dictOf (strmEs P t b [] 0) n)) s₂ { s₂ with heap := s₂.heap.push { cls := .type "tuple", data := .seq (Value.ref xa :: vs).toArray } } := .push'
      have R₄ := R₃.goes K₂ G₃
      generalize hs3 : ({ s₂ with heap := s₂.heap.push { cls := .type "tuple", data := .seq (Value.ref xa :: vs).toArray } } : Shared) = s₃ at *
      have htup : IsTup s₃.heap s₂.heap.objs.size (Value.ref xa :: vs).toArray := by rw [← hs3]; exact ⟨_, Heap.get?_push_size _ rfl, rfl, _, rfl⟩
      have hsz : (x₁ :: xs).length = (Value.ref xa :: vs).toArray.size := by rw [List.size_toArray, List.length_cons, List.length_cons, N.len.1, hv.length, hlen]
      rw [hsz]
      refine unpackItems_tuple (hA.handled rfl) htup fun h' hb => ?_
      obtain ⟨R₅, V₅⟩ := unpack_rel K₂ R₄ hb
      have hv₅ := (hv.mono (G₃.vle l)).mono V₅
      obtain ⟨ρ₁, e1, e2⟩ := seq_any ho fun o₁ e => puts_next e
      obtain ⟨f1, f2, rfl⟩ := strm_some e2
      show wpAny _ _ (assignInOrder ((x₁ :: xs).reverse.map fun n => bindName c.env n) (Value.ref xa :: vs).reverse) _ _ _
      rw [List.reverse_cons, List.reverse_cons, List.map_append]
      refine stores_then (s := { s₃ with heap := h' }) (xs := xs.reverse) K₂ (fun k x t a b v s Q E h => ?_) (by rw [List.length_reverse, List.length_reverse]; exact N.len.1) (by rw [List.length_map, List.length_reverse, List.length_reverse]; exact N.len.1) (fun k x i a b => ?_) R₅ hv₅.reverse e1 fun s₆ g₆ k₆ R₆ => ?_
      · rw [List.getElem?_map, a] at b
        obtain rfl := Option.some.inj b
        exact bindName_ h
      · have hk : k < xs.length := by
          have := (List.getElem?_eq_some_iff.mp a).1
          simpa using this
        rw [List.getElem?_reverse hk] at a
        rw [List.getElem?_reverse (by rw [← N.len.1]; exact hk)] at b
        exact N.at (xs.length - 1 - k) x i a (by rw [N.len.1]; exact b)
      · show wpAny _ _ (do holding [] (bindName c.env x₁ (.ref xa)); pure ()) _ _ _
        refine wpAny_bind (wpAny_holding (bindName_ ?_))
        obtain ⟨m, hn, _⟩ := R₆.ns
        have hk' : c.env.kindOf x₁ = some .local := by rw [Env.kindOf, K.is]; exact hk
        refine wpAny_storeName_local hk' hn (fun h₇ hn₇ hs₇ => wpAny_pure (hP l _ ?_ ?_ (Rel.strm K₂ R₆ hx hk' f2 hn hn₇ hs₇))) (by rw [K.is, K.kind]; rfl)
        · show s₆.gens = _; rw [g₆]; show s₃.gens = _; rw [G₃.gens, G₂.gens]
        · show s₆.os = _; rw [k₆]; show s₃.os = _; rw [G₃.os, G₂.os]
    · subst hC
      obtain rfl := Option.some.inj ho
      exact hP e s' h1 h2 h3.unpin.unpin
end
end Mine
end
section
set_option Elab.async false
set_option maxRecDepth 100000
open PySem PySem.W PyProof.Rows PySem.SeqAt PySem.Spec
namespace Mine

section
variable {prog : Program} {w : World} {h0 : Heap} {H : Nat} {sc : Scope} {c : Fx} {A : Around} {l : Addr} {ρ : St} {s : Shared} {E : Value → Shared → Prop}

theorem execs_app {env : Env} : ∀ (a b : List Stmt), execs (a ++ b) env = (execs a env >>= fun f => match f with | .next => execs b env | f => pure f)
  | [], b => by
    show execs b env = ((pure Flow.next : Sem Flow) >>= _)
    rw [pure_bind]
  | st :: a, b => by
    rw [List.cons_append, execs_cons, execs_cons, bind_assoc]
    congr 1
    funext f
    cases f with
    | next => exact execs_app a b
    | _ => simp

noncomputable abbrev FeedF := Bool → List UInt8 → Int → List UInt8 → Bool → Option (Except Addr (List Dat × List UInt8 × Int))
noncomputable def FeedSpec (prog : Program) (w : World) (h0 : Heap) (H : Nat) (F : FeedF) : Prop :=
  ∀ (A : Around) (fs : List Env) (M : List Addr) (s : Shared) (xa dx : Addr) (P : Int × Int × Int) (t : Tok × Tok × Tok × Tok × Tok) (n : Nat) (b : Bool) (wt : List UInt8) (pl : Int) (octets : List UInt8) (tk : Tok) (last : Bool) (Q E : Value → Shared → Prop),
    A.frames = some fs → A.handled = none → A.depth + H < recursionLimit → A.units + 16 * H + 16 < cLine →
    h0.StaysIn s.heap → s.heap.FunFrames h0 fs → (∀ a, a ∈ M → h0.get? a = none ∧ ∃ o, s.heap.get? a = some o) →
    s.heap.get? xa = some (instObj 176 dx) → s.heap.get? dx = some (dictOf (strmEs P t b wt pl) n) → xa ∉ addrs fs → dx ∉ addrs fs → dx ≠ xa → h0.get? dx = none → h0.get? xa = none → dx ∉ M →
    ∀ r, F b wt pl octets last = some r →
    (∀ ds wt' pl', r = .ok (ds, wt', pl') → ∀ v s' P' t' n', Ext [dx] fs s.heap s'.heap → s'.gens = s.gens → s'.os = s.os → s'.heap.get? dx = some (dictOf (strmEs P' t' b wt' pl') n') → Rep (vw s'.heap (M ++ addrs fs)) (.list ds) v → Q v s') →
    (∀ C, r = .error C → ∀ e s', Ext [dx] fs s.heap s'.heap → s'.gens = s.gens → s'.os = s.os → Flown h0 fs (s.heap.hide dx) e C s'.heap → E (.ref e) s') →
    wpAny (model prog w) A (call (.ref 173) [.ref xa, .bytes octets.toArray tk, .bool last]) Q E s

noncomputable def feedSt (xa : Addr) (b : Bool) (wt : List UInt8) (pl : Int) (octets : List UInt8) (last : Bool) : St :=
  { loc := fun j => if j = 0 then some (.obj xa) else if j = 1 then some (.bytes octets) else if j = 2 then some (.bool last) else none, stm := some (0, b, wt, pl) }
noncomputable def feedRes (b : Bool) : Option Out → Option (Except Addr (List Dat × List UInt8 × Int))
  | some (.next ρ) => (match ρ.own, ρ.stm with
    | some (i, ds), some (j, b', wt, pl) => if i = 4 ∧ j = 0 ∧ b' = b then some (.ok (ds, wt, pl)) else none
    | _, _ => none)
  | some (.raise C) => some (.error C)
  | _ => none

theorem ext_hide {fs : List Env} {h h' : Heap} {dx : Addr} (x : Ext [] fs (h.hide dx) h') : Ext [dx] fs h h' := fun b o hb e => x b o (by simp) ((Heap.hide_ne h (by simpa using hb)).trans e)

theorem feed_spec {fd : FuncData} {oc : Value} {od : Option Addr} {osl : Array (Option Value)} {pre : List Stmt} {rp np : Pos} {ψ : SM} {F : FeedF} (G : Gd w h0)
    (ho : (KF w).lookup 173 = some ⟨oc, od, .func fd, osl⟩) (hbody : fd.body = .stmts (pre ++ [.Return (some (.Name "found" np)) rp])) (hsem : SemB prog w h0 true H fd.scope pre ψ) (hcd : codeIn (KF w) fd.code fd.qualname = true)
    (hgl : fd.globals = mainGlobals) (hbl : fd.builtins = builtinsNs)
    (hbind : ∀ s a b c, (KF w).In s.heap → BindsTo s fd ⟨[a, b, c], []⟩ [("self", a), ("octets", b), ("is_last", c)])
    (hn0 : nm fd.scope 0 = some "self") (hn1 : nm fd.scope 1 = some "octets") (hn2 : nm fd.scope 2 = some "is_last") (hn4 : nm fd.scope 4 = some "found")
    (hl0 : fd.scope.names.lookup ("self" : Str) = some .local) (hl1 : fd.scope.names.lookup ("octets" : Str) = some .local) (hl2 : fd.scope.names.lookup ("is_last" : Str) = some .local)
    (hdup : (fd.scope.names.map (·.1)).Nodup) (hcell : ∀ x ∈ fd.scope.names, x.2 ≠ .cell)
    (hco : fd.scope.isCoroutine = false) (hgen : fd.scope.isGenerator = false) (hk : fd.scope.kind = .function)
    (hF : ∀ xa b wt pl octets last r, F b wt pl octets last = some r → feedRes b (ψ (feedSt xa b wt pl octets last)) = some r ∧ ∀ ρ', ψ (feedSt xa b wt pl octets last) = some (.next ρ') → ∃ a, ρ'.loc 0 = some (.obj a) ∧ a = xa) :
    FeedSpec prog w h0 (H + 1) F := by
  intro A fs M s xa dx P t n b wt pl octets tk last Q E hfr hh hdp hun hst hff hM hxo hdo hxF hdF hne h0d h0x hdM r hr hQ hX
  have X : (KF w).In s.heap := G.X.keeps hst
  obtain ⟨mg, mb, T⟩ := G.T
  obtain ⟨hres, hobj⟩ := hF xa b wt pl octets last r hr
  refine wpAny_call (codeAny_call_def (fd := fd) (body := pre ++ [.Return (some (.Name "found" np)) rp]) (binds := [("self", .ref xa), ("octets", .bytes octets.toArray tk), ("is_last", .bool last)]) (by omega) (X _ _ ho) rfl (T.nolimit.keeps hst) (codeRec_of X hcd) hbody (hbind s _ _ _ X) hcell (fun x hx => ?_) (fun h₁ hns hk₁ => ?_) hco hgen hk)
  · simp only [List.mem_cons, List.not_mem_nil, or_false] at hx
    rcases hx with rfl | rfl | rfl
    · exact hl0
    · exact hl1
    · exact hl2
  generalize hL : s.heap.objs.size = L at *
  let env := callEnv fd L 173
  let c : Fx := { env := env, fenv := env, fs := fs, g := s.heap.hide dx, X := [], M := M }
  have hsL : s.heap.get? L = none := by
    cases e : s.heap.get? L with
    | none => rfl
    | some o => exact absurd (Heap.lt_size e) (by rw [hL]; exact Nat.lt_irrefl _)
  have hgL : (s.heap.hide dx).get? L = none := by
    cases e : (s.heap.hide dx).get? L with
    | none => rfl
    | some o => have := hsL.symm.trans (Heap.of_hide e); cases this
  have h0L : h0.get? L = none := by
    cases e : h0.get? L with
    | none => rfl
    | some o => have := hst _ _ e; rw [hsL] at this; cases this
  have K : Fok h0 c fd.scope := ⟨rfl, hk, hgl, hbl, ⟨L, rfl, rfl, hgL⟩, hgL, h0L, by simp [c], (fun a h => by cases h), (fun a h => by cases h), fun a ha => ⟨(hM a ha).1, by simp [c]⟩, hdup, by simp [c]⟩
  have hA' : AOk true H c (A.deeper env) := ⟨Around.frames_deeper hfr, by show A.depth + 1 + H < _; omega, by show A.units + 3 + 16 * H + 16 < _; omega, fun _ => hh⟩
  obtain ⟨oL, hoL, hdL⟩ := ns_obj hns
  have hff1 : h₁.FunFrames h0 fs := funFrames_keep (fun b o e hn => ⟨o, hk₁ b o e, hn⟩) hff
  have nxL : xa ≠ L := fun q => by rw [q, hsL] at hxo; cases hxo
  have ndL : dx ≠ L := fun q => by rw [q, hsL] at hdo; cases hdo
  have inF : ∀ a, a ≠ L → a ∉ addrs fs → a ∉ addrs (env :: fs) := fun a n1 n2 q => by
    have e : addrs (env :: fs) = L :: addrs fs := rfl
    rw [e] at q
    rcases List.mem_cons.mp q with q | q
    · exact n1 q
    · exact n2 q
  have R : Rel h0 c L (feedSt xa b wt pl octets last) h₁ := by
    refine ⟨fun b o e => hk₁ b o (hst b o e), ⟨fun q => (by rw [show env.scope.kind = _ from hk] at q; cases q), ⟨L, oL, rfl, h0L, hoL, hdL⟩, hff1⟩, .of_keeps fun b o e => hk₁ b o (Heap.of_hide e), fun _ => rfl, fun p hp => (by cases hp), fun a h => (by cases h), fun p hp => (by cases hp), fun a ha => (let ⟨o, ho⟩ := (hM a ha).2; ⟨o, hk₁ _ _ ho⟩), _, hns, fun i d e => ?_, fun i ds e => (by cases e), fun i b' wt' pl' e => ?_⟩
    · have e : (if i = 0 then some (Dat.obj xa) else if i = 1 then some (.bytes octets) else if i = 2 then some (.bool last) else none) = some d := e
      split at e
      · rename_i q; subst q; cases e
        exact ⟨"self", hn0, .inl ⟨hl0, .ref xa, rfl, by unfold Rep; rfl⟩⟩
      · split at e
        · rename_i q; subst q; cases e
          exact ⟨"octets", hn1, .inl ⟨hl1, .bytes octets.toArray tk, rfl, by unfold Rep; exact ⟨_, rfl⟩⟩⟩
        · split at e
          · rename_i q; subst q; cases e
            exact ⟨"is_last", hn2, .inl ⟨hl2, .bool last, rfl, by unfold Rep; rfl⟩⟩
          · cases e
    · cases e
      exact ⟨"self", xa, dx, P, t, n, hn0, hl0, rfl, hk₁ _ _ hxo, hk₁ _ _ hdo, inF xa nxL hxF, inF dx ndL hdF, hne, ndL, ndL, nxL, nxL, h0d, h0x, ⟨Heap.hide_self _ _, by simp [c]⟩, by simp [c], (fun p hp => by cases hp), hdM⟩
  rw [execs_app]
  refine wpAny_bind ?_
  have hψ : ∃ o, ψ (feedSt xa b wt pl octets last) = some o := by
    cases e : ψ (feedSt xa b wt pl octets last) with
    | none => rw [e] at hres; cases hres
    | some o => exact ⟨o, rfl⟩
  obtain ⟨o, ho₁⟩ := hψ
  rw [ho₁] at hres
  refine hsem c (A.deeper env) L (feedSt xa b wt pl octets last) { s with heap := h₁, toks := s.toks + [(("self" : Str), Value.ref xa), ("octets", .bytes octets.toArray tk), ("is_last", .bool last)].length } _ _ K hA' R PassesOwn.leaving rfl o ho₁ ?_
  cases o with
  | next ρ' =>
    intro l' s' g k R'
    obtain ⟨a, hla, rfl⟩ := hobj ρ' ho₁
    unfold feedRes at hres
    dsimp only at hres
    split at hres <;> first | (cases hres; done) | skip
    rename_i i ds j b' wt' pl' hown hstm
    split at hres <;> first | (cases hres; done) | skip
    rename_i hij
    obtain ⟨rfl, rfl, rfl⟩ := hij
    obtain rfl := Option.some.inj hres
    refine wpAny_execs_cons (wpAny_Return_some (own_var K R' hown hn4 (by decide) ?_))
    obtain ⟨m, hn, a1, a2, a3⟩ := R'.ns
    obtain ⟨_, vs, nn, _, _, _, h4, h5, h6, h7, h8, _⟩ := a2 _ _ hown
    obtain ⟨x₁, xa', dx', P', t', n', q1, q2, q3, q4, q5, _⟩ := a3 _ _ _ _ hstm
    obtain ⟨x₂, u1, u2⟩ := a1 0 _ hla
    have e1 : x₁ = "self" := by have := q1.symm.trans hn0; exact Option.some.inj this
    have e2 : x₂ = "self" := by have := u1.symm.trans hn0; exact Option.some.inj this
    subst e1; subst e2
    have hxa : xa' = a := by
      rcases u2 with ⟨_, v, hm, hr⟩ | ⟨kk, _⟩
      · unfold Rep at hr
        subst hr
        have e3 := q3.symm.trans hm
        injection e3 with e3; injection e3
      · have e3 : c.env.kindOf "self" = some .local := hl0
        rcases kk with kk | kk <;> (rw [e3] at kk; cases kk)
    subst hxa
    have hxs : s'.heap.get? xa' = some (instObj 176 dx) := (R'.ext xa' _ (by simp [c]) ((Heap.hide_ne s.heap (Ne.symm hne)).trans hxo)).2 hxF
    have hdd : dx' = dx := by rw [hxs] at q4; injection q4 with q4; injection q4 with _ q; exact (Option.some.inj q).symm
    subst hdd
    refine hQ ds wt' pl' rfl _ s' P' t' n' (ext_hide R'.ext) g k q5 ?_
    have hsub : ∀ b, b ∈ M ++ addrs fs → b ∈ c.M ++ addrs (c.fenv :: c.fs) := fun b hb => by
      rcases List.mem_append.mp hb with hb | hb
      · exact List.mem_append_left _ hb
      · exact List.mem_append_right _ (.tail _ hb)
    unfold Rep
    refine ⟨l', vs, nn, rfl, vw_at h4 fun q => ?_, h5.mono (vw_sub fun b hb => ?_)⟩
    · rcases List.mem_append.mp (hsub _ q) with q | q
      · exact h6 q
      · exact h8 q
    · rcases List.mem_append.mp (hsub _ hb) with hb | hb
      · exact .tail _ (.tail _ (List.mem_append_left _ (List.mem_append_left _ hb)))
      · exact hid_frames hb
  | brk ρ' => cases hres
  | ret d => cases hres
  | raise C =>
    intro e s' g k x
    obtain rfl := Option.some.inj hres
    exact leave_sound (c := c) rfl rfl K (Around.frames_deeper hfr) x fun s'' g' k' y z => hX C rfl e s'' (ext_hide y) (g'.trans g) (k'.trans k) z
end
end Mine
end
section
set_option Elab.async false
set_option maxRecDepth 100000
open PySem PySem.W PyProof.Rows PySem.SeqAt PySem.Spec
namespace Mine

section
variable {prog : Program} {w : World} {h0 : Heap} {H : Nat} {sc : Scope} {c : Fx} {A : Around} {l : Addr} {ρ : St} {s : Shared} {E : Value → Shared → Prop}

theorem thrown_feed {e C xa dx : Addr} {P : Int × Int × Int} {t : Tok × Tok × Tok × Tok × Tok} {n : Nat} {b : Bool} {wt : List UInt8} {pl : Int} {h' : Heap} (K : Fok h0 c sc) (R : Rel h0 c l ρ s.heap)
    (hd : s.heap.get? dx = some (dictOf (strmEs P t b wt pl) n)) (hdF : dx ∉ addrs (c.fenv :: c.fs)) (h0d : h0.get? dx = none) (ndl : dx ≠ l) (ndL : dx ≠ c.env.locals) (npm : dx ∉ pm c) (dg : c.g.get? dx = none) (dX : dx ∉ c.X)
    (y : Ext [dx] (c.fenv :: c.fs) s.heap h') (z : Flown h0 (c.fenv :: c.fs) (s.heap.hide dx) e C h') : Thrown h0 c e C h' := by
  obtain ⟨m, hn, _⟩ := R.ns
  obtain ⟨FL, hf, hf', hg⟩ := K.frame
  have nP : ∀ p ∈ c.P, p.1 ≠ dx := fun p hp q => npm (List.mem_append_right _ (List.mem_map.mpr ⟨p, hp, q⟩))
  have nM : ∀ a ∈ c.M, a ≠ dx := fun a ha q => npm (List.mem_append_left _ (q ▸ ha))
  have nX : ∀ a ∈ c.X, a ≠ dx := fun a ha q => dX (q ▸ ha)
  have k : ∀ b ob, b ≠ dx → b ∉ addrs (c.fenv :: c.fs) → s.heap.get? b = some ob → h'.get? b = some ob := fun b ob n1 n2 e => (y b ob (by simpa using n1) e).2 n2
  have ex : ∀ b ob, b ≠ dx → s.heap.get? b = some ob → ∃ o, h'.get? b = some o := fun b ob n1 e => let ⟨⟨_, e2⟩, _⟩ := y b ob (by simpa using n1) e; ⟨_, e2⟩
  have nd : ∀ b ob, (ob.cls = .type "list" ∨ ob.cls = .type "tuple") → s.heap.get? b = some ob → b ≠ dx := fun b ob hc e q => by
    rw [q, hd] at e; cases e; rcases hc with hc | hc <;> simp at hc
  obtain ⟨B, a0, f1, f2, f3⟩ := z
  have getB : ∀ b o, b ≠ dx → b ∉ addrs (c.fenv :: c.fs) → s.heap.get? b = some o → B.get? b = some o := fun b o n1 n2 e => f3 b o ((Heap.hide_ne _ n1).trans e) n2
  refine ⟨y.stays (fun a q => by simp at q; rw [q]; exact h0d) R.frs R.stays, y.frames (fun a q => by simp at q; rw [q]; exact hdF) R.frs, fun b ob hX e => ?_, ⟨m, y.ns (by simpa using Ne.symm ndL) hn⟩, fun p hp => ?_, fun a ha => ?_, fun p hp => ?_, fun a ha => ?_, .inr ⟨B, a0, f1, ⟨f2, fun b o hX e hb => ?_, fun p hp => ?_, fun a ha => ?_, fun p hp => ?_, fun a ha => ?_⟩⟩⟩
  · have nb : b ≠ dx := fun q => by rw [q, dg] at e; cases e
    obtain ⟨⟨sl, e1⟩, kk⟩ := R.ext b ob hX e
    obtain ⟨⟨sl', e2⟩, _⟩ := y b _ (by simpa using nb) e1
    refine ⟨⟨sl', e2⟩, fun q => k b _ nb (fun z => ?_) (kk q)⟩
    unfold addrs at z q
    rw [List.filterMap_cons, hf] at z
    rcases List.mem_cons.mp z with z | z
    · rw [z] at e; have e3 := hg.symm.trans e; cases e3
    · exact q z
  · obtain ⟨q1, r⟩ := (R.pin p hp).drop
    exact ⟨k _ _ (nP p hp) r.2.1 q1, r⟩
  · obtain ⟨o, e⟩ := R.xin a ha
    exact ex a o (nX a ha) e
  · exact (R.see p hp).monoL fun b ob hc e => vw_at (k b ob (nd b ob hc (vw_get e)) (fun q => vw_not e (hid_frames q)) (vw_get e)) fun q => vw_not e (hid_locals _ q)
  · obtain ⟨o, e⟩ := R.min a ha
    exact ex a o (nM a ha) e
  · have nb : b ≠ dx := fun q => by rw [q, dg] at e; cases e
    refine getB b o nb hb ((R.ext b o hX e).2 fun q => hb ?_)
    unfold addrs at q ⊢
    rw [List.filterMap_cons]
    split
    · exact q
    · exact List.mem_cons_of_mem _ q
  · exact getB _ _ (nP p hp) (R.pin p hp).2.2.1 (R.pin p hp).1
  · obtain ⟨o, e⟩ := R.xin a ha
    exact ⟨o, getB a o (nX a ha) (K.XF a ha) e⟩
  · exact (R.see p hp).monoL fun b ob hc e => vw_at (getB b ob (nd b ob hc (vw_get e)) (fun q => vw_not e (hid_frames q)) (vw_get e)) fun q => vw_not e (hid_locals _ q)
  · by_cases hm : a ∈ addrs (c.fenv :: c.fs)
    · exact .inl hm
    · obtain ⟨o, ho⟩ := R.min a ha
      exact .inr ⟨o, getB a o (nM a ha) hm ho⟩

theorem feed_eval {x : Str} {np ap cp : Pos} {e₁ e₂ : Expr} {F : FeedF} {H' i : Nat} {φ : EM (List Dat)} {b last : Bool} {wt o : List UInt8} {pl : Int} {r : Except Addr (List Dat × List UInt8 × Int)} {Q : Value → Shared → Prop}
    (G : Gd w h0) (hF : FeedSpec prog w h0 H' F) (hH : H' ≤ H) (hx : nm sc i = some x) (h1 : (x == ("__debug__" : Str)) = false) (a : SemA prog w h0 true H sc [e₁, e₂] φ)
    (K : Fok h0 c sc) (hA : AOk true H c A) (R : Rel h0 c l ρ s.heap) (hE : PassesOwn (model prog w) A c.env E) (hst : ρ.stm = some (i, b, wt, pl)) (hφ : φ ρ = some (.ok [.bytes o, .bool last])) (hr : F b wt pl o last = some r)
    (hQ : ∀ ds wt' pl', r = .ok (ds, wt', pl') → ∀ v s', s'.gens = s.gens → s'.os = s.os → Rel h0 c l { ρ with stm := some (i, b, wt', pl') } s'.heap → VL (vw s.heap (hid c l)) (vw s'.heap (hid c l)) → Rep (vw s'.heap (hid c l)) (.list ds) v → Q v s')
    (hX : ∀ C, r = .error C → ∀ e s', s'.gens = s.gens → s'.os = s.os → Thrown h0 c e C s'.heap → E (.ref e) s')
    (hs : starEach [e₁, e₂] c.env = (false, eval e₁ c.env) :: starEach [e₂] c.env) (hplain : (backTo cp (starEach [e₂] c.env)).any (·.1) = false)
    (pm' : Sem Bool) (he : eval (.Call (.Attribute (.Name x np) "feed" ap) [e₁, e₂] [] cp) c.env = (do
      let ov ← eval (.Name x np) c.env
      standAt ap.atName
      let (f, first) ← holding [ov] (getMethod ov "feed" pm')
      callWith cp f first (backTo cp (starEach [e₁, e₂] c.env)) (backToKw cp (keywordEach [] c.env)))) :
    wpAny (model prog w) A (eval (.Call (.Attribute (.Name x np) "feed" ap) [e₁, e₂] [] cp) c.env) Q E s := by
  obtain ⟨m, xa, dx, P, t, n, hn, hx', hm, hk, ho, hdo, hdF, hxF, h0d, h0x, ndl, ndL, npm, hne, dg, dX⟩ := strm_at K R hst hx
  refine methodCall_KW (pl := pm') (strm_var (b := b) (wt := wt) (pl := pl) (i := i) K hn hm hk h1 ?_) he
  have hf : findIn (KF w) (.ref 176) "feed" = some (some (.ref 173)) := by rfl
  have hpg : plainGet (KF w) 176 "feed" = true := by rfl
  refine method_fn (G.X.keeps R.stays) (inst_at ho hdo) (plainGet_of hpg).1 (plainGet_of hpg).2 hf (by rfl) (by show (lookIn "feed" (dictOf (strmEs P t b wt pl) n)).map _ = _; rw [lookIn_dict]; rfl) ?_
  show wpAny _ _ (callWith cp (.ref 173) [.ref xa] (backTo cp (starEach [e₁, e₂] c.env)) []) _ _ _
  refine callWith_K (K := KF w) (h₀ := h0) G.X (by rfl) ?_ hs hplain
  refine (a cp) c A l ρ s _ E K hA R hE _ hφ (fun ds hd vs s₁ G₁ hv => ?_) fun C hC => by cases hC
  cases hd
  unfold Reps at hv
  obtain ⟨v₁, rest, rfl, hv₁, hv₂⟩ := hv
  obtain ⟨v₂, rfl, hv₃⟩ := one_of hv₂
  unfold Rep at hv₁ hv₃
  obtain ⟨tk, rfl⟩ := hv₁
  subst hv₃
  have R₁ := R.goes K G₁
  have ho₁ := (G₁.ext xa _ (by simp) ho).2 hxF
  have hdo₁ := (G₁.ext dx _ (by simp) hdo).2 hdF
  have hn₁ := G₁.ext.ns (by simp) hn
  refine ⟨G.X.keeps R₁.stays, ?_⟩
  refine hF A (c.fenv :: c.fs) (c.env.locals :: l :: pm c) s₁ xa dx P t n b wt pl o tk last Q E hA.frames (hA.handled rfl) (by have := hA.depth; omega) (by have := hA.units; omega) R₁.stays R₁.frs (fun a ha => R₁.hidIn K ha) ho₁ hdo₁ hxF hdF hne h0d h0x (fun q => ?_) r hr (fun ds wt' pl' hrr v s' P' t' n' y g k hd' hv => ?_) fun C hC e s' y g k z => ?_
  · rcases List.mem_cons.mp q with q | q
    · exact ndL q
    rcases List.mem_cons.mp q with q | q
    · exact ndl q
    · exact npm q
  · obtain ⟨R', V'⟩ := strm_step K R₁ hst hn₁ hx' hm ho₁ hdo₁ y hd'
    refine hQ ds wt' pl' hrr v s' (g.trans G₁.gens) (k.trans G₁.os) R' (fun a ob hc e => V' a ob hc (G₁.vle l a ob e)) hv
  · exact hX C hC e s' (g.trans G₁.gens) (k.trans G₁.os) (thrown_feed (xa := xa) K R₁ hdo₁ hdF h0d ndl ndL npm dg dX y z)

noncomputable def lstD : Option Dat → Option (List Dat)
  | some (.list ds) => some ds
  | _ => none
theorem lstD_some {x : Option Dat} {ds : List Dat} (h : lstD x = some ds) : x = some (.list ds) := by
  cases x with
  | none => cases h
  | some d => cases d <;> cases h; rfl
noncomputable def feedAs : List Dat → Option (List UInt8 × Bool)
  | [.bytes o, .bool last] => some (o, last)
  | _ => none
noncomputable def okO {α : Type} : Option (Except Addr α) → Option α
  | some (.ok a) => some a
  | _ => none
theorem okO_some {α : Type} {x : Option (Except Addr α)} {a : α} (h : okO x = some a) : x = some (.ok a) := by
  cases x with
  | none => cases h
  | some d => cases d <;> cases h; rfl
theorem feedAs_some {x : List Dat} {o : List UInt8} {last : Bool} (h : feedAs x = some (o, last)) : x = [.bytes o, .bool last] := by
  cases x with
  | nil => cases h
  | cons d x => cases d with
    | bytes o => cases x with
      | nil => cases h
      | cons d x => cases d with
        | bool b => cases x with
          | nil => cases h; rfl
          | cons _ _ => cases h
        | _ => cases h
    | _ => cases h
noncomputable def boolOf : Dat → Option Bool
  | .bool b => some b
  | _ => none
theorem boolOf_some {x : Dat} {b : Bool} (h : boolOf x = some b) : x = .bool b := by cases x <;> cases h; rfl
noncomputable def SM.feedAdd (iy ix : Nat) (φ : EM (List Dat)) (F : FeedF) : SM := fun ρ => (lstD (ρ.loc iy)).bind fun ds => ρ.stm.bind fun st => (okO (φ ρ)).bind fun as => (feedAs as).bind fun ob =>
  if st.1 = ix then (match F st.2.1 st.2.2.1 st.2.2.2 ob.1 ob.2 with
    | some (.ok r) => if ds.length + r.1.length ≤ 4096 then SM.put iy (.list (ds ++ r.1)) { ρ with stm := some (st.1, st.2.1, r.2.1, r.2.2) } else none
    | some (.error C) => some (.raise C)
    | none => none) else none
theorem SemS.feedAdd {x y : Str} {np ap cp py py2 bp pos : Pos} {e₁ e₂ : Expr} {F : FeedF} {H' : Nat} {φ : EM (List Dat)} (iy ix : Nat) (G : Gd w h0) (hF : FeedSpec prog w h0 H' F) (hH : H' ≤ H)
    (hx : nm sc ix = some x) (h1 : (x == ("__debug__" : Str)) = false) (hy : nm sc iy = some y) (hyl : sc.names.lookup y = some .local) (h2 : (y == ("__debug__" : Str)) = false) (h3 : (y == ("__classdict__" : Str)) = false)
    (a : SemA prog w h0 true H sc [e₁, e₂] φ)
    (hs : ∀ env, starEach [e₁, e₂] env = (false, eval e₁ env) :: starEach [e₂] env) (hplain : ∀ env, (backTo cp (starEach [e₂] env)).any (·.1) = false) (pmf : Env → Sem Bool)
    (he : ∀ env, eval (.Call (.Attribute (.Name x np) "feed" ap) [e₁, e₂] [] cp) env = (do
      let ov ← eval (.Name x np) env
      standAt ap.atName
      let (f, first) ← holding [ov] (getMethod ov "feed" (pmf env))
      callWith cp f first (backTo cp (starEach [e₁, e₂] env)) (backToKw cp (keywordEach [] env)))) :
    SemS prog w h0 true H sc (.Assign [.Name y py] (.BinOp (.Name y py2) .Add (.Call (.Attribute (.Name x np) "feed" ap) [e₁, e₂] [] cp) bp) pos) (SM.feedAdd iy ix φ F) := by
  intro c A l ρ s Q E K hA R hE hfe o ho hP
  unfold SM.feedAdd at ho
  rw [Option.bind_eq_some_iff] at ho
  obtain ⟨ds, hds, ho⟩ := ho
  rw [Option.bind_eq_some_iff] at ho
  obtain ⟨⟨j, b, wt, pl⟩, hst, ho⟩ := ho
  rw [Option.bind_eq_some_iff] at ho
  obtain ⟨as, has, ho⟩ := ho
  rw [Option.bind_eq_some_iff] at ho
  obtain ⟨⟨ob, last⟩, hob, ho⟩ := ho
  obtain rfl := feedAs_some hob
  have hloc := lstD_some hds
  have hφ := okO_some has
  dsimp only at ho
  split at ho <;> first | (cases ho; done) | skip
  rename_i hj
  subst hj
  have hr : ∃ r, F b wt pl ob last = some r := by
    cases e : F b wt pl ob last with
    | none => rw [e] at ho; cases ho
    | some r => exact ⟨r, rfl⟩
  obtain ⟨r, hr⟩ := hr
  rw [hr] at ho
  refine wpAny_Assign_Name (wpAny_BinOp ?_) rfl
  refine (SemE.var (q := true) iy hy h2 h3) c A l ρ s _ E K hA R hE (.ok (.list ds)) (by unfold rd; rw [hloc]; rfl) (fun d hd v s₁ G₁ hv => ?_) fun C hC => by cases hC
  cases hd
  have R₁ := R.goes K G₁
  refine feed_eval G hF hH hx h1 a K hA R₁ hE hst hφ hr (fun es wt' pl' hrr v₂ s₂ g₂ k₂ R₂ V₂ hv₂ => ?_) (fun C hC e s' g k z => ?_) (hs _) (hplain _) _ (he _)
  · subst hrr
    dsimp only at ho
    split at ho <;> first | (cases ho; done) | skip
    rename_i hlen
    obtain ⟨hf, rfl⟩ := put_some ho
    refine bin_sound K R₂ (x := .list ds) (y := .list es) (d := .list (ds ++ es)) (show (if ds.length + es.length ≤ 4096 then some (Dat.list (ds ++ es)) else none) = _ from if_pos hlen) (hv.monoL V₂) hv₂ fun v₃ s₃ G₃ hv₃ => ?_
    exact store_sound K (R₂.goes K G₃) hy hyl hf hv₃ fun s' g k R' _ => hP l s' ((g.trans G₃.gens).trans (g₂.trans G₁.gens)) ((k.trans G₃.os).trans (k₂.trans G₁.os)) R'
  · subst hC
    obtain rfl := Option.some.inj ho
    exact hP e s' (g.trans G₁.gens) (k.trans G₁.os) z

/-- return a and stream.feed(..) == d -/
noncomputable def SM.retFeed (τ : EM Dat) (ix : Nat) (φ : EM (List Dat)) (F : FeedF) (χ : EM Dat) : SM := fun ρ => (okO (τ ρ)).bind fun t => (boolOf t).bind fun t =>
  if t = true then ρ.stm.bind fun st => (okO (φ ρ)).bind fun as => (feedAs as).bind fun ob => if st.1 = ix then (okO (F st.2.1 st.2.2.1 st.2.2.2 ob.1 ob.2)).bind fun r =>
    (okO (χ { ρ with stm := some (st.1, st.2.1, r.2.1, r.2.2) })).bind fun d => (eqD (.list r.1) d).map fun t => .ret (.bool t) else none
  else some (.ret (.bool false))
theorem SemS.retFeed {x : Str} {np ap cp bp kp pos : Pos} {e₀ e₁ e₂ e₃ : Expr} {F : FeedF} {H' : Nat} {τ χ : EM Dat} {φ : EM (List Dat)} (ix : Nat) (G : Gd w h0) (hF : FeedSpec prog w h0 H' F) (hH : H' ≤ H) (hH3 : 3 ≤ H)
    (hx : nm sc ix = some x) (h1 : (x == ("__debug__" : Str)) = false) (t : SemE prog w h0 true H sc e₀ τ) (a : SemA prog w h0 true H sc [e₁, e₂] φ) (d : SemE prog w h0 true H sc e₃ χ) (hm : behindInMarks .Eq e₃ = false)
    (hs : ∀ env, starEach [e₁, e₂] env = (false, eval e₁ env) :: starEach [e₂] env) (hplain : ∀ env, (backTo cp (starEach [e₂] env)).any (·.1) = false) (pmf : Env → Sem Bool)
    (he : ∀ env, eval (.Call (.Attribute (.Name x np) "feed" ap) [e₁, e₂] [] cp) env = (do
      let ov ← eval (.Name x np) env
      standAt ap.atName
      let (f, first) ← holding [ov] (getMethod ov "feed" (pmf env))
      callWith cp f first (backTo cp (starEach [e₁, e₂] env)) (backToKw cp (keywordEach [] env)))) :
    SemS prog w h0 true H sc (.Return (some (.BoolOp .And [e₀, .Compare (.Call (.Attribute (.Name x np) "feed" ap) [e₁, e₂] [] cp) [.Eq] [e₃] kp] bp)) pos) (SM.retFeed τ ix φ F χ) := by
  intro c A l ρ s Q E K hA R hE hfe o ho hP
  unfold SM.retFeed at ho
  rw [Option.bind_eq_some_iff] at ho
  obtain ⟨td, hτ, ho⟩ := ho
  rw [Option.bind_eq_some_iff] at ho
  obtain ⟨tb, htb, ho⟩ := ho
  obtain rfl := boolOf_some htb
  have hτ := okO_some hτ
  refine wpAny_Return_some (BoolOp_and ?_)
  cases tb with
  | false =>
    obtain rfl := Option.some.inj ho
    refine t c A l ρ s _ E K hA R hE _ hτ (fun d hd v s₁ G₁ hv => ?_) fun C hC => by cases hC
    cases hd
    unfold Rep at hv
    subst hv
    exact wpAny_truthy_bool (hP _ s₁ G₁.gens G₁.os (R.goes K G₁).ended (by unfold Rep; rfl))
  | true =>
    refine t c A l ρ s _ E K hA R hE _ hτ (fun d' hd v s₁ G₁ hv => ?_) fun C hC => by cases hC
    cases hd
    unfold Rep at hv
    subst hv
    have R₁ := R.goes K G₁
    refine wpAny_truthy_bool ?_
    rw [if_pos rfl] at ho
    rw [Option.bind_eq_some_iff] at ho
    obtain ⟨⟨j, b, wt, pl⟩, hst, ho⟩ := ho
    rw [Option.bind_eq_some_iff] at ho
    obtain ⟨as, has, ho⟩ := ho
    rw [Option.bind_eq_some_iff] at ho
    obtain ⟨⟨ob, last⟩, hob, ho⟩ := ho
    obtain rfl := feedAs_some hob
    have hφ := okO_some has
    dsimp only at ho
    split at ho <;> first | (cases ho; done) | skip
    rename_i hj
    subst hj
    rw [Option.bind_eq_some_iff] at ho
    obtain ⟨⟨es, wt', pl'⟩, hr, ho⟩ := ho
    have hr := okO_some hr
    rw [Option.bind_eq_some_iff] at ho
    obtain ⟨d₃, hχ, ho⟩ := ho
    have hχ := okO_some hχ
    obtain ⟨tt, he', rfl⟩ := Option.map_eq_some_iff.mp ho
    refine BoolOp_one (wpAny_Compare1 (hm := hm) ?_)
    refine feed_eval G hF hH hx h1 a K hA R₁ hE hst hφ hr (fun es' wt'' pl'' hrr v₂ s₂ g₂ k₂ R₂ V₂ hv₂ => ?_) (fun C hC => by cases hC) (hs _) (hplain _) _ (he _)
    cases hrr
    refine d c A l _ s₂ _ E K hA R₂ hE _ hχ (fun d₄ hd₄ v₃ s₃ G₃ hv₃ => ?_) fun C hC => by cases hC
    cases hd₄
    refine eq_sound he' (hv₂.mono (G₃.vle l)) hv₃ (hA.units64 hH3) (hP _ s₃ ?_ ?_ (R₂.goes K G₃).ended (by unfold Rep; rfl))
    · rw [G₃.gens, g₂, G₁.gens]
    · rw [G₃.os, k₂, G₁.os]
end
end Mine
end
section
set_option Elab.async false
set_option maxRecDepth 100000
open PySem PySem.W PyProof.Rows PySem.SeqAt PySem.Spec
namespace Mine

section
variable {prog : Program} {w : World} {h0 : Heap} {H : Nat} {sc : Scope} {c : Fx} {A : Around} {l : Addr} {ρ : St} {s : Shared} {E : Value → Shared → Prop}

/-- an object that came after h -/
noncomputable def Since (h h' : Heap) (v : Value) (i j : Int) : Prop := ∃ a t t' n, v = .ref a ∧ h.get? a = none ∧ h'.get? a = some { cls := .type "tuple", data := .seq (List.toArray [.int i t, .int j t']) n }
theorem Since.keeps {h h' h'' : Heap} {v : Value} {i j : Int} (x : Since h h' v i j) (k : ∀ b o, h'.get? b = some o → h''.get? b = some o) : Since h h'' v i j := by
  obtain ⟨a, t, t', n, e, h1, h2⟩ := x
  exact ⟨a, t, t', n, e, h1, k _ _ h2⟩
theorem pair_eval {h : Heap} {i j : Int} {k k1 k2 : _} {pos p1 p2 : Pos} {env : Env} {Q : Value → Shared → Prop} (kh : ∀ b o, h.get? b = some o → s.heap.get? b = some o)
    (hQ : ∀ h' v tk, (∀ b o, s.heap.get? b = some o → h'.get? b = some o) → Since h h' v i j → Q v { s with heap := h', toks := tk }) :
    wpAny (model prog w) A (eval (.Tuple [.Constant (.int i) k1 p1, .Constant (.int j) k2 p2] k pos) env) Q E s := by
  refine Tuple_ (Calls.spliced_cons (wpAny_Constant_int (k := k1) (pos := p1) (Calls.spliced_cons (wpAny_Constant_int (k := k2) (pos := p2) (Calls.spliced_nil (wpAny_newObj_type ?_ (by size_fits)))))))
  refine hQ _ _ _ (fun b o e => Heap.get?_push_of_some _ e) ⟨_, s.toks, s.toks + 1, 0, rfl, ?_, Heap.get?_push_size _ rfl⟩
  cases e : h.get? s.heap.objs.size with
  | none => rfl
  | some o => exact absurd (Heap.lt_size (kh _ _ e)) (Nat.lt_irrefl _)

theorem seconds_call {Q : Value → Shared → Prop} (G : Gd w h0) (hst : h0.StaysIn s.heap) (hdp : A.depth < recursionLimit)
    (hQ : ∀ h' d v1 v2 v3 v4 tk, (∀ b o, s.heap.get? b = some o → h'.get? b = some o) → s.heap.get? d = none → 3 < d → h'.DictOf (intKind prog w) d [(224, v1), (237, v2), (240, v3), (244, v4)] →
      Since s.heap h' v1 160 191 → Since s.heap h' v2 128 159 → Since s.heap h' v3 144 191 → Since s.heap h' v4 128 143 → Q (.ref d) { s with heap := h', toks := tk }) :
    wpAny (model prog w) A (call (.ref 259) []) Q E s := by
  have X := G.X.keeps hst
  obtain ⟨mg, mb, T⟩ := G.T
  refine wpAny_call (codeAny_call_def (binds := []) hdp (X 259 _ (by rfl)) rfl (T.nolimit.keeps hst) (codeRec_of X (by rfl)) rfl ?_ ?_ ?_ (fun h₁ hns hk₁ => ?_) rfl rfl rfl)
  · exact BindsTo.of_eq rfl
  · decide
  · intro x hx; cases hx
  refine wpAny_execs_cons ?_
  refine wpAny_Return_some ?_
  refine wpAny_Dict_walk (knd := intKind prog w) ?_ ?_ ?_ ?_ ?_
  · rfl
  · rfl
  · exact fun q => by cases q
  · decide
  have hdn : s.heap.get? h₁.objs.size = none := by
    cases e : s.heap.get? h₁.objs.size with
    | none => rfl
    | some o => exact absurd (Heap.lt_size (hk₁ _ _ e)) (Nat.lt_irrefl _)
  have h3 : 3 < h₁.objs.size := Heap.lt_size (hk₁ _ _ (X 3 _ (by rfl)))
  have D0 := Heap.DictOf.new (knd := intKind prog w) h₁
  have k0 : ∀ b o, s.heap.get? b = some o → (h₁.push { cls := .type "dict", data := .dict #[] }).get? b = some o := fun b o e => Heap.get?_push_of_some _ (hk₁ b o e)
  refine pairTrees_cons_walk ?_
  refine wpAny_Constant_int ?_
  refine pair_eval (h := s.heap) k0 fun h₂ v1 tk2 k2 S1 => ?_
  have k2' := fun b o e => k2 b o (k0 b o e)
  refine pairTrees_cons_walk ?_
  refine wpAny_Constant_int ?_
  refine pair_eval (h := s.heap) k2' fun h₃ v2 tk3 k3 S2 => ?_
  have k3' := fun b o e => k3 b o (k2' b o e)
  refine pairTrees_cons_walk ?_
  refine wpAny_Constant_int ?_
  refine pair_eval (h := s.heap) k3' fun h₄ v3 tk4 k4 S3 => ?_
  have k4' := fun b o e => k4 b o (k3' b o e)
  refine pairTrees_cons_walk ?_
  refine wpAny_Constant_int ?_
  refine pair_eval (h := s.heap) k4' fun h₅ v4 tk5 k5 S4 => ?_
  have k5' := fun b o e => k5 b o (k4' b o e)
  refine pairTrees_nil_walk ?_
  refine display_done_int rfl (by simp [intKeyPairs]) ((((D0.keep k2).keep k3).keep k4).keep k5) fun h' hm hs => ?_
  have kf : ∀ b o, s.heap.get? b = some o → h'.get? b = some o := fun b o e => (hs.2 b fun q => by rw [q] at e; have := hdn.symm.trans e; cases this).trans (k5' b o e)
  have kS : ∀ {v : Value} {i j : Int}, Since s.heap h₅ v i j → Since s.heap h' v i j := fun {v i j} x => by
    obtain ⟨a, t, t', n, e, h1, h2⟩ := x
    refine ⟨a, t, t', n, e, h1, (hs.2 a fun q => ?_).trans h2⟩
    obtain ⟨o, es, ep, ho, hc, hd, _⟩ := (((D0.keep k2).keep k3).keep k4).keep k5
    rw [← q, h2] at ho
    cases ho
    cases hd
  exact hQ h' _ v1 v2 v3 v4 _ kf hdn h3 hm (kS (((S1.keeps k3).keeps k4).keeps k5)) (kS ((S2.keeps k4).keeps k5)) (kS (S3.keeps k5)) (kS S4)
end
end Mine
end
section
set_option Elab.async false
set_option maxRecDepth 100000
open PySem PySem.W PyProof.Rows PySem.SeqAt PySem.Spec
namespace Mine

section
variable {prog : Program} {w : World} {h0 : Heap} {q : Bool} {H : Nat} {sc : Scope} {c : Fx} {A : Around} {l : Addr} {ρ : St} {s : Shared} {E : Value → Shared → Prop}

/-- the own list as a value, seen from outside the frame's hiding -/
theorem own_rep {i : Nat} {ds : List Dat} (R : Rel h0 c l ρ s.heap) (ho : ρ.own = some (i, ds)) : Rep (vw s.heap []) (.list ds) (.ref l) := by
  obtain ⟨vs, n, h4, h5⟩ := own_at R ho
  unfold Rep
  exact ⟨l, vs, n, rfl, vw_at h4 (by simp), h5.mono (vw_sub fun b hb => by cases hb)⟩
noncomputable def EM.ownLast (i : Nat) : EM Dat := fun ρ => match ρ.own with
  | some (j, ds) => if j = i then (match itemD (.list ds) (-1) with | some (.int v) => some (.ok (.int v)) | _ => none) else none
  | none => none
theorem SemE.ownLast {x : Str} {p np cp pos : Pos} {kk} (i : Nat) (hx : nm sc i = some x) (h1 : (x == ("__debug__" : Str)) = false) : SemE prog w h0 q H sc (.Subscript (.Name x p) (.UnaryOp .USub (.Constant (.int 1) kk cp) np) pos) (EM.ownLast i) := by
  intro c A l ρ s Q E K hA R hE r hr hQ hX
  unfold EM.ownLast at hr
  split at hr <;> first | (cases hr; done) | skip
  rename_i j ds hown
  split at hr <;> first | (cases hr; done) | skip
  rename_i hj
  subst hj
  split at hr <;> first | (cases hr; done) | skip
  rename_i v hit
  obtain rfl := Option.some.inj hr
  refine Subscript_ ?_
  refine own_var K R hown hx h1 ?_
  refine UnaryOp_ ?_
  refine wpAny_Constant_int ?_
  refine neg_int ?_
  refine item_sound (s := { s with toks := s.toks + 1 + 1 }) (M := []) (x := .list ds) (i := -1) hit (own_rep R hown) (by intro _ _; rfl) fun v' n hv => ?_
  exact hQ _ rfl _ _ (.toks n) (by unfold Rep at hv ⊢; exact hv)
noncomputable def EM.ownNe (i : Nat) : EM Bool := fun ρ => match ρ.own with
  | some (j, ds) => if j = i then (eqD (.list ds) (.list [])).map fun b => .ok (!b) else none
  | none => none
theorem SemT.ownNe {x : Str} {p lp pos : Pos} (i : Nat) (hH : 3 ≤ H) (hx : nm sc i = some x) (h1 : (x == ("__debug__" : Str)) = false) : SemT prog w h0 q H sc (.Compare (.Name x p) [.NotEq] [.List [] lp] pos) (EM.ownNe i) := by
  intro c A l ρ s Q E K hA R hE r hr hQ hX
  unfold EM.ownNe at hr
  split at hr <;> first | (cases hr; done) | skip
  rename_i j ds hown
  split at hr <;> first | (cases hr; done) | skip
  rename_i hj
  subst hj
  obtain ⟨b, he, rfl⟩ := Option.map_eq_some_iff.mp hr
  refine wpAny_isTrue_Compare1 ?_
  refine own_var K R hown hx h1 ?_
  refine List_ (Calls.spliced_nil (wpAny_newObj_type ?_ (by size_fits)))
  have G : Goes c s { s with heap := s.heap.push { cls := .type "list", data := .seq (List.toArray []) } } := .push'
  refine ne_sound (s := { s with heap := s.heap.push { cls := .type "list", data := .seq (List.toArray []) } }) (M := []) he ((own_rep R hown).mono fun a o e => vw_at (Heap.get?_push_of_some _ (vw_get e)) (by simp)) ?_ (hA.units64 hH) (wpAny_truthy_bool (hQ _ rfl _ _ G rfl))
  unfold Rep
  exact ⟨_, [], 0, rfl, vw_at (Heap.get?_push_size _ rfl) (by simp), by unfold Reps; rfl⟩
noncomputable def EM.ownBytes (i : Nat) : EM Dat := fun ρ => match ρ.own with
  | some (j, ds) => if j = i then (bytesF [.list ds]).map .ok else none
  | none => none
theorem SemE.ownBytes {x : Str} {p bp pos : Pos} (i : Nat) (G : Gd w h0) (hb : sc.names.lookup ("bytes" : Str) = some .globalImplicit) (hg : nsIn (KF w) mainGlobals "bytes" = some none) (hbb : bootBuiltins "bytes" = some (.type "bytes")) (hx : nm sc i = some x) (h1 : (x == ("__debug__" : Str)) = false) :
    SemE prog w h0 true H sc (.Call (.Name "bytes" bp) [.Name x p] [] pos) (EM.ownBytes i) := by
  intro c A l ρ s Q E K hA R hE r hr hQ hX
  unfold EM.ownBytes at hr
  split at hr <;> first | (cases hr; done) | skip
  rename_i j ds hown
  split at hr <;> first | (cases hr; done) | skip
  rename_i hj
  subst hj
  obtain ⟨d, hd, rfl⟩ := Option.map_eq_some_iff.mp hr
  refine Call_Name rfl ?_
  refine blt_at G K R hb hg hbb (by decide) (by decide) ?_
  refine PyProof.Rows.callWith_type rfl (Calls.evalArgs_plain ?_)
  refine Calls.spliced_cons ?_
  refine own_var K R hown hx h1 ?_
  refine Calls.spliced_nil ?_
  unfold bytesF at hd
  obtain ⟨ns, e1, e2⟩ := Option.bind_eq_some_iff.mp hd
  split at e2 <;> first | (cases e2; done) | skip
  rename_i h
  obtain rfl := Option.some.inj e2
  obtain ⟨vs, n, h4, h5⟩ := own_at R hown
  simp only [Bool.and_eq_true, List.all_eq_true, decide_eq_true_eq] at h
  refine call_bytes_ints (ns := ns) ⟨_, h4, rfl, n, rfl⟩ (intsAre_of h5 e1) h.1 (by rw [h5.length, intsD_len e1, sizeLine_eq]; omega) (hA.handled rfl) fun h' t k hk => hQ _ rfl _ _ (.keeps hk) ?_
  unfold Rep; exact ⟨_, rfl⟩

/-- _law_seconds().get(k, default) -/
noncomputable def secD : List Dat → Option Dat
  | [.int k, d] => some (if k = 224 then .tuple [.int 160, .int 191] else if k = 237 then .tuple [.int 128, .int 159] else if k = 240 then .tuple [.int 144, .int 191] else if k = 244 then .tuple [.int 128, .int 143] else d)
  | _ => none
theorem SemE.seconds {f : Str} {fp cp ap pos : Pos} {e₁ e₂ : Expr} {φ ψ : EM Dat} (G : Gd w h0) (hH : 1 ≤ H) (hx : sc.names.lookup f = some .globalImplicit) (hg : nsIn (KF w) mainGlobals f = some (some (.ref 259))) (hd : (f == ("__debug__" : Str)) = false)
    (a : SemE prog w h0 true H sc e₁ φ) (b : SemE prog w h0 true H sc e₂ ψ)
    (hbase : ∀ env, attributeBase (.Call (.Name f fp) [] [] cp) "get" env (eval (.Call (.Name f fp) [] [] cp) env) = eval (.Call (.Name f fp) [] [] cp) env)
    (hline : (ap.endLine == pos.line) = true) (hs : ∀ env, starEach [e₁, e₂] env = [(false, eval e₁ env), (false, eval e₂ env)] := by intro _; rfl) :
    SemE prog w h0 true H sc (.Call (.Attribute (.Call (.Name f fp) [] [] cp) "get" ap) [e₁, e₂] [] pos) (φ.bind fun k => ψ.bind fun d => EM.lift (secD [k, d])) := by
  intro c A l ρ s Q E K hA R hE r hr hQ hX
  refine Call_method2 (hbase _) (hs _) hline ?_
  refine Call_Name rfl ?_
  refine glob_at G K R hx hg hd ?_
  refine callWith_K0 (K := KF w) (G.X.keeps R.stays) (by rfl) ?_
  refine seconds_call G R.stays (by have := hA.depth; omega) fun h' d v1 v2 v3 v4 tk hk hdn h3 hD s1 s2 s3 s4 => ?_
  have G₁ : Goes c s { s with heap := h', toks := tk } := .keeps hk
  have R₁ := R.goes K G₁
  have hdT := hD.typeIs (s := { s with heap := h', toks := tk })
  have hdo : ∃ o, h'.get? d = some o ∧ o.dict = none := by obtain ⟨o, es, ep, ho, hc, _⟩ := hD; exact ⟨o, ho, hc.2.1⟩
  refine ⟨"dict", "dict.get", PySem.F.plainAttrs_dict, PySem.F.slot_dict_get, PySem.F.type_dict_get, hdT, fun a e => by cases e; exact hdo, ?_⟩
  refine Calls.callWith_builtin rfl (Calls.evalArgs_plain ?_)
  refine Calls.spliced_cons ?_
  refine a.use K hA R₁ hE hr (ErrOk.goes (r := r) hX G₁) fun k kv s₂ hr₂ G₂ R₂ hkv hX₂ => ?_
  refine Calls.spliced_cons ?_
  refine b.use K hA R₂ hE hr₂ hX₂ fun dd dv s₃ hr₃ G₃ R₃ hdv hX₃ => ?_
  refine Calls.spliced_nil ?_
  obtain ⟨x, e, rfl⟩ := lift_some hr₃
  unfold secD at e
  split at e <;> first | (cases e; done) | skip
  rename_i kk dd' hl
  injection hl with hl1 hl2
  injection hl2 with hl2 _
  subst hl1
  subst hl2
  obtain rfl := Option.some.inj e
  unfold Rep at hkv
  obtain ⟨t, rfl⟩ := hkv
  have dF : d ∉ addrs (c.fenv :: c.fs) := (R.fresh_g hdn).2.2.2
  have hD₃ : s₃.heap.DictOf (intKind prog w) d [(224, v1), (237, v2), (240, v3), (244, v4)] := by
    obtain ⟨o, es, ep, ho, r⟩ := hD
    exact ⟨o, es, ep, (G₃.ext d o (by simp) ((G₂.ext d o (by simp) ho).2 dF)).2 dF, r⟩
  have rep : ∀ {v : Value} {i j : Int}, Since s.heap h' v i j → Rep (vw s₃.heap (hid c l)) (.tuple [.int i, .int j]) v := fun {v i j} x => by
    obtain ⟨aa, t1, t2, n, e, x1, x2⟩ := x
    have nh : aa ∉ hid c l := fun q => by obtain ⟨o, e⟩ := R.hid_in K q; have := x1.symm.trans e; cases this
    have aF : aa ∉ addrs (c.fenv :: c.fs) := (R.fresh_g x1).2.2.2
    unfold Rep
    refine ⟨aa, _, n, e, vw_at ((G₃.ext aa _ (by simp) ((G₂.ext aa _ (by simp) x2).2 aF)).2 aF) nh, ?_⟩
    unfold Reps
    refine ⟨_, _, rfl, by unfold Rep; exact ⟨_, rfl⟩, ?_⟩
    unfold Reps
    refine ⟨_, _, rfl, by unfold Rep; exact ⟨_, rfl⟩, ?_⟩
    unfold Reps
    rfl
  have Gf : Goes c s { s₃ with toks := s₃.toks + 1 } := ((G₁.trans G₂).trans G₃).trans (.toks _)
  refine call_meetsIn PySem.F.slot_dict_get hD₃.typeIs PySem.F.entry_dict_get (PySem.F.args_dict_get_3 _ _ _) (meets_dict_get_default (intKind prog w) d (k := kk) (key := .int kk t) (intKind_is prog w kk t) (by rw [beq_eq_false_iff_ne]; intro q; rw [q] at h3; exact absurd h3 (by decide)) dv) ⟨_, hD₃.mapOf, hQ _ rfl _ _ Gf ?_⟩
  have e0 : valueAt [((224 : Int), v1), (237, v2), (240, v3), (244, v4)] kk = if kk = 224 then some v1 else if kk = 237 then some v2 else if kk = 240 then some v3 else if kk = 244 then some v4 else none := by
    unfold valueAt
    by_cases h1 : kk = 224
    · subst h1; rfl
    · by_cases h2 : kk = 237
      · subst h2; rfl
      · by_cases h3 : kk = 240
        · subst h3; rfl
        · by_cases h4 : kk = 244
          · subst h4; rfl
          · rw [if_neg h1, if_neg h2, if_neg h3, if_neg h4]
            simp [List.find?_cons, Ne.symm h1, Ne.symm h2, Ne.symm h3, Ne.symm h4]
  rw [e0]
  show Rep (vw s₃.heap (hid c l)) _ _
  by_cases h1 : kk = 224
  · rw [if_pos h1, if_pos h1]; exact rep s1
  · rw [if_neg h1, if_neg h1]
    by_cases h2 : kk = 237
    · rw [if_pos h2, if_pos h2]; exact rep s2
    · rw [if_neg h2, if_neg h2]
      by_cases h3 : kk = 240
      · rw [if_pos h3, if_pos h3]; exact rep s3
      · rw [if_neg h3, if_neg h3]
        by_cases h4 : kk = 244
        · rw [if_pos h4, if_pos h4]; exact rep s4
        · rw [if_neg h4, if_neg h4]; exact hdv
end
end Mine
end
section
set_option Elab.async false
set_option maxRecDepth 100000
open PySem PySem.W PyProof.Rows PySem.SeqAt PySem.Spec
namespace Mine

section
variable {prog : Program} {w : World} {h0 : Heap} {q : Bool} {H : Nat} {sc : Scope} {c : Fx} {A : Around} {l : Addr} {ρ : St} {s : Shared} {E : Value → Shared → Prop}
noncomputable def sumF : List Dat → Option Dat
  | [.list ds] => (intsD ds).map fun ns => .int ns.sum
  | _ => none
theorem sum_ok : BltOk prog w h0 H (.builtin "sum") sumF := by
  intro c sc A l ρ s Q E ds vs d K hA R hv e hQ
  unfold sumF at e
  split at e <;> first | (cases e; done) | skip
  obtain ⟨ns, e1, rfl⟩ := Option.map_eq_some_iff.mp e
  obtain ⟨v, rfl, h1⟩ := one_of hv
  unfold Rep at h1
  obtain ⟨a, us, n, rfl, ho, r⟩ := h1
  have hi := intsAre_of r e1
  have hl : s.heap.IsList a us.toArray := ⟨_, vw_get ho, rfl, n, rfl⟩
  obtain ⟨xs, hx⟩ := hi.allInts.items
  have hl' : s.heap.IsList a (intItems xs) := hx ▸ hl
  refine sum_intListG (hA.handled rfl) hl' fun h' tk t' hk => ?_
  have e1 : ns = xs.toList.map (·.1) := by
    rw [← nums_intItems, ← hx]
    exact (show numsOf us.toArray.toList = ns from hi.numsOf).symm
  have e2 : preSum (numAt xs) xs.size = ns.sum := by
    rw [preSum_eq, List.take_of_length_le (by simp), e1]
  rw [e2]
  exact hQ _ _ (.keeps hk) (by unfold Rep; exact ⟨_, rfl⟩)

/-- a list of numbers of the top -/
noncomputable def intsV : List Int → List Value → Bool
  | [], [] => true
  | i :: is, .int j _ :: vs => i == j && intsV is vs
  | _, _ => false
theorem reps_ints {S : View} : ∀ {is : List Int} {vs : List Value}, intsV is vs = true → Reps S (is.map .int) vs
  | [], [], _ => by show Reps S [] []; unfold Reps; rfl
  | [], _ :: _, h => by cases h
  | i :: is, [], h => by cases h
  | i :: is, v :: vs, h => by
    cases v <;> first | (cases h; done) | skip
    rename_i j t
    have h : (i == j && intsV is vs) = true := h
    obtain ⟨h1, h2⟩ := Bool.and_eq_true_iff.mp h
    obtain rfl := eq_of_beq h1
    show Reps S (.int i :: is.map .int) _
    unfold Reps
    exact ⟨_, vs, rfl, by unfold Rep; exact ⟨t, rfl⟩, reps_ints h2⟩
theorem rep_globs {K : Frag} {a : Addr} {is : List Int} {vs : List Value} {n : Nat} (h : K.lookup a = some { cls := .type "list", data := .seq (List.toArray vs) n }) (hv : intsV is vs = true) : Rep (fun a => K.lookup a) (.list (is.map .int)) (.ref a) := by
  unfold Rep
  exact ⟨a, vs, n, rfl, h, reps_ints hv⟩
end
end Mine
end
section
set_option Elab.async false
set_option maxRecDepth 100000
open PySem PySem.W PyProof.Rows PySem.SeqAt PySem.Spec
namespace Mine
theorem CallSpec.mono {prog : Program} {w : World} {h0 : Heap} {f : Addr} {H H' : Nat} {F : List Dat → Option (Except Addr Dat)} (x : CallSpec prog w h0 f H F) (h : H ≤ H') : CallSpec prog w h0 f H' F :=
  fun A fs M s vs ds Q E h1 h2 h3 h4 => x A fs M s vs ds Q E h1 h2 (by omega) (by omega)
theorem seconds_base {env : Env} {fp cp : Pos} : attributeBase (.Call (.Name "_law_seconds" fp) [] [] cp) "get" env (eval (.Call (.Name "_law_seconds" fp) [] [] cp) env) = eval (.Call (.Name "_law_seconds" fp) [] [] cp) env := by
  generalize eval (.Call (.Name "_law_seconds" fp) [] [] cp) env = t
  unfold attributeBase
  have e : (("_law_seconds" : Str) != ("super" : Str)) = true := by decide
  simp only [e, Bool.true_or, if_true]
  try simp
structure Sp (f : Addr) (H : Nat) where
  F : List Dat → Option (Except Addr Dat)
  ok : ∀ (prog : Program) (w : World) (h0 : Heap), Gd w h0 → CallSpec prog w h0 f H F ∧ keepIn (KF w) (.ref f) = true
noncomputable def cellAt (n : Str) (sc : Scope) : Scope := { sc with names := sc.names.map fun p => if p.1 == n then (p.1, .cell) else p }
section
variable {prog : Program} {w : World} {h0 : Heap} {H : Nat} {sc : Scope}
theorem SemE.comp0 {x : Str} {px pos : Pos} {elt iter : Expr} {ifs : List Expr} {scope : Scope} (i : Nat) {τ : EM Bool} {φ : EM Dat} {χ : EM (List Dat)}
    (hi : SemI prog w h0 H sc iter χ) (ht : SemF prog w h0 true H scope ifs τ) (he : SemE prog w h0 true H scope elt φ) (S : CompS sc scope scope x i)
    (hclos : ∀ env : Env, env.scope = sc → closureFor scope env = pure [])
    (hs : ∀ env x, foldedSetIterable iter env x = pure x := by intro _ _; rfl) :
    SemE prog w h0 true H sc (.ListComp elt [⟨.Name x px, iter, ifs, 0⟩] scope pos) ((χ.bind fun ds => EM.lift (clipL (compM i (fun _ => none) τ φ ds))).bind fun es => EM.pure (.list es)) :=
  SemE.comp i S hi ht he hclos hs
theorem SemE.compC0 {x : Str} {px pos : Pos} {elt iter : Expr} {ifs : List Expr} {scope : Scope} (n : Str) (i k j : Nat) {τ : EM Bool} {φ : EM Dat} {χ : EM (List Dat)}
    (hi : SemI prog w h0 H sc iter χ) (ht : SemF prog w h0 true H (cellAt n scope) ifs τ) (he : SemE prog w h0 true H (cellAt n scope) elt φ) (S : CompS sc scope (cellAt n scope) x i) (hki : k ≠ i)
    (c1 : nm (cellAt n scope) k = some n) (c2 : nm sc j = some n) (c3 : sc.names.lookup n = some .cell) (c4 : (cellAt n scope).names.lookup n = some .cell)
    (hclos : ∀ env : Env, ∀ a, env.scope = sc → env.cells.lookup n = some a → closureFor scope env = pure [(n, a)])
    (hs : ∀ env x, foldedSetIterable iter env x = pure x := by intro _ _; rfl) :
    SemE prog w h0 true H sc (.ListComp elt [⟨.Name x px, iter, ifs, 0⟩] scope pos) (capE j fun d => (χ.bind fun ds => EM.lift (clipL (compM i (fun jj => if jj = k then some d else none) τ φ ds))).bind fun es => EM.pure (.list es)) :=
  SemE.compC i k j S hi ht he hki c1 c2 c3 c4 hclos hs
theorem SemS.comp0 {x y : Str} {px py pos spos : Pos} {elt iter : Expr} {ifs : List Expr} {scope : Scope} (i k : Nat) {τ : EM Bool} {φ : EM Dat} {χ : EM (List Dat)}
    (hi : SemI prog w h0 H sc iter χ) (ht : SemF prog w h0 true H scope ifs τ) (he : SemE prog w h0 true H scope elt φ) (S : CompS sc scope scope x i)
    (hclos : ∀ env : Env, env.scope = sc → closureFor scope env = pure [])
    (hy : nm sc k = some y) (hyl : sc.names.lookup y = some .local)
    (hsw : ∀ env : Env, env.scope = sc → swapsWith (.ListComp elt [⟨.Name x px, iter, ifs, 0⟩] scope pos) (some (.Name y py)) spos.line env = pure true)
    (hs : ∀ env x, foldedSetIterable iter env x = pure x := by intro _ _; rfl) :
    SemS prog w h0 true H sc (.Assign [.Name y py] (.ListComp elt [⟨.Name x px, iter, ifs, 0⟩] scope pos) spos) (SM.ofE (χ.bind fun ds => EM.lift (clipL (compM i (fun _ => none) τ φ ds))) fun es => SM.put k (.list es)) :=
  SemS.comp i k S hi ht he hclos hy hyl hsw hs
end
theorem vs1 {P : List Value → Prop} (k : ∀ a, P [a]) (vs : List Value) (h : vs.length = 1) : P vs := by
  obtain ⟨a, rfl⟩ := List.length_eq_one_iff.mp h
  exact k a
theorem vs2 {P : List Value → Prop} (k : ∀ a b, P [a, b]) (vs : List Value) (h : vs.length = 2) : P vs := by
  cases vs with
  | nil => cases h
  | cons a vs => exact vs1 (P := fun vs => P (a :: vs)) (k a) vs (Nat.succ.inj h)
theorem binds1 {s : Shared} {fd : FuncData} {xs : List Str} (k : ∀ a, BindsTo s fd ⟨[a], []⟩ (xs.zip [a])) (vs : List Value) (h : vs.length = 1) : BindsTo s fd ⟨vs, []⟩ (xs.zip vs) :=
  vs1 (P := fun vs => BindsTo s fd ⟨vs, []⟩ (xs.zip vs)) k vs h
theorem binds2 {s : Shared} {fd : FuncData} {xs : List Str} (k : ∀ a b, BindsTo s fd ⟨[a, b], []⟩ (xs.zip [a, b])) (vs : List Value) (h : vs.length = 2) : BindsTo s fd ⟨vs, []⟩ (xs.zip vs) :=
  vs2 (P := fun vs => BindsTo s fd ⟨vs, []⟩ (xs.zip vs)) k vs h
end Mine
end
section
set_option Elab.async false
set_option maxRecDepth 100000
open PySem PySem.W PyProof.Rows PySem.SeqAt PySem.Spec
namespace Mine
section
variable {prog : Program} {w : World} {h0 : Heap} {q : Bool} {H : Nat} {sc : Scope} {c : Fx} {A : Around} {l : Addr} {ρ : St} {s : Shared} {E : Value → Shared → Prop}
theorem SemE.neg {i : Int} {kk} {cp pos : Pos} : SemE prog w h0 q H sc (.UnaryOp .USub (.Constant (.int i) kk cp) pos) (EM.pure (.int (-i))) := by
  intro c A l ρ s Q E K hA R hE r hr hQ hX
  obtain rfl : Except.ok (Dat.int (-i)) = r := Option.some.inj hr
  refine UnaryOp_ ?_
  refine wpAny_Constant_int ?_
  refine neg_int ?_
  exact hQ _ rfl _ _ (.toks _) (by unfold Rep; exact ⟨_, rfl⟩)

theorem Rel.remine {h h' : Heap} {a : Addr} {i n : Nat} {x : Str} {ds es : List Dat} {us : List Value} {m : Str → Option Value} (K : Fok h0 (c.pinned a (lst us n)) sc) (R : Rel h0 (c.pinned a (lst us n)) l ρ h) (hx : nm sc i = some x) (ho : ρ.own = some (i, ds))
    (hr : Reps (vw h (hid (c.pinned a (lst us n)) l)) es us)
    (hn : h.Ns c.env.locals m) (hn' : h'.Ns c.env.locals (fun y => if y = x then some (.ref a) else m y)) (hs : Heap.SameBut c.env.locals h h') :
    Rel h0 c a { ρ with own := some (i, es), loc := ρ.cut i, stm := none } h' := by
  obtain ⟨m', hm', a1, a2, a3⟩ := R.ns
  obtain rfl : m' = m := ns_eq hm' hn
  obtain ⟨o', ho', hd'⟩ := ns_obj hn'
  obtain ⟨t1, t2, t3, t4, t5⟩ := touch R hs (.inl K.gL) K.bL ho' hd'
  obtain ⟨p1, pX, pF, pL, pl, p0, pg, pM⟩ := R.pin _ (.head _)
  have hnp : a ∉ c.P.map (·.1) := (List.nodup_cons.mp K.pnd).1
  have V := mine_vle (a := a) (l := l) (o := lst us n) hs
  have other : ∀ j y, j ≠ i → nm c.env.scope j = some y → (fun y => if y = x then some (.ref a) else m' y) y = m' y := fun j y hj hy => by
    show (if y = x then some (.ref a) else m' y) = m' y
    rw [if_neg]
    intro q
    subst q
    rw [show c.env.scope = sc from K.is] at hy
    exact hj (nm_inj K.dup hy hx)
  have cells : ∀ b ob v, h.get? b = some ob → ob.data = .cell v → h'.get? b = some ob := fun b ob v e hd => (hs.2 b fun q => ns_nocell hn ob v (q ▸ e) hd).trans e
  obtain ⟨x₁, vs₁, n₁, h1, hk, _⟩ := a2 i ds ho
  have e1 : x₁ = x := by have := h1.symm.trans (show nm c.env.scope i = some x from (show c.env.scope = sc from K.is) ▸ hx); exact Option.some.inj this
  subst e1
  refine ⟨t1, t2, t3, fun q => (by cases q), fun p hp => ?_, t4, fun p hp => (R.see p hp).mono V, t5, _, hn', fun j e he => ?_, fun j ds he => ?_, fun j b wt pl he => (by cases he)⟩
  · obtain ⟨q1, q2, q3, q4, q5, q6, q7⟩ := R.pin p (.tail _ hp)
    exact ⟨(hs.2 _ q4).trans q1, q2, q3, q4, fun q => hnp (List.mem_map.mpr ⟨p, hp, q⟩), q6, q7⟩
  · unfold St.cut at he
    dsimp only at he
    by_cases hj : j = i
    · rw [if_pos hj] at he; cases he
    · rw [if_neg hj] at he
      obtain ⟨y, hy, hl⟩ := a1 j e he
      exact ⟨y, hy, LocAt.to (c := c.pinned a (lst us n)) rfl rfl rfl rfl V (other j y hj hy) cells hl⟩
  · cases he
    exact ⟨x₁, us, n, h1, hk, if_pos rfl, (hs.2 _ pL).trans p1, hr.mono V, pM, pL, pF, pg, p0, pX⟩

/-- found = found + e, found the frame's own -/
noncomputable def SM.ownAdd (i : Nat) (φ : EM Dat) : SM := fun ρ => match ρ.own with
  | some (j, ds) => if j = i then SM.ofE φ (fun d ρ => match d with
    | .list es => if ds.length + es.length ≤ 4096 then some (.next { ρ with own := some (i, ds ++ es), loc := ρ.cut i, stm := none }) else none
    | _ => none) ρ else none
  | none => none
theorem SemS.ownAdd {x : Str} {p p2 bp pos : Pos} {e : Expr} {φ : EM Dat} (i : Nat) (a : SemE prog w h0 q H sc e φ) (hx : nm sc i = some x) (hk : sc.names.lookup x = some .local) (h1 : (x == ("__debug__" : Str)) = false) :
    SemS prog w h0 q H sc (.Assign [.Name x p] (.BinOp (.Name x p2) .Add e bp) pos) (SM.ownAdd i φ) := by
  intro c A l ρ s Q E K hA R hE hfe o ho hP
  unfold SM.ownAdd at ho
  split at ho <;> first | (cases ho; done) | skip
  rename_i j ds hown
  split at ho <;> first | (cases ho; done) | skip
  rename_i hj
  subst hj
  refine wpAny_Assign_Name (wpAny_BinOp ?_) rfl
  refine own_var K R hown hx h1 ?_
  refine a.useS K hA R hE ho hP fun d v s₁ ho₁ G₁ R₁ hv hP₁ => ?_
  split at ho₁ <;> first | (cases ho₁; done) | skip
  rename_i es
  split at ho₁ <;> first | (cases ho₁; done) | skip
  rename_i hlen
  obtain rfl := Option.some.inj ho₁
  obtain ⟨vs, n, hl, hr⟩ := own_at R₁ hown
  unfold Rep at hv
  obtain ⟨b1, us, n', rfl, hb, r2⟩ := hv
  have e1 : vs.toArray ++ us.toArray = (vs ++ us).toArray := by simp
  refine concat_meets ⟨_, hl, rfl⟩ ⟨_, vw_get hb, rfl⟩ noFill_list_add seq_list_add PySem.F.slot_list_add PySem.F.entry_list_add (PySem.F.args_list_add_2 _ _) (list_addW l b1 vs.toArray us.toArray n n' none none #[] #[] ?_) ⟨hl, vw_get hb, ?_⟩
  · rw [List.size_toArray, List.size_toArray, hr.length, r2.length, sizeLine_eq]; omega
  · rw [e1]
    have k : ∀ b ob, s₁.heap.get? b = some ob → (s₁.heap.push { cls := .type "list", data := .seq (vs ++ us).toArray }).get? b = some ob := fun b ob e => Heap.get?_push_of_some _ e
    have R₂ := R₁.newPin K rfl k (o := lst (vs ++ us) 0) (Heap.get?_push_size _ rfl)
    have V := pin_vle (c := c) (l := l) (o := lst (vs ++ us) 0) rfl k
    have K₂ := K.pinned (lst (vs ++ us) 0) R₁.pin_fresh
    obtain ⟨m, hn, _⟩ := R₂.ns
    have hk' : c.env.kindOf x = some .local := by rw [Env.kindOf, K.is]; exact hk
    refine wpAny_storeName_local hk' hn (fun h' hn' hs => hP₁ _ _ rfl rfl (Rel.remine K₂ R₂ hx hown ((hr.append r2).mono V) hn hn' hs)) ?_
    rw [K.is, K.kind]; rfl
end
end Mine
end
section
set_option Elab.async false
set_option maxRecDepth 100000
open PySem PySem.W PyProof.Rows PySem.SeqAt PySem.Spec
namespace Mine
section
variable {prog : Program} {w : World} {h0 : Heap} {H : Nat}

/-- a def of the text with a cell parameter and a plain one -/
theorem call_specC {f : Addr} {fd : FuncData} {oc : Value} {od : Option Addr} {osl : Array (Option Value)} {body : List Stmt} (x₀ x₁ : Str) {ψ : SM} (G : Gd w h0)
    (ho : (KF w).lookup f = some ⟨oc, od, .func fd, osl⟩) (hbody : fd.body = .stmts body) (hsem : SemB prog w h0 true H fd.scope body ψ) (hcd : codeIn (KF w) fd.code fd.qualname = true)
    (hgl : fd.globals = mainGlobals) (hbl : fd.builtins = builtinsNs) (hcl : fd.closure = [])
    (hbind : ∀ a b, bindArgs fd ⟨[a, b], []⟩ = pure [(x₀, a), (x₁, b)]) (hn0 : nm fd.scope 0 = some x₀) (hn1 : nm fd.scope 1 = some x₁) (hne : x₀ ≠ x₁)
    (hk0 : fd.scope.names.lookup x₀ = some .cell) (hk1 : fd.scope.names.lookup x₁ = some .local) (hcf : ∀ n, (cellsFrom n fd.scope.names []).lookup x₀ = some n)
    (hdup : (fd.scope.names.map (·.1)).Nodup)
    (hco : fd.scope.isCoroutine = false) (hgen : fd.scope.isGenerator = false) (hk : fd.scope.kind = .function) :
    CallSpec prog w h0 f (H + 1) (fun ds => if ds.length = 2 then resOf (ψ (startOf [0, 1] ds)) else none) := by
  intro A fs M s vs ds Q E hfr hh hdp hun hst hff hM hv r hr hQ hX
  dsimp only at hr
  split at hr <;> first | (cases hr; done) | skip
  rename_i hlen
  have X : (KF w).In s.heap := G.X.keeps hst
  obtain ⟨mg, mb, T⟩ := G.T
  match ds, hlen with
  | [d0, d1], _ =>
  unfold Reps at hv
  obtain ⟨v0, rest, rfl, hv0, hv⟩ := hv
  obtain ⟨v1, rfl, hv1⟩ := one_of hv
  refine wpAny_call (codeAny_call_cells (fd := fd) (body := body) (vals := [v0, v1]) (binds := [(x₀, v0), (x₁, v1)]) (by omega) (X _ _ ho) rfl (T.nolimit.keeps hst) (codeRec_of X hcd) hbody (hbind _ _) hcl (fun y hy => ?_) (fun s₁ x => ?_) hco hgen hk)
  · simp only [List.mem_cons, List.not_mem_nil, or_false] at hy
    rcases hy with rfl | rfl
    · exact .inr ⟨hk0, by rw [hcf]; rfl⟩
    · exact .inl hk1
  obtain ⟨h₁, tk, rfl⟩ := x.toInCall.same
  have hns : h₁.Ns s.heap.objs.size _ := x.toInCall.ns
  have hk₁ := x.toInCall.keep
  have hcell : h₁.IsCell (s.heap.objs.size + 1) _ := x.cell x₀ _ (hcf _)
  generalize hL : s.heap.objs.size = L at *
  let env := callEnvC fd L f
  let c : Fx := { env := env, fenv := env, fs := fs, g := s.heap, X := [], M := M }
  have kl : ∀ y, env.kindOf y = fd.scope.names.lookup y := fun y => rfl
  have mL : bindL env.kindOf [(x₀, v0), (x₁, v1)] (fun _ => none) x₁ = some v1 := by
    unfold bindL
    rw [if_neg (by rw [kl, hk0]; decide)]
    unfold bindL
    rw [if_pos (by rw [kl, hk1])]
    unfold bindL
    exact if_pos rfl
  have mC : bindC env.kindOf [(x₀, v0), (x₁, v1)] (fun _ => none) x₀ = some v0 := by
    unfold bindC
    rw [if_neg (by rw [kl, hk0]; decide)]
    unfold bindC
    rw [if_pos (by rw [kl, hk1])]
    unfold bindC
    exact if_pos rfl
  rw [show bindC (callEnvC fd L f).kindOf [(x₀, v0), (x₁, v1)] (fun _ => none) x₀ = some v0 from mC] at hcell
  obtain ⟨oc', hoc, hdc⟩ := hcell
  have hgL : s.heap.get? L = none := by
    cases e : s.heap.get? L with
    | none => rfl
    | some o => exact absurd (Heap.lt_size e) (by rw [hL]; exact Nat.lt_irrefl _)
  have hgC : s.heap.get? (L + 1) = none := by
    cases e : s.heap.get? (L + 1) with
    | none => rfl
    | some o => exact absurd (Heap.lt_size e) (by rw [hL]; exact Nat.not_lt.mpr (Nat.le_succ _))
  have h0L : h0.get? L = none := by
    cases e : h0.get? L with
    | none => rfl
    | some o => have := hst _ _ e; rw [hgL] at this; cases this
  have K : Fok h0 c fd.scope := ⟨rfl, hk, hgl, hbl, ⟨L, rfl, rfl, hgL⟩, hgL, h0L, by simp [c], (fun a h => by cases h), (fun a h => by cases h), fun a ha => ⟨(hM a ha).1, by simp [c]⟩, hdup, by simp [c]⟩
  have hA' : AOk true H c (A.deeper env) := ⟨Around.frames_deeper hfr, by show A.depth + 1 + H < _; omega, by show A.units + 3 + 16 * H + 16 < _; omega, fun _ => hh⟩
  obtain ⟨oL, hoL, hdL⟩ := ns_obj hns
  have hh1 : ∀ b, b ∈ hid c L → b = L ∨ b ∈ M ++ addrs fs := fun b hb => by
    rcases List.mem_cons.mp hb with hb | hb
    · exact .inl hb
    rcases List.mem_cons.mp hb with hb | hb
    · exact .inl hb
    rcases List.mem_append.mp hb with hb | hb
    · exact .inr (List.mem_append_left _ (by simpa [pm, c] using hb))
    · have e : addrs (c.fenv :: c.fs) = L :: addrs fs := rfl
      rw [e] at hb
      rcases List.mem_cons.mp hb with hb | hb
      · exact .inl hb
      · exact .inr (List.mem_append_right _ hb)
  have V : VLe (vw s.heap (M ++ addrs fs)) (vw h₁ (hid c L)) := fun b o e => vw_at (hk₁ b o (vw_get e)) fun q => by
    rcases hh1 b q with q | q
    · rw [q] at e; have := vw_get e; rw [hgL] at this; cases this
    · exact vw_not e q
  have hff1 : h₁.FunFrames h0 fs := funFrames_keep (fun b o e hn => ⟨o, hk₁ b o e, hn⟩) hff
  have cF : L + 1 ∉ addrs (c.fenv :: c.fs) := fun q => by
    have e : addrs (c.fenv :: c.fs) = L :: addrs fs := rfl
    rw [e] at q
    rcases List.mem_cons.mp q with q | q
    · exact absurd q (Nat.succ_ne_self L)
    · obtain ⟨_, o, e, _⟩ := hff.mem q
      rw [hgC] at e; cases e
  have R : Rel h0 c L (startOf [0, 1] [d0, d1]) h₁ := by
    refine ⟨fun b o e => hk₁ b o (hst b o e), ⟨fun q => (by rw [show env.scope.kind = _ from hk] at q; cases q), ⟨L, oL, rfl, h0L, hoL, hdL⟩, hff1⟩, .of_keeps hk₁, fun _ => rfl, fun p hp => (by cases hp), fun a h => (by cases h), fun p hp => (by cases hp), fun a ha => (let ⟨o, ho⟩ := (hM a ha).2; ⟨o, hk₁ _ _ ho⟩), _, hns, fun i d e => ?_, fun i ds e => (by cases e), fun i b wt pl e => (by cases e)⟩
    obtain ⟨k, e1, e2⟩ := lookup_zip_at e
    match k, e1, e2 with
    | 0, e1, e2 =>
      cases e1; cases e2
      exact ⟨x₀, hn0, .inr ⟨.inl hk0, L + 1, oc', v0, hcf _, hoc, hdc, rfl, cF, Nat.succ_ne_self L, by simp [c], hv0.mono V⟩⟩
    | 1, e1, e2 =>
      cases e1; cases e2
      exact ⟨x₁, hn1, .inl ⟨hk1, v1, mL, hv1.mono V⟩⟩
    | k + 2, e1, e2 => cases e1
  have hψ : ∃ o, ψ (startOf [0, 1] [d0, d1]) = some o ∧ resOf (some o) = some r := by
    cases e : ψ (startOf [0, 1] [d0, d1]) with
    | none => rw [e] at hr; cases hr
    | some o => exact ⟨o, rfl, by rw [← e]; exact hr⟩
  obtain ⟨o, ho₁, ho₂⟩ := hψ
  refine hsem c (A.deeper env) L (startOf [0, 1] [d0, d1]) { s with heap := h₁, toks := tk } _ _ K hA' R PassesOwn.leaving rfl o ho₁ ?_
  cases o with
  | next ρ' =>
    intro l' s' g k R'
    obtain rfl := Option.some.inj ho₂
    exact hQ _ rfl _ s' R'.ended.ext g k (by unfold Rep; rfl)
  | brk ρ' => cases ho₂
  | ret d =>
    intro v s' g k x hv'
    obtain rfl := Option.some.inj ho₂
    refine hQ _ rfl v s' x.ext g k (hv'.mono (vw_sub fun b hb => ?_))
    rcases List.mem_append.mp hb with hb | hb
    · exact List.mem_append_left _ hb
    · exact List.mem_append_right _ (.tail _ hb)
  | raise C =>
    intro e s' g k x
    obtain rfl := Option.some.inj ho₂
    exact leave_sound (c := c) rfl rfl K (Around.frames_deeper hfr) x fun s'' g' k' y z => hX C rfl e s'' y (g'.trans g) (k'.trans k) z
end
end Mine
end
section
set_option Elab.async false
set_option maxRecDepth 100000
open PySem PySem.W PyProof.Rows PySem.SeqAt PySem.Spec
open Builtin Builtin.Bytes
namespace Mine
namespace BJ
theorem slot_join : Slot "bytes" "join" "bytes.join" :=
  .of (owner := "bytes") (n := "join") (by rw [typeLookup_type, builtinLookup_eq_fast]; kernel_rfl) (by decide +kernel) (by decide +kernel) (by decide +kernel)
    (by first | exact .inl (by decide +kernel) | exact .inr (by decide +kernel)) (by rw [isSubtype_type]; kernel_rfl)
theorem entry_join : entryFor table "bytes.join" = some Builtin.«bytes.join» := entryFor_of_tree (by kernel_rfl)
theorem args_join (a b : Value) : argsOk "bytes.join" ⟨[a, b], []⟩ := by
  unfold argsOk; rw [signature?_of (id := "bytes.join") (n := ['n', 'i', 'o', 'j']) (o := ['s', 'e', 't', 'y', 'b']) (by kernel_rfl) FB.owner_bytes]; kernel_rfl
theorem type_join : typeOf (.builtin "bytes.join") = pure (.type "method_descriptor") := by show builtinType _ = _; rw [builtinType_eq_fast]; kernel_rfl
theorem slot_buffer : Slot "bytes" "__buffer__" "bytes.__buffer__" :=
  .of (owner := "bytes") (n := "__buffer__") (by rw [typeLookup_type, builtinLookup_eq_fast]; kernel_rfl) (by decide +kernel) (by decide +kernel) (by decide +kernel)
    (by first | exact .inl (by decide +kernel) | exact .inr (by decide +kernel)) (by rw [isSubtype_type]; kernel_rfl)
section
variable {M : Model} {A : Around} {E : Value → Shared → Prop} {s : Shared}
theorem release_none : typeLookup (.type "bytes") "__release_buffer__" = pure none := by rw [typeLookup_type, builtinLookup_eq_fast]; kernel_rfl
theorem sub_bytes : isSubtype (.type "bytes") (.type "bytes") = pure true := by rw [isSubtype_type]; kernel_rfl
theorem ends_buffer : ("bytes.__buffer__" : String).endsWith ("." ++ "__buffer__") = true := by decide +kernel
theorem drop_buffer : ("bytes.__buffer__" : String).dropRight (("__buffer__" : String).length + 1) = "bytes" := by decide +kernel
theorem own_buffer {b : Array UInt8} {t : Tok} {Q : Bool → Shared → Prop} (hQ : Q true s) : wpAny M A (slotIsOwn (.bytes b t) "__buffer__") Q E s := by
  unfold slotIsOwn
  refine wpAny_bind (wpAny_specialOf (typeIs_bytes s b t) slot_buffer.lookup ?_)
  dsimp only
  rw [ends_buffer, drop_buffer]
  exact wpAny_isInstance (typeIs_bytes s b t) sub_bytes hQ
theorem own_release {b : Array UInt8} {t : Tok} {Q : Bool → Shared → Prop} (hQ : Q false s) : wpAny M A (ownRelease (.bytes b t)) Q E s := by
  unfold ownRelease slotIsOwn
  refine wpAny_bind (wpAny_bind (wpAny_specialOf (typeIs_bytes s b t) release_none ?_))
  exact wpAny_pure (wpAny_pure hQ)
theorem buffer_bytes {id : String} {b : Array UInt8} {t : Tok} {full : Bool} {Q : Option (Array UInt8) → Shared → Prop} (hQ : Q (some b) s) : wpAny M A (buffer? id (.bytes b t) full) Q E s := by
  unfold buffer?
  refine wpAny_bind (wpAny_specialOf (typeIs_bytes s b t) slot_buffer.lookup ?_)
  refine wpAny_bind (own_buffer ?_)
  rw [if_neg (by decide)]
  refine wpAny_bind (wpAny_specialOf (typeIs_bytes s b t) slot_buffer.lookup ?_)
  dsimp only
  refine wpAny_bind (own_release ?_)
  rw [if_neg (by decide)]
  refine wpAny_bind ?_
  exact wpAny_pure (wpAny_pure hQ)
theorem take_bytes {id : String} {b : Array UInt8} {t : Tok} {Q : Option (Array UInt8 × Option Value) → Shared → Prop} (hQ : Q (some (b, none)) s) : wpAny M A (takeBufferQuiet? id (.bytes b t) 0) Q E s := by
  unfold takeBufferQuiet? takeBuffer?
  refine wpAny_bind (wpAny_attempt ?_)
  refine wpAny_bind (wpAny_specialOf (typeIs_bytes s b t) slot_buffer.lookup ?_)
  refine wpAny_bind (own_buffer ?_)
  rw [if_neg (by decide)]
  refine wpAny_bind (wpAny_specialOf (typeIs_bytes s b t) slot_buffer.lookup ?_)
  dsimp only
  exact wpAny_bind (buffer_bytes (wpAny_pure (wpAny_pure hQ)))
end
end BJ
end Mine
end
section
set_option Elab.async false
set_option maxRecDepth 100000
open PySem PySem.W PyProof.Rows PySem.SeqAt PySem.Spec
open Builtin Builtin.Bytes
namespace Mine
namespace BJ
section
variable {prog : Program} {w : World} {A : Around} {E : Value → Shared → Prop} {s : Shared}
noncomputable def cat (bs : List (List UInt8)) : List UInt8 := bs.flatten
theorem bytes_at {S : View} {bs : List (List UInt8)} {vs : List Value} (h : Reps S (bs.map .bytes) vs) {i : Nat} {b : List UInt8} (e : bs[i]? = some b) : ∃ t, vs[i]? = some (.bytes b.toArray t) := by
  obtain ⟨v, hv, hr⟩ := h.get (i := i) (d := .bytes b) (by rw [List.getElem?_map, e]; rfl)
  unfold Rep at hr
  obtain ⟨t, rfl⟩ := hr
  exact ⟨t, hv⟩
theorem conds {α : Type} {x y : α} : (if (Kind.bytes == Kind.bytes) = true then x else y) = x := by rw [if_pos (by decide)]
theorem letGo_all : ∀ (taken : List (Value × Option Value)) {keep : List Value} {Q : Unit → Shared → Prop}, (∀ p ∈ taken, p.2 = none) → Q () s → wpAny (model prog w) A (joinLetGo taken keep) Q E s
  | [], _, _, _, h => wpAny_pure h
  | (x, y) :: r, keep, Q, hn, h => by
    obtain rfl : y = none := hn _ (.head _)
    unfold joinLetGo
    exact wpAny_bind (wpAny_letGo (letGo_all r (fun p hp => hn p (.tail _ hp)) h))
theorem all_bytes {S : View} : ∀ {bs : List (List UInt8)} {vs : List Value}, Reps S (bs.map .bytes) vs → ∀ v ∈ vs, ∃ b t, v = .bytes b t
  | [], vs, h, v, hv => by
    have h : Reps S [] vs := h
    unfold Reps at h; subst h; cases hv
  | b :: bs, vs, h, v, hv => by
    have h : Reps S (.bytes b :: bs.map .bytes) vs := h
    unfold Reps at h
    obtain ⟨u, r, rfl, h1, h2⟩ := h
    rcases List.mem_cons.mp hv with rfl | hv
    · unfold Rep at h1; obtain ⟨t, rfl⟩ := h1; exact ⟨_, t, rfl⟩
    · exact all_bytes h2 v hv
theorem joined_cat : ∀ (bs : List (List UInt8)) (k : Nat) (acc : Array UInt8), ((bs.map List.toArray).zipIdx k).foldl (fun (out : Array UInt8) (p : Array UInt8 × Nat) => (if p.2 > 0 then out ++ (#[] : Array UInt8) else out) ++ p.1) acc = acc ++ (cat bs).toArray
  | [], k, acc => by simp [cat]
  | b :: bs, k, acc => by
    rw [List.map_cons, List.zipIdx_cons, List.foldl_cons, joined_cat bs (k + 1)]
    have : (if k > 0 then acc ++ (#[] : Array UInt8) else acc) = acc := by split <;> simp
    simp only [this]
    simp [cat]
theorem size_cat : ∀ (bs : List (List UInt8)) (k : Nat), (bs.map List.toArray).foldl (fun (a : Nat) (b : Array UInt8) => a + b.size) k = k + (cat bs).length
  | [], k => by simp [cat]
  | b :: bs, k => by
    rw [List.map_cons, List.foldl_cons, size_cat bs]
    simp [cat]
    omega
theorem join_tail {bs : List (List UInt8)} {parts : Array (Array UInt8)} {taken : List (Value × Option Value)} {t : Tok} {Q : Fin → Shared → Prop} (hp : parts = (bs.map List.toArray).toArray) (hn : ∀ p ∈ taken, p.2 = none) (hz2 : (cat bs).length ≤ 4096)
    (hQ : ∀ t' tk, Q (.done (.ret (.bytes (cat bs).toArray t'))) { s with toks := tk }) (x : Sem Unit) :
    wpAny (model prog w) A (do
      let sep ← payload (Value.bytes #[] t)
      if tooLong (parts.foldl (· + ·.size) (sep.size * (parts.size - 1))) = true then do
        x
        let result ← Kind.bytes.new (joined sep parts.toList)
        holding (result :: taken.flatMap fun x => x.1 :: x.2.toList) point
        joinLetGo taken [result]
        ret result
      else do
        let result ← Kind.bytes.new (joined sep parts.toList)
        holding (result :: taken.flatMap fun x => x.1 :: x.2.toList) point
        joinLetGo taken [result]
        ret result) Q E s := by
  subst hp
  refine wpAny_bind (wpAny_of_eq (a := (#[] : Array UInt8)) rfl ?_)
  have e1 : tooLong ((bs.map List.toArray).toArray.foldl (fun (x1 : Nat) (x2 : Array UInt8) => x1 + x2.size) ((#[] : Array UInt8).size * ((bs.map List.toArray).toArray.size - 1))) = false := by
    rw [List.foldl_toArray' _ _ _ rfl, size_cat]
    rw [show (#[] : Array UInt8).size = 0 from rfl, Nat.zero_mul, Nat.zero_add]
    exact decide_eq_false (by rw [sizeLine_eq]; omega)
  rw [if_neg (by rw [e1]; decide)]
  have e2 : joined #[] (bs.map List.toArray).toArray.toList = (cat bs).toArray := by
    unfold joined
    have := joined_cat bs 0 #[]
    simpa using this
  rw [e2]
  show wpAny _ _ (mkBytes _ >>= _) _ _ _
  refine wpAny_bind (wpAny_mkBytes ?_ (by rw [List.size_toArray, sizeLine_eq]; omega))
  refine wpAny_bind (wpAny_holding (wpAny_point ?_))
  refine wpAny_bind (letGo_all taken hn ?_)
  exact wpAny_pure (hQ _ _)
theorem join_run {a : Addr} {vs : List Value} {n : Nat} {bs : List (List UInt8)} {S : View} {t : Tok} {Q : Fin → Shared → Prop} (hl : s.heap.get? a = some (lst vs n)) (hr : Reps S (bs.map .bytes) vs) (hz : bs.length ≤ 64) (hz2 : (cat bs).length ≤ 4096)
    (hQ : ∀ t' tk, Q (.done (.ret (.bytes (cat bs).toArray t'))) { s with toks := tk }) : wpAny (model prog w) A (Builtin.«bytes.join» ⟨[.bytes #[] t, .ref a], []⟩) Q E s := by
  unfold Builtin.«bytes.join» joinM
  refine wpAny_bind (wpAny_of_eq (a := (Value.bytes #[] t, Value.ref a)) rfl ?_)
  dsimp only
  rw [conds]
  unfold joinItems
  refine wpAny_bind (wpAny_bind (wpAny_typeOf (T := "list") ⟨_, hl, rfl⟩ ?_))
  rw [if_pos (by decide)]
  refine wpAny_pure ?_
  refine wpAny_bind (wpAny_seqItems hl rfl ?_)
  dsimp only
  rw [conds]
  have hlen := hr.length
  rw [List.length_map] at hlen
  have one : ∀ v, vs = [v] → ∃ b tk, bs = [b] ∧ v = .bytes b.toArray tk := by
    rintro v rfl
    match bs, hlen, hr with
    | [b], _, hr =>
      obtain ⟨tk, e⟩ := bytes_at hr (i := 0) (b := b) rfl
      exact ⟨b, tk, rfl, by simpa using e⟩
  rcases vs with _ | ⟨v, _ | ⟨v', r⟩⟩
  · obtain rfl : bs = [] := List.length_eq_zero_iff.mp hlen.symm
    show wpAny _ _ (forIn _ _ _ >>= _) _ _ _
    refine wpAny_bind ?_
    rw [Std.Legacy.Range.forIn_eq_forIn_range']
    refine wpAny_pure ?_
    exact join_tail (bs := []) rfl (fun p hp => by cases hp) hz2 hQ _
  · obtain ⟨b, tk, rfl, rfl⟩ := one v rfl
    show wpAny _ _ (typeOf _ >>= _) _ _ _
    refine wpAny_bind (wpAny_typeOf (typeIs_bytes s _ _) ?_)
    rw [if_pos (by decide)]
    refine wpAny_bind (wpAny_rule (wpAny_pure ?_))
    have e : cat [b] = b := by simp [cat]
    have := hQ tk s.toks
    rw [e] at this
    exact this
  · show wpAny _ _ (forIn _ _ _ >>= _) _ _ _
    refine wpAny_bind ?_
    rw [Std.Legacy.Range.forIn_eq_forIn_range']
    simp only [Std.Legacy.Range.size, Nat.sub_zero, Nat.add_sub_cancel, Nat.div_one]
    generalize hvs : v :: v' :: r = vs at *
    refine wpAny_forIn_list _ (fun rest acc s' => ∃ i, rest = List.range' i (vs.length - i) ∧ i ≤ vs.length ∧ acc = (((bs.take i).map List.toArray).toArray, (vs.take i).map fun v => (v, none)) ∧ s' = s) _ ?_ ?_ _ _ ⟨0, by simp, Nat.zero_le _, by simp, rfl⟩
    · rintro x rest _ s' ⟨i, hrest, hi, rfl, rfl⟩
      have hlt : i < vs.length := by
        rcases Nat.lt_or_ge i vs.length with h | h
        · exact h
        · rw [Nat.sub_eq_zero_of_le h] at hrest; simp at hrest
      obtain ⟨rfl, hrest'⟩ : x = i ∧ rest = List.range' (i + 1) (vs.length - (i + 1)) := by
        have e : vs.length - i = (vs.length - (i + 1)) + 1 := by omega
        rw [e, List.range'_succ] at hrest
        injection hrest with h1 h2
        exact ⟨h1, h2⟩
      have hb : bs[x]? = some bs[x] := List.getElem?_eq_getElem (by omega)
      obtain ⟨tk, hvx⟩ := bytes_at hr hb
      refine wpAny_bind (wpAny_seqItems hl rfl ?_)
      dsimp only
      have hc : (Kind.bytes == Kind.bytearray || ((vs.take x).map fun v => (v, (none : Option Value))).any fun x => x.1.onHeap) = false := by
        rw [show (Kind.bytes == Kind.bytearray) = false from by decide, Bool.false_or, List.any_eq_false]
        intro p hp
        obtain ⟨v, hv, rfl⟩ := List.mem_map.mp hp
        obtain ⟨b, t, rfl⟩ := all_bytes hr v (List.mem_of_mem_take hv)
        exact Bool.false_ne_true
      rw [if_neg (by rw [hc]; decide)]
      have hg : vs.toArray.getD x Value.none = .bytes bs[x].toArray tk := by simp [hvx]
      rw [hg]
      refine wpAny_bind (wpAny_holding (take_bytes ?_))
      dsimp only
      refine wpAny_bind (wpAny_seqItems hl rfl ?_)
      dsimp only
      rw [if_neg (by simp)]
      refine wpAny_pure ⟨x + 1, hrest', hlt, ?_, rfl⟩
      have e1 : bs.take (x + 1) = bs.take x ++ [bs[x]] := by rw [List.take_add_one, hb]; rfl
      have e2 : vs.take (x + 1) = vs.take x ++ [.bytes bs[x].toArray tk] := by rw [List.take_add_one, hvx]; rfl
      rw [e1, e2, List.map_append, List.map_append]
      simp
    · rintro _ s' ⟨i, hrest, hi, rfl, rfl⟩
      have hii : i = vs.length := by
        have := congrArg List.length hrest
        simp at this
        omega
      subst hii
      refine join_tail (bs := bs) ?_ (fun p hp => ?_) hz2 hQ _
      · dsimp only
        rw [List.take_of_length_le (by omega)]
      · obtain ⟨v, _, rfl⟩ := List.mem_map.mp hp
        rfl
end
end BJ
end Mine
end
section
set_option Elab.async false
set_option maxRecDepth 100000
open PySem PySem.W PyProof.Rows PySem.SeqAt PySem.Spec
namespace Mine
section
variable {prog : Program} {w : World} {h0 : Heap} {H : Nat} {sc : Scope}
noncomputable def bytesL : List Dat → Option (List (List UInt8))
  | [] => some []
  | .bytes b :: r => (bytesL r).map (b :: ·)
  | _ :: _ => none
theorem bytesL_map : ∀ {ds : List Dat} {bs : List (List UInt8)}, bytesL ds = some bs → ds = bs.map .bytes
  | [], bs, h => by obtain rfl := Option.some.inj h; rfl
  | d :: ds, bs, h => by
    cases d <;> first | (cases h; done) | skip
    obtain ⟨r, e, rfl⟩ := Option.map_eq_some_iff.mp h
    rw [List.map_cons, ← bytesL_map e]
noncomputable def joinD : Dat → Option Dat
  | .list ds => (bytesL ds).bind fun bs => if bs.length ≤ 64 ∧ (BJ.cat bs).length ≤ 4096 then some (.bytes (BJ.cat bs)) else none
  | _ => none
theorem SemE.join {cp ap pos : Pos} {kk} {e : Expr} {φ : EM Dat} (a : SemE prog w h0 true H sc e φ)
    (hline : (ap.endLine == pos.line) = true) (hs : ∀ env, starEach [e] env = [(false, eval e env)] := by intro _; rfl) :
    SemE prog w h0 true H sc (.Call (.Attribute (.Constant (.bytes []) kk cp) "join" ap) [e] [] pos) (φ.bind fun d => EM.lift (joinD d)) := by
  intro c A l ρ s Q E K hA R hE r hr hQ hX
  refine Call_method1 rfl (hs _) hline ?_
  refine Constant_bytes ?_
  have G₁ : Goes c s { s with toks := s.toks + 1 } := .toks _
  refine ⟨"bytes", "bytes.join", FB.plainAttrs_bytes, BJ.slot_join, BJ.type_join, typeIs_bytes _ _ _, fun a e => (by cases e), ?_⟩
  refine Calls.callWith_builtin rfl (Calls.evalArgs_plain ?_)
  refine Calls.spliced_cons ?_
  refine a.use K hA (R.goes K G₁) hE hr (ErrOk.goes (r := r) hX G₁) fun d v s₂ hr₂ G₂ R₂ hv hX₂ => ?_
  refine Calls.spliced_nil ?_
  obtain ⟨x, e, rfl⟩ := lift_some hr₂
  unfold joinD at e
  split at e <;> first | (cases e; done) | skip
  obtain ⟨bs, e1, e2⟩ := Option.bind_eq_some_iff.mp e
  split at e2 <;> first | (cases e2; done) | skip
  rename_i hlen
  obtain rfl := Option.some.inj e2
  unfold Rep at hv
  obtain ⟨b1, us, n', rfl, hb, r2⟩ := hv
  rw [bytesL_map e1] at r2
  refine wpAny_call_entry BJ.slot_join (typeIs_bytes _ _ _) BJ.entry_join ?_ (BJ.args_join _ _)
  refine BJ.join_run (vw_get hb) r2 hlen.1 hlen.2 fun t' tk => ⟨_, rfl, ?_⟩
  exact hQ _ rfl _ _ ((G₁.trans G₂).trans (.toks tk)) (by unfold Rep; exact ⟨t', rfl⟩)
end
end Mine
end
section
set_option Elab.async false
set_option maxRecDepth 100000
open PySem PySem.W PyProof.Rows PySem.SeqAt PySem.Spec
namespace Mine
/-- is_code -/
noncomputable def s66 : Sp 66 11 := ⟨_, fun prog w h0 G => ⟨call_spec (H := 10) ["number"] [0] G (by rfl) rfl
  (SemB.one (SemS.ret (SemE.cmp2 (by decide) SemE.int (SemE.var 0 rfl rfl rfl) (SemE.glob (d := .int 1114111) G rfl (by rfl) rfl (by unfold Rep; exact ⟨_, rfl⟩)) rfl)))
  (by rfl) rfl rfl (fun s vs X h => binds1 (fun a => .of_eq rfl) vs h) rfl (by decide) (by decide) (by decide) (by decide) rfl rfl rfl, by rfl⟩⟩

/-- is_high -/
noncomputable def s73 : Sp 73 11 := ⟨_, fun prog w h0 G => ⟨call_spec (H := 10) ["code"] [0] G (by rfl) rfl
  (SemB.one (SemS.ret (SemE.cmp2 (by decide) (SemE.glob (d := .int 55296) G rfl (by rfl) rfl (by unfold Rep; exact ⟨_, rfl⟩)) (SemE.var 0 rfl rfl rfl) (SemE.glob (d := .int 56319) G rfl (by rfl) rfl (by unfold Rep; exact ⟨_, rfl⟩)) rfl)))
  (by rfl) rfl rfl (fun s vs X h => binds1 (fun a => .of_eq rfl) vs h) rfl (by decide) (by decide) (by decide) (by decide) rfl rfl rfl, by rfl⟩⟩

/-- is_low -/
noncomputable def s80 : Sp 80 11 := ⟨_, fun prog w h0 G => ⟨call_spec (H := 10) ["code"] [0] G (by rfl) rfl
  (SemB.one (SemS.ret (SemE.cmp2 (by decide) (SemE.glob (d := .int 56320) G rfl (by rfl) rfl (by unfold Rep; exact ⟨_, rfl⟩)) (SemE.var 0 rfl rfl rfl) (SemE.glob (d := .int 57343) G rfl (by rfl) rfl (by unfold Rep; exact ⟨_, rfl⟩)) rfl)))
  (by rfl) rfl rfl (fun s vs X h => binds1 (fun a => .of_eq rfl) vs h) rfl (by decide) (by decide) (by decide) (by decide) rfl rfl rfl, by rfl⟩⟩

/-- is_surrogate -/
noncomputable def s87 : Sp 87 11 := ⟨_, fun prog w h0 G => ⟨call_spec (H := 10) ["code"] [0] G (by rfl) rfl
  (SemB.one (SemS.ret (SemE.cmp2 (by decide) (SemE.glob (d := .int 55296) G rfl (by rfl) rfl (by unfold Rep; exact ⟨_, rfl⟩)) (SemE.var 0 rfl rfl rfl) (SemE.glob (d := .int 57343) G rfl (by rfl) rfl (by unfold Rep; exact ⟨_, rfl⟩)) rfl)))
  (by rfl) rfl rfl (fun s vs X h => binds1 (fun a => .of_eq rfl) vs h) rfl (by decide) (by decide) (by decide) (by decide) rfl rfl rfl, by rfl⟩⟩

/-- is_scalar -/
noncomputable def s94 : Sp 94 12 := ⟨_, fun prog w h0 G => ⟨call_spec (H := 11) ["number"] [0] G (by rfl) rfl
  (SemB.one (SemS.ret (SemE.and (SemE.call G rfl (by rfl) rfl (by rfl) (s66.ok prog w h0 G).1 (by decide) (SemA.cons (SemE.var 0 rfl rfl rfl) SemA.nil)) (SemE.bool1 (SemE.notE (SemE.call G rfl (by rfl) rfl (by rfl) (s87.ok prog w h0 G).1 (by decide) (SemA.cons (SemE.var 0 rfl rfl rfl) SemA.nil)))))))
  (by rfl) rfl rfl (fun s vs X h => binds1 (fun a => .of_eq rfl) vs h) rfl (by decide) (by decide) (by decide) (by decide) rfl rfl rfl, by rfl⟩⟩

/-- utf8_octets -/
noncomputable def s101 : Sp 101 11 := ⟨_, fun prog w h0 G => ⟨call_spec (H := 10) ["code"] [0] G (by rfl) rfl
  (SemB.cons (SemS.ite (SemT.cmp1 (by decide) (SemE.var 0 rfl rfl rfl) SemE.int rfl) (SemB.one (SemS.ret (SemE.list (SemA.cons (SemE.var 0 rfl rfl rfl) SemA.nil)))) SemB.nil)
    (SemB.cons (SemS.ite (SemT.cmp1 (by decide) (SemE.var 0 rfl rfl rfl) SemE.int rfl) (SemB.one (SemS.ret (SemE.list (SemA.cons (SemE.bin SemE.int (SemE.bin (SemE.var 0 rfl rfl rfl) SemE.int)) (SemA.cons (SemE.bin (SemE.glob (d := .int 128) G rfl (by rfl) rfl (by unfold Rep; exact ⟨_, rfl⟩)) (SemE.bin (SemE.var 0 rfl rfl rfl) SemE.int)) SemA.nil))))) SemB.nil)
    (SemB.cons (SemS.ite (SemT.cmp1 (by decide) (SemE.var 0 rfl rfl rfl) (SemE.glob (d := .int 65536) G rfl (by rfl) rfl (by unfold Rep; exact ⟨_, rfl⟩)) rfl) (SemB.one (SemS.ret (SemE.list (SemA.cons (SemE.bin SemE.int (SemE.bin (SemE.var 0 rfl rfl rfl) SemE.int)) (SemA.cons (SemE.bin (SemE.glob (d := .int 128) G rfl (by rfl) rfl (by unfold Rep; exact ⟨_, rfl⟩)) (SemE.bin (SemE.bin (SemE.var 0 rfl rfl rfl) SemE.int) SemE.int)) (SemA.cons (SemE.bin (SemE.glob (d := .int 128) G rfl (by rfl) rfl (by unfold Rep; exact ⟨_, rfl⟩)) (SemE.bin (SemE.var 0 rfl rfl rfl) SemE.int)) SemA.nil)))))) SemB.nil)
    (SemB.cons (SemS.assign 1 (SemE.list (SemA.cons (SemE.bin SemE.int (SemE.bin (SemE.var 0 rfl rfl rfl) SemE.int)) (SemA.cons (SemE.bin (SemE.glob (d := .int 128) G rfl (by rfl) rfl (by unfold Rep; exact ⟨_, rfl⟩)) (SemE.bin (SemE.bin (SemE.var 0 rfl rfl rfl) SemE.int) SemE.int)) SemA.nil))) rfl rfl)
    (SemB.one (SemS.ret (SemE.bin (SemE.var 1 rfl rfl rfl) (SemE.list (SemA.cons (SemE.bin (SemE.glob (d := .int 128) G rfl (by rfl) rfl (by unfold Rep; exact ⟨_, rfl⟩)) (SemE.bin (SemE.bin (SemE.var 0 rfl rfl rfl) SemE.int) SemE.int)) (SemA.cons (SemE.bin (SemE.glob (d := .int 128) G rfl (by rfl) rfl (by unfold Rep; exact ⟨_, rfl⟩)) (SemE.bin (SemE.var 0 rfl rfl rfl) SemE.int)) SemA.nil))))))))))
  (by rfl) rfl rfl (fun s vs X h => binds1 (fun a => .of_eq rfl) vs h) rfl (by decide) (by decide) (by decide) (by decide) rfl rfl rfl, by rfl⟩⟩

/-- utf8_lead -/
noncomputable def s115 : Sp 115 11 := ⟨_, fun prog w h0 G => ⟨call_spec (H := 10) ["octet"] [0] G (by rfl) rfl
  (SemB.cons (SemS.ite (SemT.cmp1 (by decide) (SemE.var 0 rfl rfl rfl) SemE.int rfl) (SemB.one (SemS.ret (SemE.tuple (SemA.cons SemE.int (SemA.cons SemE.int (SemA.cons SemE.int SemA.nil)))))) SemB.nil)
    (SemB.cons (SemS.ite (SemT.cmp2 (by decide) SemE.int (SemE.var 0 rfl rfl rfl) SemE.int rfl) (SemB.one (SemS.ret (SemE.tuple (SemA.cons SemE.int (SemA.cons SemE.int (SemA.cons SemE.int SemA.nil)))))) SemB.nil)
    (SemB.cons (SemS.ite (SemT.cmp2 (by decide) SemE.int (SemE.var 0 rfl rfl rfl) SemE.int rfl) (SemB.one (SemS.ret (SemE.tuple (SemA.cons SemE.int (SemA.cons (SemE.ife (SemT.cmp1 (by decide) (SemE.var 0 rfl rfl rfl) SemE.int rfl) SemE.int SemE.int) (SemA.cons (SemE.ife (SemT.cmp1 (by decide) (SemE.var 0 rfl rfl rfl) SemE.int rfl) SemE.int SemE.int) SemA.nil)))))) SemB.nil)
    (SemB.cons (SemS.ite (SemT.cmp2 (by decide) SemE.int (SemE.var 0 rfl rfl rfl) SemE.int rfl) (SemB.one (SemS.ret (SemE.tuple (SemA.cons SemE.int (SemA.cons (SemE.ife (SemT.cmp1 (by decide) (SemE.var 0 rfl rfl rfl) SemE.int rfl) SemE.int SemE.int) (SemA.cons (SemE.ife (SemT.cmp1 (by decide) (SemE.var 0 rfl rfl rfl) SemE.int rfl) SemE.int SemE.int) SemA.nil)))))) SemB.nil)
    (SemB.one (SemS.ret SemE.nonec))))))
  (by rfl) rfl rfl (fun s vs X h => binds1 (fun a => .of_eq rfl) vs h) rfl (by decide) (by decide) (by decide) (by decide) rfl rfl rfl, by rfl⟩⟩

/-- utf8_piece -/
noncomputable def s122 : Sp 122 12 := ⟨_, fun prog w h0 G => ⟨call_spec (H := 11) ["octets", "at"] [0, 1] G (by rfl) rfl
  (SemB.cons (SemS.assign 2 (SemE.call G rfl (by rfl) rfl (by rfl) (s115.ok prog w h0 G).1 (by decide) (SemA.cons (SemE.item (SemE.var 0 rfl rfl rfl) (SemE.var 1 rfl rfl rfl)) SemA.nil)) rfl rfl)
    (SemB.cons (SemS.ite (SemT.cmp1 (by decide) (SemE.var 2 rfl rfl rfl) SemE.nonec rfl) (SemB.one (SemS.ret (SemE.tuple (SemA.cons SemE.int (SemA.cons SemE.nonec (SemA.cons (SemE.ife (SemT.cmp1 (by decide) (SemE.item (SemE.var 0 rfl rfl rfl) (SemE.var 1 rfl rfl rfl)) SemE.int rfl) (SemE.glob (d := .str "a trail octet without a lead") G rfl (by rfl) rfl (by unfold Rep; exact ⟨_, rfl⟩)) (SemE.glob (d := .str "an octet that never stands") G rfl (by rfl) rfl (by unfold Rep; exact ⟨_, rfl⟩))) SemA.nil)))))) SemB.nil)
    (SemB.cons (SemS.unpack (NamesAt.cons (i := 3) rfl rfl (NamesAt.cons (i := 4) rfl rfl (NamesAt.cons (i := 5) rfl rfl NamesAt.nil))) (SemE.var 2 rfl rfl rfl))
    (SemB.cons (SemS.ite (SemT.cmp1 (by decide) (SemE.var 3 rfl rfl rfl) SemE.int rfl) (SemB.one (SemS.ret (SemE.tuple (SemA.cons SemE.int (SemA.cons (SemE.item (SemE.var 0 rfl rfl rfl) (SemE.var 1 rfl rfl rfl)) (SemA.cons SemE.strc SemA.nil)))))) SemB.nil)
    (SemB.cons (SemS.assign 6 (SemE.bin (SemE.item (SemE.var 0 rfl rfl rfl) (SemE.var 1 rfl rfl rfl)) (SemE.bin SemE.int (SemE.var 3 rfl rfl rfl))) rfl rfl)
    (SemB.cons (SemS.for (SemI.range G rfl (by rfl) (by boot_fast) (SemA.cons SemE.int (SemA.cons (SemE.var 3 rfl rfl rfl) SemA.nil))) (SemG.name 7 rfl rfl) (SemB.cons (SemS.ite (SemT.cmp1 (by decide) (SemE.bin (SemE.var 1 rfl rfl rfl) (SemE.var 7 rfl rfl rfl)) (SemE.callB (v := .builtin "len") G (.inl ⟨_, rfl⟩) rfl (by rfl) (by boot_fast) (by decide) rfl len_ok (SemA.cons (SemE.var 0 rfl rfl rfl) SemA.nil)) rfl) (SemB.one (SemS.ret (SemE.tuple (SemA.cons (SemE.var 7 rfl rfl rfl) (SemA.cons SemE.nonec (SemA.cons (SemE.glob (d := .str "a sequence that is cut short") G rfl (by rfl) rfl (by unfold Rep; exact ⟨_, rfl⟩)) SemA.nil)))))) SemB.nil)
    (SemB.cons (SemS.assign 8 (SemE.item (SemE.var 0 rfl rfl rfl) (SemE.bin (SemE.var 1 rfl rfl rfl) (SemE.var 7 rfl rfl rfl))) rfl rfl)
    (SemB.cons (SemS.ite (SemT.not (SemT.cmp2 (by decide) (SemE.var 4 rfl rfl rfl) (SemE.var 8 rfl rfl rfl) (SemE.var 5 rfl rfl rfl) rfl)) (SemB.one (SemS.ret (SemE.tuple (SemA.cons (SemE.var 7 rfl rfl rfl) (SemA.cons SemE.nonec (SemA.cons (SemE.glob (d := .str "a sequence that breaks off") G rfl (by rfl) rfl (by unfold Rep; exact ⟨_, rfl⟩)) SemA.nil)))))) SemB.nil)
    (SemB.cons (SemS.assign 6 (SemE.bin (SemE.bin (SemE.var 6 rfl rfl rfl) SemE.int) (SemE.bin (SemE.var 8 rfl rfl rfl) SemE.int)) rfl rfl)
    (SemB.one (SemS.unpack (NamesAt.cons (i := 4) rfl rfl (NamesAt.cons (i := 5) rfl rfl NamesAt.nil)) (SemE.tuple (SemA.cons SemE.int (SemA.cons SemE.int SemA.nil))) (hw := (fun env h => by obtain ⟨sc, _⟩ := env; cases h; rfl)))))))))
    (SemB.one (SemS.ret (SemE.tuple (SemA.cons (SemE.var 3 rfl rfl rfl) (SemA.cons (SemE.var 6 rfl rfl rfl) (SemA.cons SemE.strc SemA.nil))))))))))))
  (by rfl) rfl rfl (fun s vs X h => binds2 (fun a b => .of_eq rfl) vs h) rfl (by decide) (by decide) (by decide) (by decide) rfl rfl rfl, by rfl⟩⟩

/-- forward_from -/
noncomputable def s143 : Sp 143 13 := ⟨_, fun prog w h0 G => ⟨call_spec (H := 12) ["octets", "at"] [0, 1] G (by rfl) rfl
  (SemB.one (SemS.ret (SemE.ife (SemT.cmp1 (by decide) (SemE.var 1 rfl rfl rfl) (SemE.callB (v := .builtin "len") G (.inl ⟨_, rfl⟩) rfl (by rfl) (by boot_fast) (by decide) rfl len_ok (SemA.cons (SemE.var 0 rfl rfl rfl) SemA.nil)) rfl) (SemE.var 1 rfl rfl rfl) (SemE.bin (SemE.var 1 rfl rfl rfl) (SemE.item (SemE.call G rfl (by rfl) rfl (by rfl) (s122.ok prog w h0 G).1 (by decide) (SemA.cons (SemE.var 0 rfl rfl rfl) (SemA.cons (SemE.var 1 rfl rfl rfl) SemA.nil))) SemE.int)))))
  (by rfl) rfl rfl (fun s vs X h => binds2 (fun a b => .of_eq rfl) vs h) rfl (by decide) (by decide) (by decide) (by decide) rfl rfl rfl, by rfl⟩⟩

/-- back_from -/
noncomputable def s150 : Sp 150 13 := ⟨_, fun prog w h0 G => ⟨call_spec (H := 12) ["octets", "at"] [0, 1] G (by rfl) rfl
  (SemB.cons (SemS.ite (SemT.cmp1 (by decide) (SemE.var 1 rfl rfl rfl) SemE.int rfl) (SemB.one (SemS.ret SemE.int)) SemB.nil)
    (SemB.cons (SemS.assign 2 (SemE.bin (SemE.var 1 rfl rfl rfl) SemE.int) rfl rfl)
    (SemB.cons (SemS.while 4096 (SemT.and (SemT.cmp1 (by decide) (SemE.var 2 rfl rfl rfl) SemE.int rfl) (SemT.and (SemT.cmp1 (by decide) (SemE.bin (SemE.var 1 rfl rfl rfl) (SemE.var 2 rfl rfl rfl)) SemE.int rfl) (SemT.and (SemT.cmp2 (by decide) SemE.int (SemE.item (SemE.var 0 rfl rfl rfl) (SemE.var 2 rfl rfl rfl)) SemE.int rfl) SemT.andNil))) (SemB.one (SemS.assign 2 (SemE.bin (SemE.var 2 rfl rfl rfl) SemE.int) rfl rfl)))
    (SemB.cons (SemS.ite (SemT.cmp1 (by decide) (SemE.bin (SemE.var 2 rfl rfl rfl) (SemE.item (SemE.call G rfl (by rfl) rfl (by rfl) (s122.ok prog w h0 G).1 (by decide) (SemA.cons (SemE.slice (SemE.var 0 rfl rfl rfl) SemP.none (SemP.some (SemE.var 1 rfl rfl rfl))) (SemA.cons (SemE.var 2 rfl rfl rfl) SemA.nil))) SemE.int)) (SemE.var 1 rfl rfl rfl) rfl) (SemB.one (SemS.ret (SemE.var 2 rfl rfl rfl))) SemB.nil)
    (SemB.one (SemS.ret (SemE.bin (SemE.var 1 rfl rfl rfl) SemE.int)))))))
  (by rfl) rfl rfl (fun s vs X h => binds2 (fun a b => .of_eq rfl) vs h) rfl (by decide) (by decide) (by decide) (by decide) rfl rfl rfl, by rfl⟩⟩

end Mine
end
section
set_option Elab.async false
set_option maxRecDepth 100000
open PySem PySem.W PyProof.Rows PySem.SeqAt PySem.Spec
namespace Mine
/-- encode_utf8 -/
noncomputable def s108 : Sp 108 13 := ⟨_, fun prog w h0 G => ⟨call_spec (H := 12) ["text"] [0] G (by rfl) rfl
  (SemB.cons (SemS.mine 1 rfl rfl)
    (SemB.cons (SemS.for (SemI.seq (SemE.var 0 rfl rfl rfl)) (SemG.name 2 rfl rfl) (SemB.cons (SemS.ite (SemT.not (SemT.plain (SemE.call G rfl (by rfl) rfl (by rfl) (s94.ok prog w h0 G).1 (by decide) (SemA.cons (SemE.var 2 rfl rfl rfl) SemA.nil)))) (SemB.one (SemS.raise G (exc57 w) (by decide) rfl (by rfl) rfl (SemE.var 2 rfl rfl rfl))) SemB.nil)
    (SemB.one (SemS.extend 1 (SemE.call G rfl (by rfl) rfl (by rfl) (s101.ok prog w h0 G).1 (by decide) (SemA.cons (SemE.var 2 rfl rfl rfl) SemA.nil)) rfl rfl rfl))))
    (SemB.one (SemS.ret (SemE.ownBytes 1 G rfl (by rfl) (by boot_fast) rfl rfl)))))
  (by rfl) rfl rfl (fun s vs X h => binds1 (fun a => .of_eq rfl) vs h) rfl (by decide) (by decide) (by decide) (by decide) rfl rfl rfl, by rfl⟩⟩

/-- decode_utf8 -/
noncomputable def s129 : Sp 129 13 := ⟨_, fun prog w h0 G => ⟨call_spec (H := 12) ["octets"] [0] G (by rfl) rfl
  (SemB.cons (SemS.mine2 1 2 rfl rfl rfl rfl SemE.int (hw := (fun env h => by obtain ⟨sc, _⟩ := env; cases h; rfl)))
    (SemB.cons (SemS.while 4096 (SemT.cmp1 (by decide) (SemE.var 2 rfl rfl rfl) (SemE.callB (v := .builtin "len") G (.inl ⟨_, rfl⟩) rfl (by rfl) (by boot_fast) (by decide) rfl len_ok (SemA.cons (SemE.var 0 rfl rfl rfl) SemA.nil)) rfl) (SemB.cons (SemS.unpack (NamesAt.cons (i := 3) rfl rfl (NamesAt.cons (i := 4) rfl rfl (NamesAt.cons (i := 5) rfl rfl NamesAt.nil))) (SemE.call G rfl (by rfl) rfl (by rfl) (s122.ok prog w h0 G).1 (by decide) (SemA.cons (SemE.var 0 rfl rfl rfl) (SemA.cons (SemE.var 2 rfl rfl rfl) SemA.nil))))
    (SemB.cons (SemS.ite (SemT.cmp1 (by decide) (SemE.var 4 rfl rfl rfl) SemE.nonec rfl) (SemB.one (SemS.raise G (exc45 w) (by decide) rfl (by rfl) rfl (SemE.tuple (SemA.cons (SemE.var 2 rfl rfl rfl) (SemA.cons (SemE.var 5 rfl rfl rfl) SemA.nil))))) SemB.nil)
    (SemB.cons (SemS.append 1 (SemE.var 4 rfl rfl rfl) rfl rfl rfl)
    (SemB.one (SemS.assign 2 (SemE.bin (SemE.var 2 rfl rfl rfl) (SemE.var 3 rfl rfl rfl)) rfl rfl))))))
    (SemB.one (SemS.retOwn 1 rfl rfl))))
  (by rfl) rfl rfl (fun s vs X h => binds1 (fun a => .of_eq rfl) vs h) rfl (by decide) (by decide) (by decide) (by decide) rfl rfl rfl, by rfl⟩⟩

/-- decode_utf8_replaced -/
noncomputable def s136 : Sp 136 13 := ⟨_, fun prog w h0 G => ⟨call_spec (H := 12) ["octets"] [0] G (by rfl) rfl
  (SemB.cons (SemS.mine2 1 2 rfl rfl rfl rfl SemE.int (hw := (fun env h => by obtain ⟨sc, _⟩ := env; cases h; rfl)))
    (SemB.cons (SemS.while 4096 (SemT.cmp1 (by decide) (SemE.var 2 rfl rfl rfl) (SemE.callB (v := .builtin "len") G (.inl ⟨_, rfl⟩) rfl (by rfl) (by boot_fast) (by decide) rfl len_ok (SemA.cons (SemE.var 0 rfl rfl rfl) SemA.nil)) rfl) (SemB.cons (SemS.unpack (NamesAt.cons (i := 3) rfl rfl (NamesAt.cons (i := 4) rfl rfl (NamesAt.cons (i := 5) rfl rfl NamesAt.nil))) (SemE.call G rfl (by rfl) rfl (by rfl) (s122.ok prog w h0 G).1 (by decide) (SemA.cons (SemE.var 0 rfl rfl rfl) (SemA.cons (SemE.var 2 rfl rfl rfl) SemA.nil))))
    (SemB.cons (SemS.append 1 (SemE.ife (SemT.cmp1 (by decide) (SemE.var 4 rfl rfl rfl) SemE.nonec rfl) (SemE.glob (d := .int 65533) G rfl (by rfl) rfl (by unfold Rep; exact ⟨_, rfl⟩)) (SemE.var 4 rfl rfl rfl)) rfl rfl rfl)
    (SemB.one (SemS.assign 2 (SemE.bin (SemE.var 2 rfl rfl rfl) (SemE.var 3 rfl rfl rfl)) rfl rfl)))))
    (SemB.one (SemS.retOwn 1 rfl rfl))))
  (by rfl) rfl rfl (fun s vs X h => binds1 (fun a => .of_eq rfl) vs h) rfl (by decide) (by decide) (by decide) (by decide) rfl rfl rfl, by rfl⟩⟩

/-- utf8_surrogates -/
noncomputable def s187 : Sp 187 11 := ⟨_, fun prog w h0 G => ⟨call_spec (H := 10) ["code"] [0] G (by rfl) rfl
  (SemB.cons (SemS.assign 1 (SemE.bin (SemE.var 0 rfl rfl rfl) (SemE.glob (d := .int 65536) G rfl (by rfl) rfl (by unfold Rep; exact ⟨_, rfl⟩))) rfl rfl)
    (SemB.one (SemS.ret (SemE.list (SemA.cons (SemE.bin (SemE.glob (d := .int 55296) G rfl (by rfl) rfl (by unfold Rep; exact ⟨_, rfl⟩)) (SemE.bin (SemE.var 1 rfl rfl rfl) SemE.int)) (SemA.cons (SemE.bin (SemE.glob (d := .int 56320) G rfl (by rfl) rfl (by unfold Rep; exact ⟨_, rfl⟩)) (SemE.bin (SemE.var 1 rfl rfl rfl) SemE.int)) SemA.nil))))))
  (by rfl) rfl rfl (fun s vs X h => binds1 (fun a => .of_eq rfl) vs h) rfl (by decide) (by decide) (by decide) (by decide) rfl rfl rfl, by rfl⟩⟩

/-- utf8_joined -/
noncomputable def s194 : Sp 194 11 := ⟨_, fun prog w h0 G => ⟨call_spec (H := 10) ["high", "low"] [0, 1] G (by rfl) rfl
  (SemB.one (SemS.ret (SemE.bin (SemE.bin (SemE.glob (d := .int 65536) G rfl (by rfl) rfl (by unfold Rep; exact ⟨_, rfl⟩)) (SemE.bin (SemE.bin (SemE.var 0 rfl rfl rfl) (SemE.glob (d := .int 55296) G rfl (by rfl) rfl (by unfold Rep; exact ⟨_, rfl⟩))) SemE.int)) (SemE.bin (SemE.var 1 rfl rfl rfl) (SemE.glob (d := .int 56320) G rfl (by rfl) rfl (by unfold Rep; exact ⟨_, rfl⟩))))))
  (by rfl) rfl rfl (fun s vs X h => binds2 (fun a b => .of_eq rfl) vs h) rfl (by decide) (by decide) (by decide) (by decide) rfl rfl rfl, by rfl⟩⟩

/-- utf8_wide_piece -/
noncomputable def s201 : Sp 201 13 := ⟨_, fun prog w h0 G => ⟨call_spec (H := 12) ["octets", "at"] [0, 1] G (by rfl) rfl
  (SemB.cons (SemS.ite (SemT.and (SemT.cmp1 (by decide) (SemE.item (SemE.var 0 rfl rfl rfl) (SemE.var 1 rfl rfl rfl)) SemE.int rfl) (SemT.and (SemT.cmp1 (by decide) (SemE.bin (SemE.var 1 rfl rfl rfl) SemE.int) (SemE.callB (v := .builtin "len") G (.inl ⟨_, rfl⟩) rfl (by rfl) (by boot_fast) (by decide) rfl len_ok (SemA.cons (SemE.var 0 rfl rfl rfl) SemA.nil)) rfl) (SemT.and (SemT.cmp2 (by decide) SemE.int (SemE.item (SemE.var 0 rfl rfl rfl) (SemE.bin (SemE.var 1 rfl rfl rfl) SemE.int)) SemE.int rfl) SemT.andNil))) (SemB.one (SemS.ite (SemT.cmp2 (by decide) SemE.int (SemE.item (SemE.var 0 rfl rfl rfl) (SemE.bin (SemE.var 1 rfl rfl rfl) SemE.int)) SemE.int rfl) (SemB.one (SemS.ret (SemE.tuple (SemA.cons SemE.int (SemA.cons (SemE.bin (SemE.bin SemE.int (SemE.bin (SemE.bin (SemE.item (SemE.var 0 rfl rfl rfl) (SemE.bin (SemE.var 1 rfl rfl rfl) SemE.int)) SemE.int) SemE.int)) (SemE.bin (SemE.item (SemE.var 0 rfl rfl rfl) (SemE.bin (SemE.var 1 rfl rfl rfl) SemE.int)) SemE.int)) (SemA.cons SemE.strc SemA.nil)))))) SemB.nil)) SemB.nil)
    (SemB.one (SemS.ret (SemE.call G rfl (by rfl) rfl (by rfl) (s122.ok prog w h0 G).1 (by decide) (SemA.cons (SemE.var 0 rfl rfl rfl) (SemA.cons (SemE.var 1 rfl rfl rfl) SemA.nil))))))
  (by rfl) rfl rfl (fun s vs X h => binds2 (fun a b => .of_eq rfl) vs h) rfl (by decide) (by decide) (by decide) (by decide) rfl rfl rfl, by rfl⟩⟩

/-- utf8_low_behind -/
noncomputable def s208 : Sp 208 14 := ⟨_, fun prog w h0 G => ⟨call_spec (H := 13) ["octets", "at"] [0, 1] G (by rfl) rfl
  (SemB.cons (SemS.ite (SemT.cmp1 (by decide) (SemE.var 1 rfl rfl rfl) (SemE.callB (v := .builtin "len") G (.inl ⟨_, rfl⟩) rfl (by rfl) (by boot_fast) (by decide) rfl len_ok (SemA.cons (SemE.var 0 rfl rfl rfl) SemA.nil)) rfl) (SemB.one (SemS.ret SemE.nonec)) SemB.nil)
    (SemB.cons (SemS.assign 2 (SemE.item (SemE.call G rfl (by rfl) rfl (by rfl) (s201.ok prog w h0 G).1 (by decide) (SemA.cons (SemE.var 0 rfl rfl rfl) (SemA.cons (SemE.var 1 rfl rfl rfl) SemA.nil))) SemE.int) rfl rfl)
    (SemB.one (SemS.ret (SemE.ife (SemT.and (SemT.cmp1 (by decide) (SemE.var 2 rfl rfl rfl) SemE.nonec rfl) (SemT.and (SemT.plain (SemE.call G rfl (by rfl) rfl (by rfl) (s80.ok prog w h0 G).1 (by decide) (SemA.cons (SemE.var 2 rfl rfl rfl) SemA.nil))) SemT.andNil)) (SemE.var 2 rfl rfl rfl) SemE.nonec)))))
  (by rfl) rfl rfl (fun s vs X h => binds2 (fun a b => .of_eq rfl) vs h) rfl (by decide) (by decide) (by decide) (by decide) rfl rfl rfl, by rfl⟩⟩

/-- encode_cesu8 -/
noncomputable def s215 : Sp 215 13 := ⟨_, fun prog w h0 G => ⟨call_spec (H := 12) ["text"] [0] G (by rfl) rfl
  (SemB.cons (SemS.mine 1 rfl rfl)
    (SemB.cons (SemS.for (SemI.seq (SemE.var 0 rfl rfl rfl)) (SemG.name 2 rfl rfl) (SemB.cons (SemS.ite (SemT.not (SemT.plain (SemE.call G rfl (by rfl) rfl (by rfl) (s94.ok prog w h0 G).1 (by decide) (SemA.cons (SemE.var 2 rfl rfl rfl) SemA.nil)))) (SemB.one (SemS.raise G (exc57 w) (by decide) rfl (by rfl) rfl (SemE.var 2 rfl rfl rfl))) SemB.nil)
    (SemB.one (SemS.for (SemI.seq (SemE.ife (SemT.cmp1 (by decide) (SemE.var 2 rfl rfl rfl) (SemE.glob (d := .int 65536) G rfl (by rfl) rfl (by unfold Rep; exact ⟨_, rfl⟩)) rfl) (SemE.call G rfl (by rfl) rfl (by rfl) (s187.ok prog w h0 G).1 (by decide) (SemA.cons (SemE.var 2 rfl rfl rfl) SemA.nil)) (SemE.list (SemA.cons (SemE.var 2 rfl rfl rfl) SemA.nil)))) (SemG.name 3 rfl rfl) (SemB.one (SemS.extend 1 (SemE.call G rfl (by rfl) rfl (by rfl) (s101.ok prog w h0 G).1 (by decide) (SemA.cons (SemE.var 3 rfl rfl rfl) SemA.nil)) rfl rfl rfl))))))
    (SemB.one (SemS.ret (SemE.ownBytes 1 G rfl (by rfl) (by boot_fast) rfl rfl)))))
  (by rfl) rfl rfl (fun s vs X h => binds1 (fun a => .of_eq rfl) vs h) rfl (by decide) (by decide) (by decide) (by decide) rfl rfl rfl, by rfl⟩⟩

/-- decode_cesu8 -/
noncomputable def s222 : Sp 222 15 := ⟨_, fun prog w h0 G => ⟨call_spec (H := 14) ["octets"] [0] G (by rfl) rfl
  (SemB.cons (SemS.mine2 1 2 rfl rfl rfl rfl SemE.int (hw := (fun env h => by obtain ⟨sc, _⟩ := env; cases h; rfl)))
    (SemB.cons (SemS.while 4096 (SemT.cmp1 (by decide) (SemE.var 2 rfl rfl rfl) (SemE.callB (v := .builtin "len") G (.inl ⟨_, rfl⟩) rfl (by rfl) (by boot_fast) (by decide) rfl len_ok (SemA.cons (SemE.var 0 rfl rfl rfl) SemA.nil)) rfl) (SemB.cons (SemS.unpack (NamesAt.cons (i := 3) rfl rfl (NamesAt.cons (i := 4) rfl rfl (NamesAt.cons (i := 5) rfl rfl NamesAt.nil))) (SemE.call G rfl (by rfl) rfl (by rfl) (s201.ok prog w h0 G).1 (by decide) (SemA.cons (SemE.var 0 rfl rfl rfl) (SemA.cons (SemE.var 2 rfl rfl rfl) SemA.nil))))
    (SemB.cons (SemS.ite (SemT.cmp1 (by decide) (SemE.var 4 rfl rfl rfl) SemE.nonec rfl) (SemB.one (SemS.raise G (exc45 w) (by decide) rfl (by rfl) rfl (SemE.tuple (SemA.cons (SemE.var 2 rfl rfl rfl) (SemA.cons (SemE.var 5 rfl rfl rfl) SemA.nil))))) SemB.nil)
    (SemB.cons (SemS.ite (SemT.cmp1 (by decide) (SemE.var 3 rfl rfl rfl) SemE.int rfl) (SemB.one (SemS.raise G (exc45 w) (by decide) rfl (by rfl) rfl (SemE.tuple (SemA.cons (SemE.var 2 rfl rfl rfl) (SemA.cons (SemE.glob (d := .str "a sequence of four octets") G rfl (by rfl) rfl (by unfold Rep; exact ⟨_, rfl⟩)) SemA.nil))))) SemB.nil)
    (SemB.cons (SemS.ite (SemT.plain (SemE.call G rfl (by rfl) rfl (by rfl) (s73.ok prog w h0 G).1 (by decide) (SemA.cons (SemE.var 4 rfl rfl rfl) SemA.nil))) (SemB.cons (SemS.assign 6 (SemE.call G rfl (by rfl) rfl (by rfl) (s208.ok prog w h0 G).1 (by decide) (SemA.cons (SemE.var 0 rfl rfl rfl) (SemA.cons (SemE.bin (SemE.var 2 rfl rfl rfl) SemE.int) SemA.nil))) rfl rfl)
    (SemB.cons (SemS.ite (SemT.cmp1 (by decide) (SemE.var 6 rfl rfl rfl) SemE.nonec rfl) (SemB.one (SemS.raise G (exc45 w) (by decide) rfl (by rfl) rfl (SemE.tuple (SemA.cons (SemE.var 2 rfl rfl rfl) (SemA.cons (SemE.glob (d := .str "a lone surrogate") G rfl (by rfl) rfl (by unfold Rep; exact ⟨_, rfl⟩)) SemA.nil))))) SemB.nil)
    (SemB.one (SemS.swapped (NamesAt.cons (i := 4) rfl rfl (NamesAt.cons (i := 3) rfl rfl NamesAt.nil)) (SemE.tuple (SemA.cons (SemE.call G rfl (by rfl) rfl (by rfl) (s194.ok prog w h0 G).1 (by decide) (SemA.cons (SemE.var 4 rfl rfl rfl) (SemA.cons (SemE.var 6 rfl rfl rfl) SemA.nil))) (SemA.cons SemE.int SemA.nil))) (hw := (fun env h => by obtain ⟨sc, _⟩ := env; cases h; rfl)))))) (SemB.one (SemS.ite (SemT.plain (SemE.call G rfl (by rfl) rfl (by rfl) (s80.ok prog w h0 G).1 (by decide) (SemA.cons (SemE.var 4 rfl rfl rfl) SemA.nil))) (SemB.one (SemS.raise G (exc45 w) (by decide) rfl (by rfl) rfl (SemE.tuple (SemA.cons (SemE.var 2 rfl rfl rfl) (SemA.cons (SemE.glob (d := .str "a lone surrogate") G rfl (by rfl) rfl (by unfold Rep; exact ⟨_, rfl⟩)) SemA.nil))))) SemB.nil)))
    (SemB.cons (SemS.append 1 (SemE.var 4 rfl rfl rfl) rfl rfl rfl)
    (SemB.one (SemS.assign 2 (SemE.bin (SemE.var 2 rfl rfl rfl) (SemE.var 3 rfl rfl rfl)) rfl rfl))))))))
    (SemB.one (SemS.retOwn 1 rfl rfl))))
  (by rfl) rfl rfl (fun s vs X h => binds1 (fun a => .of_eq rfl) vs h) rfl (by decide) (by decide) (by decide) (by decide) rfl rfl rfl, by rfl⟩⟩

/-- encode_modified_utf8 -/
noncomputable def s229 : Sp 229 13 := ⟨_, fun prog w h0 G => ⟨call_spec (H := 12) ["text"] [0] G (by rfl) rfl
  (SemB.cons (SemS.mine 1 rfl rfl)
    (SemB.cons (SemS.for (SemI.seq (SemE.var 0 rfl rfl rfl)) (SemG.name 2 rfl rfl) (SemB.cons (SemS.ite (SemT.not (SemT.or (SemT.plain (SemE.call G rfl (by rfl) rfl (by rfl) (s94.ok prog w h0 G).1 (by decide) (SemA.cons (SemE.var 2 rfl rfl rfl) SemA.nil))) (SemT.or (SemT.plain (SemE.call G rfl (by rfl) rfl (by rfl) (s73.ok prog w h0 G).1 (by decide) (SemA.cons (SemE.var 2 rfl rfl rfl) SemA.nil))) (SemT.or (SemT.plain (SemE.call G rfl (by rfl) rfl (by rfl) (s80.ok prog w h0 G).1 (by decide) (SemA.cons (SemE.var 2 rfl rfl rfl) SemA.nil))) SemT.orNil)))) (SemB.one (SemS.raise G (exc57 w) (by decide) rfl (by rfl) rfl (SemE.var 2 rfl rfl rfl))) SemB.nil)
    (SemB.one (SemS.ite (SemT.cmp1 (by decide) (SemE.var 2 rfl rfl rfl) SemE.int rfl) (SemB.one (SemS.extend 1 (SemE.list (SemA.cons SemE.int (SemA.cons SemE.int SemA.nil))) rfl rfl rfl)) (SemB.one (SemS.for (SemI.seq (SemE.ife (SemT.cmp1 (by decide) (SemE.var 2 rfl rfl rfl) (SemE.glob (d := .int 65536) G rfl (by rfl) rfl (by unfold Rep; exact ⟨_, rfl⟩)) rfl) (SemE.call G rfl (by rfl) rfl (by rfl) (s187.ok prog w h0 G).1 (by decide) (SemA.cons (SemE.var 2 rfl rfl rfl) SemA.nil)) (SemE.list (SemA.cons (SemE.var 2 rfl rfl rfl) SemA.nil)))) (SemG.name 3 rfl rfl) (SemB.one (SemS.extend 1 (SemE.call G rfl (by rfl) rfl (by rfl) (s101.ok prog w h0 G).1 (by decide) (SemA.cons (SemE.var 3 rfl rfl rfl) SemA.nil)) rfl rfl rfl))))))))
    (SemB.one (SemS.ret (SemE.ownBytes 1 G rfl (by rfl) (by boot_fast) rfl rfl)))))
  (by rfl) rfl rfl (fun s vs X h => binds1 (fun a => .of_eq rfl) vs h) rfl (by decide) (by decide) (by decide) (by decide) rfl rfl rfl, by rfl⟩⟩

/-- decode_modified_utf8 -/
noncomputable def s236 : Sp 236 15 := ⟨_, fun prog w h0 G => ⟨call_spec (H := 14) ["octets"] [0] G (by rfl) rfl
  (SemB.cons (SemS.mine2 1 2 rfl rfl rfl rfl SemE.int (hw := (fun env h => by obtain ⟨sc, _⟩ := env; cases h; rfl)))
    (SemB.cons (SemS.while 4096 (SemT.cmp1 (by decide) (SemE.var 2 rfl rfl rfl) (SemE.callB (v := .builtin "len") G (.inl ⟨_, rfl⟩) rfl (by rfl) (by boot_fast) (by decide) rfl len_ok (SemA.cons (SemE.var 0 rfl rfl rfl) SemA.nil)) rfl) (SemB.cons (SemS.ite (SemT.cmp1 (by decide) (SemE.slice (SemE.var 0 rfl rfl rfl) (SemP.some (SemE.var 2 rfl rfl rfl)) (SemP.some (SemE.bin (SemE.var 2 rfl rfl rfl) SemE.int))) SemE.bytesc rfl) (SemB.one (SemS.unpack (NamesAt.cons (i := 3) rfl rfl (NamesAt.cons (i := 4) rfl rfl (NamesAt.cons (i := 5) rfl rfl NamesAt.nil))) (SemE.tuple (SemA.cons SemE.int (SemA.cons SemE.int (SemA.cons SemE.strc SemA.nil)))) (hw := (fun env h => by obtain ⟨sc, _⟩ := env; cases h; rfl)))) (SemB.one (SemS.ite (SemT.cmp1 (by decide) (SemE.item (SemE.var 0 rfl rfl rfl) (SemE.var 2 rfl rfl rfl)) SemE.int rfl) (SemB.one (SemS.raise G (exc45 w) (by decide) rfl (by rfl) rfl (SemE.tuple (SemA.cons (SemE.var 2 rfl rfl rfl) (SemA.cons (SemE.glob (d := .str "a code 0 of one octet") G rfl (by rfl) rfl (by unfold Rep; exact ⟨_, rfl⟩)) SemA.nil))))) (SemB.one (SemS.unpack (NamesAt.cons (i := 3) rfl rfl (NamesAt.cons (i := 4) rfl rfl (NamesAt.cons (i := 5) rfl rfl NamesAt.nil))) (SemE.call G rfl (by rfl) rfl (by rfl) (s201.ok prog w h0 G).1 (by decide) (SemA.cons (SemE.var 0 rfl rfl rfl) (SemA.cons (SemE.var 2 rfl rfl rfl) SemA.nil))))))))
    (SemB.cons (SemS.ite (SemT.cmp1 (by decide) (SemE.var 4 rfl rfl rfl) SemE.nonec rfl) (SemB.one (SemS.raise G (exc45 w) (by decide) rfl (by rfl) rfl (SemE.tuple (SemA.cons (SemE.var 2 rfl rfl rfl) (SemA.cons (SemE.var 5 rfl rfl rfl) SemA.nil))))) SemB.nil)
    (SemB.cons (SemS.ite (SemT.cmp1 (by decide) (SemE.var 3 rfl rfl rfl) SemE.int rfl) (SemB.one (SemS.raise G (exc45 w) (by decide) rfl (by rfl) rfl (SemE.tuple (SemA.cons (SemE.var 2 rfl rfl rfl) (SemA.cons (SemE.glob (d := .str "a sequence of four octets") G rfl (by rfl) rfl (by unfold Rep; exact ⟨_, rfl⟩)) SemA.nil))))) SemB.nil)
    (SemB.cons (SemS.assign 6 (SemE.ife (SemT.plain (SemE.call G rfl (by rfl) rfl (by rfl) (s73.ok prog w h0 G).1 (by decide) (SemA.cons (SemE.var 4 rfl rfl rfl) SemA.nil))) (SemE.call G rfl (by rfl) rfl (by rfl) (s208.ok prog w h0 G).1 (by decide) (SemA.cons (SemE.var 0 rfl rfl rfl) (SemA.cons (SemE.bin (SemE.var 2 rfl rfl rfl) SemE.int) SemA.nil))) SemE.nonec) rfl rfl)
    (SemB.cons (SemS.ite (SemT.cmp1 (by decide) (SemE.var 6 rfl rfl rfl) SemE.nonec rfl) (SemB.one (SemS.swapped (NamesAt.cons (i := 4) rfl rfl (NamesAt.cons (i := 3) rfl rfl NamesAt.nil)) (SemE.tuple (SemA.cons (SemE.call G rfl (by rfl) rfl (by rfl) (s194.ok prog w h0 G).1 (by decide) (SemA.cons (SemE.var 4 rfl rfl rfl) (SemA.cons (SemE.var 6 rfl rfl rfl) SemA.nil))) (SemA.cons SemE.int SemA.nil))) (hw := (fun env h => by obtain ⟨sc, _⟩ := env; cases h; rfl)))) SemB.nil)
    (SemB.cons (SemS.append 1 (SemE.var 4 rfl rfl rfl) rfl rfl rfl)
    (SemB.one (SemS.assign 2 (SemE.bin (SemE.var 2 rfl rfl rfl) (SemE.var 3 rfl rfl rfl)) rfl rfl)))))))))
    (SemB.one (SemS.retOwn 1 rfl rfl))))
  (by rfl) rfl rfl (fun s vs X h => binds1 (fun a => .of_eq rfl) vs h) rfl (by decide) (by decide) (by decide) (by decide) rfl rfl rfl, by rfl⟩⟩

/-- encode_wtf8 -/
noncomputable def s243 : Sp 243 13 := ⟨_, fun prog w h0 G => ⟨call_spec (H := 12) ["text"] [0] G (by rfl) rfl
  (SemB.cons (SemS.mine2 1 2 rfl rfl rfl rfl SemE.int (hw := (fun env h => by obtain ⟨sc, _⟩ := env; cases h; rfl)))
    (SemB.cons (SemS.while 4096 (SemT.cmp1 (by decide) (SemE.var 2 rfl rfl rfl) (SemE.callB (v := .builtin "len") G (.inl ⟨_, rfl⟩) rfl (by rfl) (by boot_fast) (by decide) rfl len_ok (SemA.cons (SemE.var 0 rfl rfl rfl) SemA.nil)) rfl) (SemB.cons (SemS.assign 3 (SemE.item (SemE.var 0 rfl rfl rfl) (SemE.var 2 rfl rfl rfl)) rfl rfl)
    (SemB.cons (SemS.ite (SemT.not (SemT.or (SemT.plain (SemE.call G rfl (by rfl) rfl (by rfl) (s94.ok prog w h0 G).1 (by decide) (SemA.cons (SemE.var 3 rfl rfl rfl) SemA.nil))) (SemT.or (SemT.plain (SemE.call G rfl (by rfl) rfl (by rfl) (s73.ok prog w h0 G).1 (by decide) (SemA.cons (SemE.var 3 rfl rfl rfl) SemA.nil))) (SemT.or (SemT.plain (SemE.call G rfl (by rfl) rfl (by rfl) (s80.ok prog w h0 G).1 (by decide) (SemA.cons (SemE.var 3 rfl rfl rfl) SemA.nil))) SemT.orNil)))) (SemB.one (SemS.raise G (exc57 w) (by decide) rfl (by rfl) rfl (SemE.var 3 rfl rfl rfl))) SemB.nil)
    (SemB.cons (SemS.ite (SemT.and (SemT.plain (SemE.call G rfl (by rfl) rfl (by rfl) (s73.ok prog w h0 G).1 (by decide) (SemA.cons (SemE.var 3 rfl rfl rfl) SemA.nil))) (SemT.and (SemT.cmp1 (by decide) (SemE.bin (SemE.var 2 rfl rfl rfl) SemE.int) (SemE.callB (v := .builtin "len") G (.inl ⟨_, rfl⟩) rfl (by rfl) (by boot_fast) (by decide) rfl len_ok (SemA.cons (SemE.var 0 rfl rfl rfl) SemA.nil)) rfl) (SemT.and (SemT.plain (SemE.call G rfl (by rfl) rfl (by rfl) (s80.ok prog w h0 G).1 (by decide) (SemA.cons (SemE.item (SemE.var 0 rfl rfl rfl) (SemE.bin (SemE.var 2 rfl rfl rfl) SemE.int)) SemA.nil))) SemT.andNil))) (SemB.cons (SemS.assign 3 (SemE.call G rfl (by rfl) rfl (by rfl) (s194.ok prog w h0 G).1 (by decide) (SemA.cons (SemE.var 3 rfl rfl rfl) (SemA.cons (SemE.item (SemE.var 0 rfl rfl rfl) (SemE.bin (SemE.var 2 rfl rfl rfl) SemE.int)) SemA.nil))) rfl rfl)
    (SemB.one (SemS.assign 2 (SemE.bin (SemE.var 2 rfl rfl rfl) SemE.int) rfl rfl))) SemB.nil)
    (SemB.cons (SemS.extend 1 (SemE.call G rfl (by rfl) rfl (by rfl) (s101.ok prog w h0 G).1 (by decide) (SemA.cons (SemE.var 3 rfl rfl rfl) SemA.nil)) rfl rfl rfl)
    (SemB.one (SemS.assign 2 (SemE.bin (SemE.var 2 rfl rfl rfl) SemE.int) rfl rfl)))))))
    (SemB.one (SemS.ret (SemE.ownBytes 1 G rfl (by rfl) (by boot_fast) rfl rfl)))))
  (by rfl) rfl rfl (fun s vs X h => binds1 (fun a => .of_eq rfl) vs h) rfl (by decide) (by decide) (by decide) (by decide) rfl rfl rfl, by rfl⟩⟩

/-- decode_wtf8 -/
noncomputable def s250 : Sp 250 15 := ⟨_, fun prog w h0 G => ⟨call_spec (H := 14) ["octets"] [0] G (by rfl) rfl
  (SemB.cons (SemS.mine2 1 2 rfl rfl rfl rfl SemE.int (hw := (fun env h => by obtain ⟨sc, _⟩ := env; cases h; rfl)))
    (SemB.cons (SemS.while 4096 (SemT.cmp1 (by decide) (SemE.var 2 rfl rfl rfl) (SemE.callB (v := .builtin "len") G (.inl ⟨_, rfl⟩) rfl (by rfl) (by boot_fast) (by decide) rfl len_ok (SemA.cons (SemE.var 0 rfl rfl rfl) SemA.nil)) rfl) (SemB.cons (SemS.unpack (NamesAt.cons (i := 3) rfl rfl (NamesAt.cons (i := 4) rfl rfl (NamesAt.cons (i := 5) rfl rfl NamesAt.nil))) (SemE.call G rfl (by rfl) rfl (by rfl) (s201.ok prog w h0 G).1 (by decide) (SemA.cons (SemE.var 0 rfl rfl rfl) (SemA.cons (SemE.var 2 rfl rfl rfl) SemA.nil))))
    (SemB.cons (SemS.ite (SemT.cmp1 (by decide) (SemE.var 4 rfl rfl rfl) SemE.nonec rfl) (SemB.one (SemS.raise G (exc45 w) (by decide) rfl (by rfl) rfl (SemE.tuple (SemA.cons (SemE.var 2 rfl rfl rfl) (SemA.cons (SemE.var 5 rfl rfl rfl) SemA.nil))))) SemB.nil)
    (SemB.cons (SemS.ite (SemT.and (SemT.plain (SemE.call G rfl (by rfl) rfl (by rfl) (s73.ok prog w h0 G).1 (by decide) (SemA.cons (SemE.var 4 rfl rfl rfl) SemA.nil))) (SemT.and (SemT.cmp1 (by decide) (SemE.call G rfl (by rfl) rfl (by rfl) (s208.ok prog w h0 G).1 (by decide) (SemA.cons (SemE.var 0 rfl rfl rfl) (SemA.cons (SemE.bin (SemE.var 2 rfl rfl rfl) SemE.int) SemA.nil))) SemE.nonec rfl) SemT.andNil)) (SemB.one (SemS.raise G (exc45 w) (by decide) rfl (by rfl) rfl (SemE.tuple (SemA.cons (SemE.var 2 rfl rfl rfl) (SemA.cons (SemE.glob (d := .str "a pair of surrogates") G rfl (by rfl) rfl (by unfold Rep; exact ⟨_, rfl⟩)) SemA.nil))))) SemB.nil)
    (SemB.cons (SemS.append 1 (SemE.var 4 rfl rfl rfl) rfl rfl rfl)
    (SemB.one (SemS.assign 2 (SemE.bin (SemE.var 2 rfl rfl rfl) (SemE.var 3 rfl rfl rfl)) rfl rfl)))))))
    (SemB.one (SemS.retOwn 1 rfl rfl))))
  (by rfl) rfl rfl (fun s vs X h => binds1 (fun a => .of_eq rfl) vs h) rfl (by decide) (by decide) (by decide) (by decide) rfl rfl rfl, by rfl⟩⟩

end Mine
end
section
set_option Elab.async false
set_option maxRecDepth 100000
open PySem PySem.W PyProof.Rows PySem.SeqAt PySem.Spec
namespace Mine
/-- _law_many -/
noncomputable def s266 : Sp 266 11 := ⟨_, fun prog w h0 G => ⟨call_spec (H := 10) ["lead"] [0] G (by rfl) rfl
  (SemB.cons (SemS.ite (SemT.cmp1 (by decide) (SemE.var 0 rfl rfl rfl) SemE.int rfl) (SemB.one (SemS.ret SemE.int)) SemB.nil)
    (SemB.cons (SemS.ite (SemT.or (SemT.cmp1 (by decide) (SemE.var 0 rfl rfl rfl) SemE.int rfl) (SemT.or (SemT.cmp1 (by decide) (SemE.var 0 rfl rfl rfl) SemE.int rfl) SemT.orNil)) (SemB.one (SemS.ret SemE.int)) SemB.nil)
    (SemB.one (SemS.ret (SemE.ife (SemT.cmp1 (by decide) (SemE.var 0 rfl rfl rfl) SemE.int rfl) SemE.int (SemE.ife (SemT.cmp1 (by decide) (SemE.var 0 rfl rfl rfl) SemE.int rfl) SemE.int SemE.int))))))
  (by rfl) rfl rfl (fun s vs X h => binds1 (fun a => .of_eq rfl) vs h) rfl (by decide) (by decide) (by decide) (by decide) rfl rfl rfl, by rfl⟩⟩

/-- _law_cut -/
noncomputable def s273 : Sp 273 12 := ⟨_, fun prog w h0 G => ⟨call_spec (H := 11) ["octets", "at"] [0, 1] G (by rfl) rfl
  (SemB.cons (SemS.assign 2 (SemE.call G rfl (by rfl) rfl (by rfl) (s266.ok prog w h0 G).1 (by decide) (SemA.cons (SemE.item (SemE.var 0 rfl rfl rfl) (SemE.var 1 rfl rfl rfl)) SemA.nil)) rfl rfl)
    (SemB.cons (SemS.unpack (NamesAt.cons (i := 3) rfl rfl (NamesAt.cons (i := 4) rfl rfl NamesAt.nil)) (SemE.seconds G (by decide) rfl (by rfl) rfl (SemE.item (SemE.var 0 rfl rfl rfl) (SemE.var 1 rfl rfl rfl)) (SemE.tuple (SemA.cons SemE.int (SemA.cons SemE.int SemA.nil))) (fun _ => seconds_base) rfl))
    (SemB.cons (SemS.assign 5 SemE.int rfl rfl)
    (SemB.cons (SemS.while 4096 (SemT.and (SemT.cmp1 (by decide) (SemE.var 5 rfl rfl rfl) (SemE.var 2 rfl rfl rfl) rfl) (SemT.and (SemT.cmp1 (by decide) (SemE.bin (SemE.var 1 rfl rfl rfl) (SemE.var 5 rfl rfl rfl)) (SemE.callB (v := .builtin "len") G (.inl ⟨_, rfl⟩) rfl (by rfl) (by boot_fast) (by decide) rfl len_ok (SemA.cons (SemE.var 0 rfl rfl rfl) SemA.nil)) rfl) (SemT.and (SemT.cmp2 (by decide) (SemE.var 3 rfl rfl rfl) (SemE.item (SemE.var 0 rfl rfl rfl) (SemE.bin (SemE.var 1 rfl rfl rfl) (SemE.var 5 rfl rfl rfl))) (SemE.var 4 rfl rfl rfl) rfl) SemT.andNil))) (SemB.one (SemS.swapped (NamesAt.cons (i := 5) rfl rfl (NamesAt.cons (i := 3) rfl rfl (NamesAt.cons (i := 4) rfl rfl NamesAt.nil))) (SemE.tuple (SemA.cons (SemE.bin (SemE.var 5 rfl rfl rfl) SemE.int) (SemA.cons SemE.int (SemA.cons SemE.int SemA.nil)))) (hw := (fun env h => by obtain ⟨sc, _⟩ := env; cases h; rfl)))))
    (SemB.one (SemS.ret (SemE.tuple (SemA.cons (SemE.var 5 rfl rfl rfl) (SemA.cons (SemE.cmp1 (by decide) (SemE.var 5 rfl rfl rfl) (SemE.var 2 rfl rfl rfl) rfl) SemA.nil)))))))))
  (by rfl) rfl rfl (fun s vs X h => binds2 (fun a b => .of_eq rfl) vs h) rfl (by decide) (by decide) (by decide) (by decide) rfl rfl rfl, by rfl⟩⟩

/-- _law_cuts -/
noncomputable def s280 : Sp 280 13 := ⟨_, fun prog w h0 G => ⟨call_spec (H := 12) ["octets"] [0] G (by rfl) rfl
  (SemB.cons (SemS.mine2 1 2 rfl rfl rfl rfl SemE.int (hw := (fun env h => by obtain ⟨sc, _⟩ := env; cases h; rfl)))
    (SemB.cons (SemS.while 4096 (SemT.cmp1 (by decide) (SemE.var 2 rfl rfl rfl) (SemE.callB (v := .builtin "len") G (.inl ⟨_, rfl⟩) rfl (by rfl) (by boot_fast) (by decide) rfl len_ok (SemA.cons (SemE.var 0 rfl rfl rfl) SemA.nil)) rfl) (SemB.cons (SemS.unpack (NamesAt.cons (i := 3) rfl rfl (NamesAt.cons (i := 4) rfl rfl NamesAt.nil)) (SemE.call G rfl (by rfl) rfl (by rfl) (s273.ok prog w h0 G).1 (by decide) (SemA.cons (SemE.var 0 rfl rfl rfl) (SemA.cons (SemE.var 2 rfl rfl rfl) SemA.nil))))
    (SemB.cons (SemS.append 1 (SemE.tuple (SemA.cons (SemE.var 2 rfl rfl rfl) (SemA.cons (SemE.var 3 rfl rfl rfl) (SemA.cons (SemE.var 4 rfl rfl rfl) SemA.nil)))) rfl rfl rfl)
    (SemB.one (SemS.assign 2 (SemE.bin (SemE.var 2 rfl rfl rfl) (SemE.var 3 rfl rfl rfl)) rfl rfl)))))
    (SemB.one (SemS.retOwn 1 rfl rfl))))
  (by rfl) rfl rfl (fun s vs X h => binds1 (fun a => .of_eq rfl) vs h) rfl (by decide) (by decide) (by decide) (by decide) rfl rfl rfl, by rfl⟩⟩

/-- _law_code -/
noncomputable def s287 : Sp 287 11 := ⟨_, fun prog w h0 G => ⟨call_spec (H := 10) ["part"] [0] G (by rfl) rfl
  (SemB.cons (SemS.assign 1 (SemE.bin (SemE.item (SemE.var 0 rfl rfl rfl) SemE.int) (SemE.item (SemE.list (SemA.cons SemE.int (SemA.cons SemE.int (SemA.cons SemE.int (SemA.cons SemE.int (SemA.cons SemE.int SemA.nil)))))) (SemE.callB (v := .builtin "len") G (.inl ⟨_, rfl⟩) rfl (by rfl) (by boot_fast) (by decide) rfl len_ok (SemA.cons (SemE.var 0 rfl rfl rfl) SemA.nil)))) rfl rfl)
    (SemB.cons (SemS.for (SemI.seq (SemE.slice (SemE.var 0 rfl rfl rfl) (SemP.some SemE.int) SemP.none)) (SemG.name 2 rfl rfl) (SemB.one (SemS.assign 1 (SemE.bin (SemE.bin (SemE.bin (SemE.var 1 rfl rfl rfl) SemE.int) (SemE.var 2 rfl rfl rfl)) SemE.int) rfl rfl)))
    (SemB.one (SemS.ret (SemE.var 1 rfl rfl rfl)))))
  (by rfl) rfl rfl (fun s vs X h => binds1 (fun a => .of_eq rfl) vs h) rfl (by decide) (by decide) (by decide) (by decide) rfl rfl rfl, by rfl⟩⟩

/-- _law_read -/
noncomputable def s294 : Sp 294 14 := ⟨_, fun prog w h0 G => ⟨call_spec (H := 13) ["octets"] [0] G (by rfl) rfl
  (SemB.cons (SemS.mine 1 rfl rfl)
    (SemB.cons (SemS.for (SemI.seq (SemE.call G rfl (by rfl) rfl (by rfl) (s280.ok prog w h0 G).1 (by decide) (SemA.cons (SemE.var 0 rfl rfl rfl) SemA.nil))) (SemG.tuple (NamesAt.cons (i := 2) rfl rfl (NamesAt.cons (i := 3) rfl rfl (NamesAt.cons (i := 4) rfl rfl NamesAt.nil)))) (SemB.one (SemS.append 1 (SemE.ife (SemT.plain (SemE.var 4 rfl rfl rfl)) (SemE.call G rfl (by rfl) rfl (by rfl) (s287.ok prog w h0 G).1 (by decide) (SemA.cons (SemE.slice (SemE.var 0 rfl rfl rfl) (SemP.some (SemE.var 2 rfl rfl rfl)) (SemP.some (SemE.bin (SemE.var 2 rfl rfl rfl) (SemE.var 3 rfl rfl rfl)))) SemA.nil)) SemE.int) rfl rfl rfl)))
    (SemB.one (SemS.retOwn 1 rfl rfl))))
  (by rfl) rfl rfl (fun s vs X h => binds1 (fun a => .of_eq rfl) vs h) rfl (by decide) (by decide) (by decide) (by decide) rfl rfl rfl, by rfl⟩⟩

/-- _law_waits -/
noncomputable def s301 : Sp 301 14 := ⟨_, fun prog w h0 G => ⟨call_spec (H := 13) ["octets"] [0] G (by rfl) rfl
  (SemB.cons (SemS.assign 1 (SemE.call G rfl (by rfl) rfl (by rfl) (s280.ok prog w h0 G).1 (by decide) (SemA.cons (SemE.var 0 rfl rfl rfl) SemA.nil)) rfl rfl)
    (SemB.cons (SemS.ite (SemT.or (SemT.cmp1 (by decide) (SemE.var 1 rfl rfl rfl) (SemE.list SemA.nil) rfl) (SemT.or (SemT.plain (SemE.item (SemE.item (SemE.var 1 rfl rfl rfl) SemE.neg) SemE.int)) (SemT.or (SemT.cmp1 (by decide) (SemE.call G rfl (by rfl) rfl (by rfl) (s266.ok prog w h0 G).1 (by decide) (SemA.cons (SemE.item (SemE.var 0 rfl rfl rfl) (SemE.item (SemE.item (SemE.var 1 rfl rfl rfl) SemE.neg) SemE.int)) SemA.nil)) SemE.int rfl) SemT.orNil))) (SemB.one (SemS.ret SemE.int)) SemB.nil)
    (SemB.one (SemS.ret (SemE.item (SemE.item (SemE.var 1 rfl rfl rfl) SemE.neg) SemE.int)))))
  (by rfl) rfl rfl (fun s vs X h => binds1 (fun a => .of_eq rfl) vs h) rfl (by decide) (by decide) (by decide) (by decide) rfl rfl rfl, by rfl⟩⟩

/-- _law_octets -/
noncomputable def s334 : Sp 334 11 := ⟨_, fun prog w h0 G => ⟨call_spec (H := 10) ["code"] [0] G (by rfl) rfl
  (SemB.cons (SemS.ite (SemT.cmp1 (by decide) (SemE.var 0 rfl rfl rfl) SemE.int rfl) (SemB.one (SemS.ret (SemE.list (SemA.cons (SemE.var 0 rfl rfl rfl) SemA.nil)))) SemB.nil)
    (SemB.cons (SemS.ite (SemT.cmp1 (by decide) (SemE.var 0 rfl rfl rfl) SemE.int rfl) (SemB.one (SemS.ret (SemE.list (SemA.cons (SemE.bin SemE.int (SemE.bin (SemE.var 0 rfl rfl rfl) SemE.int)) (SemA.cons (SemE.bin SemE.int (SemE.bin (SemE.var 0 rfl rfl rfl) SemE.int)) SemA.nil))))) SemB.nil)
    (SemB.cons (SemS.ite (SemT.cmp1 (by decide) (SemE.var 0 rfl rfl rfl) SemE.int rfl) (SemB.one (SemS.ret (SemE.list (SemA.cons (SemE.bin SemE.int (SemE.bin (SemE.var 0 rfl rfl rfl) SemE.int)) (SemA.cons (SemE.bin SemE.int (SemE.bin (SemE.bin (SemE.var 0 rfl rfl rfl) SemE.int) SemE.int)) (SemA.cons (SemE.bin SemE.int (SemE.bin (SemE.var 0 rfl rfl rfl) SemE.int)) SemA.nil)))))) SemB.nil)
    (SemB.one (SemS.ret (SemE.list (SemA.cons (SemE.bin SemE.int (SemE.bin (SemE.var 0 rfl rfl rfl) SemE.int)) (SemA.cons (SemE.bin SemE.int (SemE.bin (SemE.bin (SemE.var 0 rfl rfl rfl) SemE.int) SemE.int)) (SemA.cons (SemE.bin SemE.int (SemE.bin (SemE.bin (SemE.var 0 rfl rfl rfl) SemE.int) SemE.int)) (SemA.cons (SemE.bin SemE.int (SemE.bin (SemE.var 0 rfl rfl rfl) SemE.int)) SemA.nil))))))))))
  (by rfl) rfl rfl (fun s vs X h => binds1 (fun a => .of_eq rfl) vs h) rfl (by decide) (by decide) (by decide) (by decide) rfl rfl rfl, by rfl⟩⟩

/-- _law_written -/
noncomputable def s341 : Sp 341 12 := ⟨_, fun prog w h0 G => ⟨call_spec (H := 11) ["text"] [0] G (by rfl) rfl
  (SemB.cons (SemS.assign 1 (SemE.list SemA.nil) rfl rfl)
    (SemB.cons (SemS.for (SemI.seq (SemE.var 0 rfl rfl rfl)) (SemG.name 2 rfl rfl) (SemB.one (SemS.assign 1 (SemE.bin (SemE.var 1 rfl rfl rfl) (SemE.call G rfl (by rfl) rfl (by rfl) (s334.ok prog w h0 G).1 (by decide) (SemA.cons (SemE.var 2 rfl rfl rfl) SemA.nil))) rfl rfl)))
    (SemB.one (SemS.ret (SemE.callB (v := .type "bytes") G (.inr ⟨_, rfl⟩) rfl (by rfl) (by boot_fast) (by decide) rfl bytes_ok (SemA.cons (SemE.var 1 rfl rfl rfl) SemA.nil))))))
  (by rfl) rfl rfl (fun s vs X h => binds1 (fun a => .of_eq rfl) vs h) rfl (by decide) (by decide) (by decide) (by decide) rfl rfl rfl, by rfl⟩⟩

/-- _law_parted -/
noncomputable def s348 : Sp 348 11 := ⟨_, fun prog w h0 G => ⟨call_spec (H := 10) ["text"] [0] G (by rfl) rfl
  (SemB.cons (SemS.mine 1 rfl rfl)
    (SemB.cons (SemS.for (SemI.seq (SemE.var 0 rfl rfl rfl)) (SemG.name 2 rfl rfl) (SemB.one (SemS.ite (SemT.cmp1 (by decide) (SemE.var 2 rfl rfl rfl) SemE.int rfl) (SemB.one (SemS.ownAdd 1 (SemE.list (SemA.cons (SemE.bin SemE.int (SemE.bin (SemE.bin (SemE.var 2 rfl rfl rfl) SemE.int) SemE.int)) (SemA.cons (SemE.bin SemE.int (SemE.bin (SemE.var 2 rfl rfl rfl) SemE.int)) SemA.nil))) rfl rfl rfl)) (SemB.one (SemS.append 1 (SemE.var 2 rfl rfl rfl) rfl rfl rfl)))))
    (SemB.one (SemS.retOwn 1 rfl rfl))))
  (by rfl) rfl rfl (fun s vs X h => binds1 (fun a => .of_eq rfl) vs h) rfl (by decide) (by decide) (by decide) (by decide) rfl rfl rfl, by rfl⟩⟩

/-- _law_joined -/
noncomputable def s355 : Sp 355 11 := ⟨_, fun prog w h0 G => ⟨call_spec (H := 10) ["text"] [0] G (by rfl) rfl
  (SemB.cons (SemS.mine 1 rfl rfl)
    (SemB.cons (SemS.for (SemI.seq (SemE.var 0 rfl rfl rfl)) (SemG.name 2 rfl rfl) (SemB.one (SemS.ite (SemT.and (SemT.ownNe 1 (by decide) rfl rfl) (SemT.and (SemT.cmp2 (by decide) SemE.int (SemE.ownLast 1 rfl rfl) SemE.int rfl) (SemT.and (SemT.cmp2 (by decide) SemE.int (SemE.var 2 rfl rfl rfl) SemE.int rfl) SemT.andNil))) (SemB.one (SemS.setLast 1 (SemE.bin (SemE.bin (SemE.bin SemE.int (SemE.bin (SemE.bin (SemE.ownLast 1 rfl rfl) SemE.int) SemE.int)) (SemE.var 2 rfl rfl rfl)) SemE.int) rfl rfl)) (SemB.one (SemS.append 1 (SemE.var 2 rfl rfl rfl) rfl rfl rfl)))))
    (SemB.one (SemS.retOwn 1 rfl rfl))))
  (by rfl) rfl rfl (fun s vs X h => binds1 (fun a => .of_eq rfl) vs h) rfl (by decide) (by decide) (by decide) (by decide) rfl rfl rfl, by rfl⟩⟩

end Mine
end
section
set_option Elab.async false
set_option maxRecDepth 100000
set_option maxHeartbeats 4000000
open PySem PySem.W PyProof.Rows PySem.SeqAt PySem.Spec
namespace Mine
/-- Utf8Stream.feed -/
structure FeedBody where
  ψ : SM
  ok : ∀ (prog : Program) (w : World) (h0 : Heap), Gd w h0 → ∀ F : FeedF, (∀ xa b wt pl octets last r, F b wt pl octets last = some r → feedRes b (ψ (feedSt xa b wt pl octets last)) = some r ∧ ∀ ρ', ψ (feedSt xa b wt pl octets last) = some (.next ρ') → ∃ a, ρ'.loc 0 = some (.obj a) ∧ a = xa) → FeedSpec prog w h0 31 F
noncomputable def s173 : FeedBody := ⟨_, fun prog w h0 G F hF => feed_spec (H := 30) (pre := [_, _, _, _]) G (by rfl) rfl
  (SemB.cons (SemS.mine3 3 4 5 rfl rfl rfl rfl rfl rfl (SemE.bin (SemE.attr 0 G rfl rfl) (SemE.var 1 rfl rfl rfl)) SemE.int (hw := (fun env h => by obtain ⟨sc, _⟩ := env; cases h; rfl)))
    (SemB.cons (SemS.while 4096 (SemT.cmp1 (by decide) (SemE.var 5 rfl rfl rfl) (SemE.callB (v := .builtin "len") G (.inl ⟨_, rfl⟩) rfl (by rfl) (by boot_fast) (by decide) rfl len_ok (SemA.cons (SemE.var 3 rfl rfl rfl) SemA.nil)) rfl) (SemB.cons (SemS.unpack (NamesAt.cons (i := 6) rfl rfl (NamesAt.cons (i := 7) rfl rfl (NamesAt.cons (i := 8) rfl rfl NamesAt.nil))) (SemE.call G rfl (by rfl) rfl (by rfl) (s122.ok prog w h0 G).1 (by decide) (SemA.cons (SemE.var 3 rfl rfl rfl) (SemA.cons (SemE.var 5 rfl rfl rfl) SemA.nil))))
    (SemB.cons (SemS.ite (SemT.and (SemT.cmp1 (by decide) (SemE.var 8 rfl rfl rfl) (SemE.glob (d := .str "a sequence that is cut short") G rfl (by rfl) rfl (by unfold Rep; exact ⟨_, rfl⟩)) rfl) (SemT.and (SemT.not (SemT.plain (SemE.var 2 rfl rfl rfl))) SemT.andNil)) (SemB.one SemS.break) SemB.nil)
    (SemB.cons (SemS.ite (SemT.and (SemT.cmp1 (by decide) (SemE.var 7 rfl rfl rfl) SemE.nonec rfl) (SemT.and (SemT.plain (SemE.attr 0 G rfl rfl)) SemT.andNil)) (SemB.one (SemS.raise G (exc45 w) (by decide) rfl (by rfl) rfl (SemE.tuple (SemA.cons (SemE.bin (SemE.attr 0 G rfl rfl) (SemE.var 5 rfl rfl rfl)) (SemA.cons (SemE.var 8 rfl rfl rfl) SemA.nil))))) SemB.nil)
    (SemB.cons (SemS.append 4 (SemE.ife (SemT.cmp1 (by decide) (SemE.var 7 rfl rfl rfl) SemE.nonec rfl) (SemE.glob (d := .int 65533) G rfl (by rfl) rfl (by unfold Rep; exact ⟨_, rfl⟩)) (SemE.var 7 rfl rfl rfl)) rfl rfl rfl)
    (SemB.one (SemS.assign 5 (SemE.bin (SemE.var 5 rfl rfl rfl) (SemE.var 6 rfl rfl rfl)) rfl rfl)))))))
    (SemB.cons (SemS.attr 0 G (SemE.ife (SemT.plain (SemE.var 2 rfl rfl rfl)) SemE.bytesc (SemE.slice (SemE.var 3 rfl rfl rfl) (SemP.some (SemE.var 5 rfl rfl rfl)) SemP.none)) rfl rfl)
    (SemB.one (SemS.attr 0 G (SemE.ife (SemT.plain (SemE.var 2 rfl rfl rfl)) SemE.int (SemE.bin (SemE.attr 0 G rfl rfl) (SemE.var 5 rfl rfl rfl))) rfl rfl)))))
  (by rfl) rfl rfl (fun s a b c X => BindsTo.of_defaults (T := 166) rfl (X 166 _ (by rfl)) rfl rfl rfl) rfl rfl rfl rfl rfl rfl rfl (by decide) (by decide) rfl rfl rfl hF⟩

/-- _law_told -/
noncomputable def told308 : Addr → Option (List Dat → Option (Except Addr Dat)) := fun f => if f = 129 then some s129.F else if f = 222 then some s222.F else if f = 236 then some s236.F else if f = 250 then some s250.F else none
theorem told308_ok {prog : Program} {w : World} {h0 : Heap} (G : Gd w h0) : ∀ f F, told308 f = some F → CallSpec prog w h0 f 20 F ∧ keepIn (KF w) (.ref f) = true := by
  intro f F h
  unfold told308 at h
  split at h
  · rename_i e; subst e; cases h; exact ⟨(s129.ok prog w h0 G).1.mono (by decide), (s129.ok prog w h0 G).2⟩
  split at h
  · rename_i e; subst e; cases h; exact ⟨(s222.ok prog w h0 G).1.mono (by decide), (s222.ok prog w h0 G).2⟩
  split at h
  · rename_i e; subst e; cases h; exact ⟨(s236.ok prog w h0 G).1.mono (by decide), (s236.ok prog w h0 G).2⟩
  split at h
  · rename_i e; subst e; cases h; exact ⟨(s250.ok prog w h0 G).1.mono (by decide), (s250.ok prog w h0 G).2⟩
  cases h
noncomputable def s308 : Sp 308 21 := ⟨_, fun prog w h0 G => ⟨call_spec (H := 20) ["call", "octets"] [0, 1] G (by rfl) rfl
  (SemB.cons (SemS.try G (exc45 w) rfl (by rfl) rfl (SemB.one (SemS.assign 2 (SemE.callv (H' := 20) (Fs := told308) (i := 0) G rfl rfl rfl (told308_ok G) (by decide) (SemA.cons (SemE.var 1 rfl rfl rfl) SemA.nil)) rfl rfl)) (SemB.one (SemS.assign 2 SemE.nonec rfl rfl)))
    (SemB.one (SemS.ret (SemE.var 2 rfl rfl rfl))))
  (by rfl) rfl rfl (fun s vs X h => binds2 (fun a b => .of_eq rfl) vs h) rfl (by decide) (by decide) (by decide) (by decide) rfl rfl rfl, by rfl⟩⟩

/-- _law_strict -/
noncomputable def s315 (F : FeedF) (hF : ∀ prog w h0, Gd w h0 → FeedSpec prog w h0 31 F) : Sp 315 32 := ⟨_, fun prog w h0 G => ⟨call_spec (H := 31) ["octets", "size"] [0, 1] G (by rfl) rfl
  (SemB.cons (SemS.strm 2 G (by decide) rfl rfl (NamesAt.cons (i := 3) rfl rfl NamesAt.nil) (by decide) rfl (by rfl) rfl (SemA.cons (SemE.list SemA.nil) SemA.nil) (hw := (fun env h => by obtain ⟨sc, _⟩ := env; cases h; rfl)))
    (SemB.cons (SemS.try G (exc45 w) rfl (by rfl) rfl (SemB.cons (SemS.for (SemI.range G rfl (by rfl) (by boot_fast) (SemA.cons SemE.int (SemA.cons (SemE.callB (v := .builtin "len") G (.inl ⟨_, rfl⟩) rfl (by rfl) (by boot_fast) (by decide) rfl len_ok (SemA.cons (SemE.var 0 rfl rfl rfl) SemA.nil)) (SemA.cons (SemE.var 1 rfl rfl rfl) SemA.nil)))) (SemG.name 4 rfl rfl) (SemB.one (SemS.feedAdd 3 2 G (hF prog w h0 G) (by decide) rfl rfl rfl rfl rfl rfl (SemA.cons (SemE.slice (SemE.var 0 rfl rfl rfl) (SemP.some (SemE.var 4 rfl rfl rfl)) (SemP.some (SemE.bin (SemE.var 4 rfl rfl rfl) (SemE.var 1 rfl rfl rfl)))) (SemA.cons SemE.boolc SemA.nil)) (fun _ => rfl) (fun _ => rfl) _ (fun _ => rfl))))
    (SemB.one (SemS.feedAdd 3 2 G (hF prog w h0 G) (by decide) rfl rfl rfl rfl rfl rfl (SemA.cons SemE.bytesc (SemA.cons SemE.boolc SemA.nil)) (fun _ => rfl) (fun _ => rfl) _ (fun _ => rfl)))) (SemB.one (SemS.assign 3 SemE.nonec rfl rfl)))
    (SemB.one (SemS.ret (SemE.var 3 rfl rfl rfl)))))
  (by rfl) rfl rfl (fun s vs X h => binds2 (fun a b => .of_eq rfl) vs h) rfl (by decide) (by decide) (by decide) (by decide) rfl rfl rfl, by rfl⟩⟩

/-- _law_stream_right -/
noncomputable def s322 (F : FeedF) (hF : ∀ prog w h0, Gd w h0 → FeedSpec prog w h0 31 F) : Sp 322 32 := ⟨_, fun prog w h0 G => ⟨call_spec (H := 31) ["octets", "size"] [0, 1] G (by rfl) rfl
  (SemB.cons (SemS.strm 2 G (by decide) rfl rfl (NamesAt.cons (i := 3) rfl rfl (NamesAt.cons (i := 4) rfl rfl NamesAt.nil)) (by decide) rfl (by rfl) rfl (SemA.cons (SemE.list SemA.nil) (SemA.cons SemE.int SemA.nil)) (hw := (fun env h => by obtain ⟨sc, _⟩ := env; cases h; rfl)))
    (SemB.cons (SemS.while 4096 (SemT.cmp1 (by decide) (SemE.var 4 rfl rfl rfl) (SemE.callB (v := .builtin "len") G (.inl ⟨_, rfl⟩) rfl (by rfl) (by boot_fast) (by decide) rfl len_ok (SemA.cons (SemE.var 0 rfl rfl rfl) SemA.nil)) rfl) (SemB.cons (SemS.feedAdd 3 2 G (hF prog w h0 G) (by decide) rfl rfl rfl rfl rfl rfl (SemA.cons (SemE.slice (SemE.var 0 rfl rfl rfl) (SemP.some (SemE.var 4 rfl rfl rfl)) (SemP.some (SemE.bin (SemE.var 4 rfl rfl rfl) (SemE.var 1 rfl rfl rfl)))) (SemA.cons SemE.boolc SemA.nil)) (fun _ => rfl) (fun _ => rfl) _ (fun _ => rfl))
    (SemB.cons (SemS.assign 4 (SemE.callB (v := .builtin "min") G (.inl ⟨_, rfl⟩) rfl (by rfl) (by boot_fast) (by decide) rfl min_ok (SemA.cons (SemE.bin (SemE.var 4 rfl rfl rfl) (SemE.var 1 rfl rfl rfl)) (SemA.cons (SemE.callB (v := .builtin "len") G (.inl ⟨_, rfl⟩) rfl (by rfl) (by boot_fast) (by decide) rfl len_ok (SemA.cons (SemE.var 0 rfl rfl rfl) SemA.nil)) SemA.nil))) rfl rfl)
    (SemB.one (SemS.ite (SemT.cmp1 (by decide) (SemE.var 3 rfl rfl rfl) (SemE.call G rfl (by rfl) rfl (by rfl) (s294.ok prog w h0 G).1 (by decide) (SemA.cons (SemE.slice (SemE.var 0 rfl rfl rfl) SemP.none (SemP.some (SemE.bin (SemE.var 4 rfl rfl rfl) (SemE.call G rfl (by rfl) rfl (by rfl) (s301.ok prog w h0 G).1 (by decide) (SemA.cons (SemE.slice (SemE.var 0 rfl rfl rfl) SemP.none (SemP.some (SemE.var 4 rfl rfl rfl))) SemA.nil))))) SemA.nil)) rfl) (SemB.one (SemS.ret SemE.boolc)) SemB.nil)))))
    (SemB.cons (SemS.feedAdd 3 2 G (hF prog w h0 G) (by decide) rfl rfl rfl rfl rfl rfl (SemA.cons SemE.bytesc (SemA.cons SemE.boolc SemA.nil)) (fun _ => rfl) (fun _ => rfl) _ (fun _ => rfl))
    (SemB.one (SemS.retFeed 2 G (hF prog w h0 G) (by decide) (by decide) rfl rfl (SemE.cmp1 (by decide) (SemE.var 3 rfl rfl rfl) (SemE.call G rfl (by rfl) rfl (by rfl) (s294.ok prog w h0 G).1 (by decide) (SemA.cons (SemE.var 0 rfl rfl rfl) SemA.nil)) rfl) (SemA.cons SemE.bytesc (SemA.cons SemE.boolc SemA.nil)) (SemE.list (SemA.cons SemE.int SemA.nil)) rfl (fun _ => rfl) (fun _ => rfl) _ (fun _ => rfl))))))
  (by rfl) rfl rfl (fun s vs X h => binds2 (fun a b => .of_eq rfl) vs h) rfl (by decide) (by decide) (by decide) (by decide) rfl rfl rfl, by rfl⟩⟩

/-- _law_octets_right -/
noncomputable def s327 (F : FeedF) (hF : ∀ prog w h0, Gd w h0 → FeedSpec prog w h0 31 F) : Sp 327 33 := ⟨_, fun prog w h0 G => ⟨call_spec (H := 32) ["octets", "size"] [0, 1] G (by rfl) rfl
  (SemB.cons (SemS.assign 2 (SemE.call G rfl (by rfl) rfl (by rfl) (s294.ok prog w h0 G).1 (by decide) (SemA.cons (SemE.var 0 rfl rfl rfl) SemA.nil)) rfl rfl)
    (SemB.cons (SemS.assign 3 (SemE.call G rfl (by rfl) rfl (by rfl) (s280.ok prog w h0 G).1 (by decide) (SemA.cons (SemE.var 0 rfl rfl rfl) SemA.nil)) rfl rfl)
    (SemB.cons (SemS.assign 4 (SemE.ife (SemT.cmp1 (by decide) (SemE.comp0 1 (SemI.seq (SemE.var 3 rfl rfl rfl)) (SemF.one (SemT.not (SemT.plain (SemE.item (SemE.var 1 rfl rfl rfl) SemE.int)))) SemE.int ⟨fun env h => (by obtain ⟨sc, _⟩ := env; cases h; rfl), (by decide), rfl, (by decide), rfl, rfl, rfl, (by decide)⟩ (fun env h => by obtain ⟨sc, _⟩ := env; cases h; rfl)) (SemE.list SemA.nil) rfl) (SemE.var 2 rfl rfl rfl) SemE.nonec) rfl rfl)
    (SemB.cons (SemS.ite (SemT.or (SemT.cmp1 (by decide) (SemE.call G rfl (by rfl) rfl (by rfl) (s136.ok prog w h0 G).1 (by decide) (SemA.cons (SemE.var 0 rfl rfl rfl) SemA.nil)) (SemE.var 2 rfl rfl rfl) rfl) (SemT.or (SemT.cmp1 (by decide) (SemE.call G rfl (by rfl) rfl (by rfl) (s308.ok prog w h0 G).1 (by decide) (SemA.cons (SemE.glob (d := .obj 129) G rfl (by rfl) rfl (by unfold Rep; rfl)) (SemA.cons (SemE.var 0 rfl rfl rfl) SemA.nil))) (SemE.var 4 rfl rfl rfl) rfl) SemT.orNil)) (SemB.one (SemS.ret SemE.boolc)) SemB.nil)
    (SemB.cons (SemS.ite (SemT.or (SemT.cmp1 (by decide) (SemE.call G rfl (by rfl) rfl (by rfl) ((s315 F hF).ok prog w h0 G).1 (by decide) (SemA.cons (SemE.var 0 rfl rfl rfl) (SemA.cons (SemE.var 1 rfl rfl rfl) SemA.nil))) (SemE.var 4 rfl rfl rfl) rfl) (SemT.or (SemT.not (SemT.plain (SemE.call G rfl (by rfl) rfl (by rfl) ((s322 F hF).ok prog w h0 G).1 (by decide) (SemA.cons (SemE.var 0 rfl rfl rfl) (SemA.cons (SemE.var 1 rfl rfl rfl) SemA.nil))))) SemT.orNil)) (SemB.one (SemS.ret SemE.boolc)) SemB.nil)
    (SemB.cons (SemS.for (SemI.range G rfl (by rfl) (by boot_fast) (SemA.cons (SemE.callB (v := .builtin "len") G (.inl ⟨_, rfl⟩) rfl (by rfl) (by boot_fast) (by decide) rfl len_ok (SemA.cons (SemE.var 0 rfl rfl rfl) SemA.nil)) SemA.nil)) (SemG.name 5 rfl rfl) (SemB.cons (SemS.ite (SemT.cmp1 (by decide) (SemE.call G rfl (by rfl) rfl (by rfl) (s143.ok prog w h0 G).1 (by decide) (SemA.cons (SemE.var 0 rfl rfl rfl) (SemA.cons (SemE.var 5 rfl rfl rfl) SemA.nil))) (SemE.bin (SemE.var 5 rfl rfl rfl) (SemE.item (SemE.call G rfl (by rfl) rfl (by rfl) (s273.ok prog w h0 G).1 (by decide) (SemA.cons (SemE.var 0 rfl rfl rfl) (SemA.cons (SemE.var 5 rfl rfl rfl) SemA.nil))) SemE.int)) rfl) (SemB.one (SemS.ret SemE.boolc)) SemB.nil)
    (SemB.one (SemS.ite (SemT.cmp1 (by decide) (SemE.call G rfl (by rfl) rfl (by rfl) (s150.ok prog w h0 G).1 (by decide) (SemA.cons (SemE.var 0 rfl rfl rfl) (SemA.cons (SemE.bin (SemE.var 5 rfl rfl rfl) SemE.int) SemA.nil))) (SemE.item (SemE.item (SemE.call G rfl (by rfl) rfl (by rfl) (s280.ok prog w h0 G).1 (by decide) (SemA.cons (SemE.slice (SemE.var 0 rfl rfl rfl) SemP.none (SemP.some (SemE.bin (SemE.var 5 rfl rfl rfl) SemE.int))) SemA.nil)) SemE.neg) SemE.int) rfl) (SemB.one (SemS.ret SemE.boolc)) SemB.nil))))
    (SemB.one (SemS.ret (SemE.and (SemE.cmp1 (by decide) (SemE.call G rfl (by rfl) rfl (by rfl) (s150.ok prog w h0 G).1 (by decide) (SemA.cons (SemE.var 0 rfl rfl rfl) (SemA.cons SemE.int SemA.nil))) SemE.int rfl) (SemE.bool1 (SemE.cmp1 (by decide) (SemE.call G rfl (by rfl) rfl (by rfl) (s143.ok prog w h0 G).1 (by decide) (SemA.cons (SemE.var 0 rfl rfl rfl) (SemA.cons (SemE.callB (v := .builtin "len") G (.inl ⟨_, rfl⟩) rfl (by rfl) (by boot_fast) (by decide) rfl len_ok (SemA.cons (SemE.var 0 rfl rfl rfl) SemA.nil)) SemA.nil))) (SemE.callB (v := .builtin "len") G (.inl ⟨_, rfl⟩) rfl (by rfl) (by boot_fast) (by decide) rfl len_ok (SemA.cons (SemE.var 0 rfl rfl rfl) SemA.nil)) rfl)))))))))))
  (by rfl) rfl rfl (fun s vs X h => binds2 (fun a b => .of_eq rfl) vs h) rfl (by decide) (by decide) (by decide) (by decide) rfl rfl rfl, by rfl⟩⟩

/-- _law_is_barred -/
noncomputable def told362 : Addr → Option (List Dat → Option (Except Addr Dat)) := fun f => if f = 108 then some s108.F else if f = 215 then some s215.F else none
theorem told362_ok {prog : Program} {w : World} {h0 : Heap} (G : Gd w h0) : ∀ f F, told362 f = some F → CallSpec prog w h0 f 20 F ∧ keepIn (KF w) (.ref f) = true := by
  intro f F h
  unfold told362 at h
  split at h
  · rename_i e; subst e; cases h; exact ⟨(s108.ok prog w h0 G).1.mono (by decide), (s108.ok prog w h0 G).2⟩
  split at h
  · rename_i e; subst e; cases h; exact ⟨(s215.ok prog w h0 G).1.mono (by decide), (s215.ok prog w h0 G).2⟩
  cases h
noncomputable def s362 : Sp 362 21 := ⟨_, fun prog w h0 G => ⟨call_spec (H := 20) ["call", "text"] [0, 1] G (by rfl) rfl
  (SemB.cons (SemS.try G (exc57 w) rfl (by rfl) rfl (SemB.one (SemS.expr (SemE.callv (H' := 20) (Fs := told362) (i := 0) G rfl rfl rfl (told362_ok G) (by decide) (SemA.cons (SemE.var 1 rfl rfl rfl) SemA.nil)))) (SemB.one (SemS.ret SemE.boolc)))
    (SemB.one (SemS.ret SemE.boolc)))
  (by rfl) rfl rfl (fun s vs X h => binds2 (fun a b => .of_eq rfl) vs h) rfl (by decide) (by decide) (by decide) (by decide) rfl rfl rfl, by rfl⟩⟩

end Mine
end
section
set_option Elab.async false
set_option maxRecDepth 100000
set_option maxHeartbeats 4000000
open PySem PySem.W PyProof.Rows PySem.SeqAt PySem.Spec
namespace Mine
theorem close_four {env : Env} {a : Addr} {n x y z : Str} {g : Bool} {co : Bool} {k : ScopeKind} (e : env.cells.lookup n = some a) :
    closureFor { kind := k, names := [(x, .local), (y, .local), (z, .globalImplicit), (n, .free)], isGenerator := g, isCoroutine := co } env = pure [(n, a)] := by
  have hc : cellOf env n = pure a := by unfold cellOf; rw [e]
  unfold closureFor
  simp [hc]
/-- _law_others_right -/
noncomputable def s367 : Sp 367 22 := by
  apply Sp.mk
  intro prog w h0 G
  refine ⟨?_, by rfl⟩
  refine' call_specC (H := 21) "text" "plain" G (by rfl) rfl ?hsem (by rfl) rfl rfl rfl (by intro a b; rfl) (by rfl) (by rfl) (by decide) (by rfl) (by rfl) (by intro n; rfl) (by decide) (by rfl) (by rfl) (by rfl)
  case hsem => exact (SemB.cons (SemS.comp0 1 2 (SemI.seq (SemE.var 0 rfl rfl rfl)) (SemF.one (SemT.cmp2 (by decide) SemE.int (SemE.var 1 rfl rfl rfl) SemE.int rfl)) (SemE.var 1 rfl rfl rfl) ⟨fun env h => (by obtain ⟨sc, _⟩ := env; cases h; rfl), (by decide), rfl, (by decide), rfl, rfl, rfl, (by decide)⟩ (fun env h => by obtain ⟨sc, _⟩ := env; cases h; rfl) rfl rfl (fun env h => by obtain ⟨sc, _⟩ := env; cases h; rfl))
    (SemB.cons (SemS.ite (SemT.cmp1 (by decide) (SemE.compC0 "text" 1 3 0 (SemI.seq (SemE.tuple (SemA.cons (SemE.glob (d := .obj 108) G rfl (by rfl) rfl (by unfold Rep; rfl)) (SemA.cons (SemE.glob (d := .obj 215) G rfl (by rfl) rfl (by unfold Rep; rfl)) SemA.nil)))) SemF.nil (SemE.call G rfl (by rfl) rfl (by rfl) (s362.ok prog w h0 G).1 (by decide) (SemA.cons (SemE.var 1 rfl rfl rfl) (SemA.cons (SemE.var 3 rfl rfl rfl) SemA.nil))) ⟨fun env h => (by obtain ⟨sc, _⟩ := env; cases h; rfl), (by decide), rfl, (by decide), rfl, rfl, rfl, (by decide)⟩ (by decide) rfl rfl rfl rfl (fun env a h e => close_four e)) (SemE.bin (SemE.list (SemA.cons (SemE.cmp1 (by decide) (SemE.var 2 rfl rfl rfl) (SemE.list SemA.nil) rfl) SemA.nil)) SemE.int) rfl) (SemB.one (SemS.ret SemE.boolc)) SemB.nil)
    (SemB.cons (SemS.ite (SemT.cmp1 (by decide) (SemE.comp0 1 (SemI.seq (SemE.var 2 rfl rfl rfl)) (SemF.one (SemT.cmp1 (by decide) (SemE.call G rfl (by rfl) rfl (by rfl) (s308.ok prog w h0 G).1 (by decide) (SemA.cons (SemE.glob (d := .obj 222) G rfl (by rfl) rfl (by unfold Rep; rfl)) (SemA.cons (SemE.call G rfl (by rfl) rfl (by rfl) (s341.ok prog w h0 G).1 (by decide) (SemA.cons (SemE.list (SemA.cons SemE.int (SemA.cons (SemE.var 1 rfl rfl rfl) SemA.nil))) SemA.nil)) SemA.nil))) SemE.nonec rfl)) (SemE.var 1 rfl rfl rfl) ⟨fun env h => (by obtain ⟨sc, _⟩ := env; cases h; rfl), (by decide), rfl, (by decide), rfl, rfl, rfl, (by decide)⟩ (fun env h => by obtain ⟨sc, _⟩ := env; cases h; rfl)) (SemE.list SemA.nil) rfl) (SemB.one (SemS.ret SemE.boolc)) SemB.nil)
    (SemB.cons (SemS.ite (SemT.cmp1 (by decide) (SemE.comp0 1 (SemI.seq (SemE.var 1 rfl rfl rfl)) (SemF.one (SemT.or (SemT.cmp1 (by decide) (SemE.var 1 rfl rfl rfl) SemE.int rfl) (SemT.or (SemT.cmp1 (by decide) (SemE.var 1 rfl rfl rfl) SemE.int rfl) SemT.orNil))) (SemE.var 1 rfl rfl rfl) ⟨fun env h => (by obtain ⟨sc, _⟩ := env; cases h; rfl), (by decide), rfl, (by decide), rfl, rfl, rfl, (by decide)⟩ (fun env h => by obtain ⟨sc, _⟩ := env; cases h; rfl)) (SemE.list SemA.nil) rfl) (SemB.one (SemS.ret SemE.boolc)) SemB.nil)
    (SemB.one (SemS.ret (SemE.cmp1 (by decide) (SemE.call G rfl (by rfl) rfl (by rfl) (s308.ok prog w h0 G).1 (by decide) (SemA.cons (SemE.glob (d := .obj 236) G rfl (by rfl) rfl (by unfold Rep; rfl)) (SemA.cons (SemE.call G rfl (by rfl) rfl (by rfl) (s341.ok prog w h0 G).1 (by decide) (SemA.cons (SemE.var 1 rfl rfl rfl) SemA.nil)) SemA.nil))) SemE.nonec rfl)))))))

/-- _law_text_right -/
noncomputable def s372 : Sp 372 23 := ⟨_, fun prog w h0 G => ⟨call_spec (H := 22) ["text"] [0] G (by rfl) rfl
  (SemB.cons (SemS.comp0 1 1 (SemI.seq (SemE.var 0 rfl rfl rfl)) (SemF.one (SemT.not (SemT.cmp2 (by decide) SemE.int (SemE.var 1 rfl rfl rfl) SemE.int rfl))) (SemE.var 1 rfl rfl rfl) ⟨fun env h => (by obtain ⟨sc, _⟩ := env; cases h; rfl), (by decide), rfl, (by decide), rfl, rfl, rfl, (by decide)⟩ (fun env h => by obtain ⟨sc, _⟩ := env; cases h; rfl) rfl rfl (fun env h => by obtain ⟨sc, _⟩ := env; cases h; rfl))
    (SemB.cons (SemS.assign 2 (SemE.call G rfl (by rfl) rfl (by rfl) (s341.ok prog w h0 G).1 (by decide) (SemA.cons (SemE.call G rfl (by rfl) rfl (by rfl) (s348.ok prog w h0 G).1 (by decide) (SemA.cons (SemE.var 1 rfl rfl rfl) SemA.nil)) SemA.nil)) rfl rfl)
    (SemB.cons (SemS.ite (SemT.or (SemT.cmp1 (by decide) (SemE.call G rfl (by rfl) rfl (by rfl) (s108.ok prog w h0 G).1 (by decide) (SemA.cons (SemE.var 1 rfl rfl rfl) SemA.nil)) (SemE.call G rfl (by rfl) rfl (by rfl) (s341.ok prog w h0 G).1 (by decide) (SemA.cons (SemE.var 1 rfl rfl rfl) SemA.nil)) rfl) (SemT.or (SemT.cmp1 (by decide) (SemE.call G rfl (by rfl) rfl (by rfl) (s129.ok prog w h0 G).1 (by decide) (SemA.cons (SemE.call G rfl (by rfl) rfl (by rfl) (s108.ok prog w h0 G).1 (by decide) (SemA.cons (SemE.var 1 rfl rfl rfl) SemA.nil)) SemA.nil)) (SemE.var 1 rfl rfl rfl) rfl) SemT.orNil)) (SemB.one (SemS.ret SemE.boolc)) SemB.nil)
    (SemB.cons (SemS.ite (SemT.or (SemT.cmp1 (by decide) (SemE.call G rfl (by rfl) rfl (by rfl) (s215.ok prog w h0 G).1 (by decide) (SemA.cons (SemE.var 1 rfl rfl rfl) SemA.nil)) (SemE.var 2 rfl rfl rfl) rfl) (SemT.or (SemT.cmp1 (by decide) (SemE.call G rfl (by rfl) rfl (by rfl) (s222.ok prog w h0 G).1 (by decide) (SemA.cons (SemE.var 2 rfl rfl rfl) SemA.nil)) (SemE.var 1 rfl rfl rfl) rfl) SemT.orNil)) (SemB.one (SemS.ret SemE.boolc)) SemB.nil)
    (SemB.cons (SemS.ite (SemT.and (SemT.cmp1 (by decide) (SemE.var 2 rfl rfl rfl) (SemE.call G rfl (by rfl) rfl (by rfl) (s341.ok prog w h0 G).1 (by decide) (SemA.cons (SemE.var 1 rfl rfl rfl) SemA.nil)) rfl) (SemT.and (SemT.cmp1 (by decide) (SemE.list (SemA.cons (SemE.call G rfl (by rfl) rfl (by rfl) (s308.ok prog w h0 G).1 (by decide) (SemA.cons (SemE.glob (d := .obj 222) G rfl (by rfl) rfl (by unfold Rep; rfl)) (SemA.cons (SemE.call G rfl (by rfl) rfl (by rfl) (s341.ok prog w h0 G).1 (by decide) (SemA.cons (SemE.var 1 rfl rfl rfl) SemA.nil)) SemA.nil))) (SemA.cons (SemE.call G rfl (by rfl) rfl (by rfl) (s308.ok prog w h0 G).1 (by decide) (SemA.cons (SemE.glob (d := .obj 250) G rfl (by rfl) rfl (by unfold Rep; rfl)) (SemA.cons (SemE.var 2 rfl rfl rfl) SemA.nil))) SemA.nil))) (SemE.bin (SemE.list (SemA.cons SemE.nonec SemA.nil)) SemE.int) rfl) SemT.andNil)) (SemB.one (SemS.ret SemE.boolc)) SemB.nil)
    (SemB.cons (SemS.ite (SemT.not (SemT.plain (SemE.call G rfl (by rfl) rfl (by rfl) (s367.ok prog w h0 G).1 (by decide) (SemA.cons (SemE.var 0 rfl rfl rfl) (SemA.cons (SemE.var 1 rfl rfl rfl) SemA.nil))))) (SemB.one (SemS.ret SemE.boolc)) SemB.nil)
    (SemB.cons (SemS.swapped (NamesAt.cons (i := 3) rfl rfl (NamesAt.cons (i := 4) rfl rfl NamesAt.nil)) (SemE.tuple (SemA.cons (SemE.call G rfl (by rfl) rfl (by rfl) (s355.ok prog w h0 G).1 (by decide) (SemA.cons (SemE.var 0 rfl rfl rfl) SemA.nil)) (SemA.cons (SemE.call G rfl (by rfl) rfl (by rfl) (s243.ok prog w h0 G).1 (by decide) (SemA.cons (SemE.var 0 rfl rfl rfl) SemA.nil)) SemA.nil))) (hw := (fun env h => by obtain ⟨sc, _⟩ := env; cases h; rfl)))
    (SemB.cons (SemS.ite (SemT.or (SemT.cmp1 (by decide) (SemE.var 4 rfl rfl rfl) (SemE.call G rfl (by rfl) rfl (by rfl) (s341.ok prog w h0 G).1 (by decide) (SemA.cons (SemE.var 3 rfl rfl rfl) SemA.nil)) rfl) (SemT.or (SemT.cmp1 (by decide) (SemE.call G rfl (by rfl) rfl (by rfl) (s250.ok prog w h0 G).1 (by decide) (SemA.cons (SemE.var 4 rfl rfl rfl) SemA.nil)) (SemE.var 3 rfl rfl rfl) rfl) SemT.orNil)) (SemB.one (SemS.ret SemE.boolc)) SemB.nil)
    (SemB.cons (SemS.assign 5 (SemE.call G rfl (by rfl) rfl (by rfl) (s348.ok prog w h0 G).1 (by decide) (SemA.cons (SemE.var 0 rfl rfl rfl) SemA.nil)) rfl rfl)
    (SemB.cons (SemS.assign 6 (SemE.join (SemE.comp0 1 (SemI.seq (SemE.var 5 rfl rfl rfl)) SemF.nil (SemE.ife (SemT.cmp1 (by decide) (SemE.var 1 rfl rfl rfl) SemE.int rfl) SemE.bytesc (SemE.call G rfl (by rfl) rfl (by rfl) (s341.ok prog w h0 G).1 (by decide) (SemA.cons (SemE.list (SemA.cons (SemE.var 1 rfl rfl rfl) SemA.nil)) SemA.nil))) ⟨fun env h => (by obtain ⟨sc, _⟩ := env; cases h; rfl), (by decide), rfl, (by decide), rfl, rfl, rfl, (by decide)⟩ (fun env h => by obtain ⟨sc, _⟩ := env; cases h; rfl)) rfl) rfl rfl)
    (SemB.one (SemS.ret (SemE.and (SemE.cmp1 (by decide) (SemE.call G rfl (by rfl) rfl (by rfl) (s229.ok prog w h0 G).1 (by decide) (SemA.cons (SemE.var 0 rfl rfl rfl) SemA.nil)) (SemE.var 6 rfl rfl rfl) rfl) (SemE.bool1 (SemE.cmp1 (by decide) (SemE.call G rfl (by rfl) rfl (by rfl) (s236.ok prog w h0 G).1 (by decide) (SemA.cons (SemE.var 6 rfl rfl rfl) SemA.nil)) (SemE.call G rfl (by rfl) rfl (by rfl) (s355.ok prog w h0 G).1 (by decide) (SemA.cons (SemE.var 5 rfl rfl rfl) SemA.nil)) rfl)))))))))))))))
  (by rfl) rfl rfl (fun s vs X h => binds1 (fun a => .of_eq rfl) vs h) rfl (by decide) (by decide) (by decide) (by decide) rfl rfl rfl, by rfl⟩⟩

/-- law -/
noncomputable def s377 (F : FeedF) (hF : ∀ prog w h0, Gd w h0 → FeedSpec prog w h0 31 F) : Sp 377 34 := ⟨_, fun prog w h0 G => ⟨call_spec (H := 33) ["script"] [0] G (by rfl) rfl
  (SemB.cons (SemS.comp0 1 1 (SemI.seq (SemE.slice (SemE.var 0 rfl rfl rfl) SemP.none (SemP.some SemE.int))) SemF.nil (SemE.bin (SemE.callB (v := .type "int") G (.inr ⟨_, rfl⟩) rfl (by rfl) (by boot_fast) (by decide) rfl int_ok (SemA.cons (SemE.var 1 rfl rfl rfl) SemA.nil)) SemE.int) ⟨fun env h => (by obtain ⟨sc, _⟩ := env; cases h; rfl), (by decide), rfl, (by decide), rfl, rfl, rfl, (by decide)⟩ (fun env h => by obtain ⟨sc, _⟩ := env; cases h; rfl) rfl rfl (fun env h => by obtain ⟨sc, _⟩ := env; cases h; rfl))
    (SemB.cons (SemS.assign 2 (SemE.callB (v := .type "bytes") G (.inr ⟨_, rfl⟩) rfl (by rfl) (by boot_fast) (by decide) rfl bytes_ok (SemA.cons (SemE.comp0 1 (SemI.seq (SemE.var 1 rfl rfl rfl)) SemF.nil (SemE.item (SemE.glob (d := .list ([65, 127, 128, 143, 144, 159, 160, 191, 192, 193, 194, 223, 224, 225, 237, 239, 240, 241, 244, 245, 255, 0, 236, 238, 243].map .int)) G rfl (by rfl) rfl (rep_globs (by rfl) (by rfl))) (SemE.bin (SemE.var 1 rfl rfl rfl) SemE.int)) ⟨fun env h => (by obtain ⟨sc, _⟩ := env; cases h; rfl), (by decide), rfl, (by decide), rfl, rfl, rfl, (by decide)⟩ (fun env h => by obtain ⟨sc, _⟩ := env; cases h; rfl)) SemA.nil)) rfl rfl)
    (SemB.cons (SemS.comp0 1 3 (SemI.seq (SemE.slice (SemE.var 1 rfl rfl rfl) SemP.none (SemP.some SemE.int))) SemF.nil (SemE.item (SemE.glob (d := .list ([0, 65, 127, 128, 2047, 2048, 55295, 55296, 56319, 56320, 57343, 57344, 65535, 65536, 128512, 1114111].map .int)) G rfl (by rfl) rfl (rep_globs (by rfl) (by rfl))) (SemE.bin (SemE.bin (SemE.var 1 rfl rfl rfl) SemE.int) SemE.int)) ⟨fun env h => (by obtain ⟨sc, _⟩ := env; cases h; rfl), (by decide), rfl, (by decide), rfl, rfl, rfl, (by decide)⟩ (fun env h => by obtain ⟨sc, _⟩ := env; cases h; rfl) rfl rfl (fun env h => by obtain ⟨sc, _⟩ := env; cases h; rfl))
    (SemB.cons (SemS.assign 4 (SemE.bin SemE.int (SemE.bin (SemE.callB (v := .builtin "sum") G (.inl ⟨_, rfl⟩) rfl (by rfl) (by boot_fast) (by decide) rfl sum_ok (SemA.cons (SemE.var 1 rfl rfl rfl) SemA.nil)) SemE.int)) rfl rfl)
    (SemB.cons (SemS.ite (SemT.or (SemT.not (SemT.plain (SemE.call G rfl (by rfl) rfl (by rfl) ((s327 F hF).ok prog w h0 G).1 (by decide) (SemA.cons (SemE.var 2 rfl rfl rfl) (SemA.cons (SemE.var 4 rfl rfl rfl) SemA.nil))))) (SemT.or (SemT.not (SemT.plain (SemE.call G rfl (by rfl) rfl (by rfl) (s372.ok prog w h0 G).1 (by decide) (SemA.cons (SemE.var 3 rfl rfl rfl) SemA.nil)))) SemT.orNil)) (SemB.one (SemS.ret SemE.boolc)) SemB.nil)
    (SemB.one (SemS.ret (SemE.call G rfl (by rfl) rfl (by rfl) ((s327 F hF).ok prog w h0 G).1 (by decide) (SemA.cons (SemE.bin (SemE.slice (SemE.call G rfl (by rfl) rfl (by rfl) (s341.ok prog w h0 G).1 (by decide) (SemA.cons (SemE.call G rfl (by rfl) rfl (by rfl) (s355.ok prog w h0 G).1 (by decide) (SemA.cons (SemE.var 3 rfl rfl rfl) SemA.nil)) SemA.nil)) (SemP.some SemE.int) (SemP.some SemE.int)) (SemE.slice (SemE.var 2 rfl rfl rfl) SemP.none (SemP.some SemE.int))) (SemA.cons (SemE.var 4 rfl rfl rfl) SemA.nil))))))))))
  (by rfl) rfl rfl (fun s vs X h => binds1 (fun a => .of_eq rfl) vs h) rfl (by decide) (by decide) (by decide) (by decide) rfl rfl rfl, by rfl⟩⟩

end Mine
end
section
set_option Elab.async false
namespace Mine
/-! the plain law: octets -/
noncomputable def manyP (b : Nat) : Nat := if b < 128 then 1 else if b < 194 ∨ 244 < b then 0 else if b < 224 then 2 else if b < 240 then 3 else 4
noncomputable def loP (b : Nat) : Nat := if b = 224 then 160 else if b = 240 then 144 else 128
noncomputable def hiP (b : Nat) : Nat := if b = 237 then 159 else if b = 244 then 143 else 191
/-- how many trail octets are taken -/
noncomputable def takes : Nat → Nat → Nat → List UInt8 → Nat
  | 0, _, _, _ => 0
  | _ + 1, _, _, [] => 0
  | n + 1, lo, hi, b :: r => if lo ≤ b.toNat ∧ b.toNat ≤ hi then 1 + takes n 128 191 r else 0
noncomputable def cutN : List UInt8 → Nat
  | [] => 0
  | b :: r => 1 + takes (manyP b.toNat - 1) (loP b.toNat) (hiP b.toNat) r
noncomputable def whole : List UInt8 → Bool
  | [] => false
  | b :: r => cutN (b :: r) == manyP b.toNat
noncomputable def isLead : List UInt8 → Bool
  | [] => false
  | b :: _ => manyP b.toNat != 0
theorem cutN_cons {b : UInt8} {r : List UInt8} : cutN (b :: r) = 1 + takes (manyP b.toNat - 1) (loP b.toNat) (hiP b.toNat) r := rfl
theorem whole_cons {b : UInt8} {r : List UInt8} : whole (b :: r) = (cutN (b :: r) == manyP b.toNat) := rfl
theorem take_pre {α : Type} {a b c : List α} (h : a = b ++ c) : a.take b.length = b := by subst h; simp
theorem takes_le : ∀ (n lo hi : Nat) (r : List UInt8), takes n lo hi r ≤ n ∧ takes n lo hi r ≤ r.length
  | 0, _, _, _ => by simp [takes]
  | _ + 1, _, _, [] => by simp [takes]
  | n + 1, lo, hi, b :: r => by
    have := takes_le n 128 191 r
    simp only [takes, List.length_cons]
    split <;> omega
theorem takes_take : ∀ (n lo hi m : Nat) (r : List UInt8), takes n lo hi r ≤ m → takes n lo hi (r.take m) = takes n lo hi r
  | 0, _, _, _, _, _ => by simp [takes]
  | _ + 1, _, _, m, [], _ => by simp [takes]
  | n + 1, lo, hi, 0, b :: r, h => by
    simp only [takes] at h
    split at h
    · omega
    · rename_i x
      simp only [takes, List.take_zero, if_neg x]
  | n + 1, lo, hi, m + 1, b :: r, h => by
    simp only [takes, List.take_succ_cons] at h ⊢
    split
    · rename_i x
      rw [if_pos x] at h
      rw [takes_take n 128 191 m r (by omega)]
    · rfl
theorem takes_app : ∀ (n lo hi : Nat) (r x : List UInt8), takes n lo hi r = n ∨ takes n lo hi r < r.length → takes n lo hi (r ++ x) = takes n lo hi r
  | 0, _, _, _, _, _ => by simp [takes]
  | _ + 1, _, _, [], _, h => by simp [takes] at h
  | n + 1, lo, hi, b :: r, x, h => by
    simp only [takes, List.cons_append, List.length_cons] at h ⊢
    split
    · rename_i y
      rw [if_pos y] at h
      rw [takes_app n 128 191 r x (by omega)]
    · rfl
theorem cutN_pos {b : UInt8} {r : List UInt8} : 0 < cutN (b :: r) := by simp [cutN]; omega
theorem cutN_pos' {l : List UInt8} (h : l ≠ []) : 0 < cutN l := by
  cases l with
  | nil => exact absurd rfl h
  | cons b r => exact cutN_pos
theorem cutN_le (l : List UInt8) : cutN l ≤ l.length := by
  cases l with
  | nil => simp [cutN]
  | cons b r => have := takes_le (manyP b.toNat - 1) (loP b.toNat) (hiP b.toNat) r; simp [cutN]; omega
theorem manyP_le (b : Nat) : manyP b ≤ 4 := by unfold manyP; repeat' split
                                               all_goals omega
theorem cutN_four (l : List UInt8) : cutN l ≤ 4 := by
  cases l with
  | nil => simp [cutN]
  | cons b r => have := takes_le (manyP b.toNat - 1) (loP b.toNat) (hiP b.toNat) r; have := manyP_le b.toNat; simp [cutN]; omega
/-- a cut is told by its own octets -/
theorem cut_take {l : List UInt8} {n : Nat} (h : cutN l ≤ n) : cutN (l.take n) = cutN l ∧ whole (l.take n) = whole l ∧ isLead (l.take n) = isLead l := by
  cases l with
  | nil => simp
  | cons b r =>
    have hp := @cutN_pos b r
    cases n with
    | zero => omega
    | succ n =>
      have : cutN ((b :: r).take (n + 1)) = cutN (b :: r) := by
        rw [List.take_succ_cons]
        rw [cutN_cons] at h
        rw [cutN_cons, cutN_cons, takes_take _ _ _ _ _ (by omega)]
      refine ⟨this, ?_, rfl⟩
      rw [List.take_succ_cons] at this ⊢
      rw [whole_cons, whole_cons, this]
/-- a piece that can still be turned -/
noncomputable def open_ (l : List UInt8) : Bool := isLead l && !whole l && cutN l == l.length
theorem cut_app {l x : List UInt8} (hl : l ≠ []) (h : open_ l = false) : cutN (l ++ x) = cutN l ∧ whole (l ++ x) = whole l ∧ isLead (l ++ x) = isLead l := by
  cases l with
  | nil => exact absurd rfl hl
  | cons b r =>
    have := takes_le (manyP b.toNat - 1) (loP b.toNat) (hiP b.toNat) r
    have h' : takes (manyP b.toNat - 1) (loP b.toNat) (hiP b.toNat) r = manyP b.toNat - 1 ∨ takes (manyP b.toNat - 1) (loP b.toNat) (hiP b.toNat) r < r.length := by
      simp only [open_, isLead, whole, cutN, List.length_cons, Bool.and_eq_false_iff, bne_eq_false_iff_eq, Bool.not_eq_false', beq_iff_eq, beq_eq_false_iff_ne] at h
      omega
    have e : cutN (b :: r ++ x) = cutN (b :: r) := by
      rw [List.cons_append, cutN_cons, cutN_cons, takes_app _ _ _ _ _ h']
    refine ⟨e, ?_, rfl⟩
    rw [List.cons_append] at e ⊢
    rw [whole_cons, whole_cons, e]
/-- the octets behind a lead -/
noncomputable def fold (c : Nat) (r : List UInt8) : Nat := r.foldl (fun c o => c * 64 + (o.toNat - 128)) c
noncomputable def codeB : List UInt8 → Nat
  | [] => 0
  | b :: r => fold (b.toNat - [0, 0, 192, 224, 240].getD (cutN (b :: r)) 0) (r.take (cutN (b :: r) - 1))
theorem codeB_cons {b : UInt8} {r : List UInt8} : codeB (b :: r) = fold (b.toNat - [0, 0, 192, 224, 240].getD (cutN (b :: r)) 0) (r.take (cutN (b :: r) - 1)) := rfl
noncomputable def val (p : List UInt8) : Int := if whole p then (codeB p : Int) else 65533
noncomputable def pieces : Nat → List UInt8 → List (List UInt8)
  | 0, _ => []
  | _ + 1, [] => []
  | n + 1, b :: r => (b :: r).take (cutN (b :: r)) :: pieces n ((b :: r).drop (cutN (b :: r)))
theorem pieces_fuel : ∀ (n m : Nat) (l : List UInt8), l.length ≤ n → l.length ≤ m → pieces n l = pieces m l
  | 0, m, [], _, _ => by cases m <;> rfl
  | 0, _, _ :: _, h, _ => by simp at h
  | _ + 1, 0, [], _, _ => rfl
  | _ + 1, 0, _ :: _, _, h => by simp at h
  | _ + 1, _ + 1, [], _, _ => rfl
  | n + 1, m + 1, b :: r, h, h' => by
    simp only [pieces]
    rw [pieces_fuel n m _ _ _]
    · have := @cutN_pos b r; rw [List.length_drop]; simp only [List.length_cons] at h ⊢; omega
    · have := @cutN_pos b r; rw [List.length_drop]; simp only [List.length_cons] at h' ⊢; omega
noncomputable def pcs (l : List UInt8) : List (List UInt8) := pieces l.length l
theorem pcs_nil : pcs [] = [] := rfl
theorem pcs_cons {l : List UInt8} (h : l ≠ []) : pcs l = l.take (cutN l) :: pcs (l.drop (cutN l)) := by
  cases l with
  | nil => exact absurd rfl h
  | cons b r =>
    unfold pcs
    rw [List.length_cons]
    simp only [pieces]
    rw [pieces_fuel r.length _ _ _ (Nat.le_refl _)]
    have := @cutN_pos b r
    rw [List.length_drop, List.length_cons]
    omega
theorem pcs_ind {P : List UInt8 → Prop} (h0 : P []) (h1 : ∀ l, l ≠ [] → P (l.drop (cutN l)) → P l) : ∀ l, P l := by
  intro l
  induction hn : l.length using Nat.strongRecOn generalizing l with
  | ind n ih =>
    cases hl : l with
    | nil => exact h0
    | cons b r =>
      refine h1 _ (by simp) ?_
      refine ih _ ?_ _ rfl
      subst hn
      rw [hl, List.length_drop]
      have := @cutN_pos b r
      simp only [List.length_cons]
      omega
theorem pcs_flat (l : List UInt8) : (pcs l).flatten = l := by
  induction l using pcs_ind with
  | h0 => rfl
  | h1 l h ih => rw [pcs_cons h, List.flatten_cons, ih, List.take_append_drop]
noncomputable def read (l : List UInt8) : List Int := (pcs l).map val
noncomputable def allW (l : List UInt8) : Bool := (pcs l).all whole
/-- the octets that wait at the end -/
noncomputable def waits : List (List UInt8) → Nat
  | [] => 0
  | [p] => if isLead p && !whole p then p.length else 0
  | _ :: q :: ps => waits (q :: ps)
theorem val_take {l : List UInt8} : whole (l.take (cutN l)) = whole l ∧ isLead (l.take (cutN l)) = isLead l ∧ cutN (l.take (cutN l)) = cutN l := by
  obtain ⟨a, b, c⟩ := @cut_take l (cutN l) (Nat.le_refl _)
  exact ⟨b, c, a⟩
theorem codeB_take (l : List UInt8) : codeB (l.take (cutN l)) = codeB l := by
  cases l with
  | nil => rfl
  | cons b r =>
    have hc := (@val_take (b :: r)).2.2
    have hp := @cutN_pos b r
    have e : (b :: r).take (cutN (b :: r)) = b :: r.take (cutN (b :: r) - 1) := by
      obtain ⟨k, hk⟩ : ∃ k, cutN (b :: r) = k + 1 := ⟨cutN (b :: r) - 1, by omega⟩
      rw [hk, List.take_succ_cons, Nat.add_sub_cancel]
    rw [e] at hc ⊢
    rw [codeB_cons, codeB_cons, hc, List.take_take, Nat.min_self]
theorem val_cut (l : List UInt8) : val (l.take (cutN l)) = val l := by
  unfold val
  rw [val_take.1, codeB_take]
/-- the run of a stream: pieces as long as the head can't be turned any more -/
noncomputable def run : Nat → List UInt8 → List (List UInt8) × List UInt8
  | 0, l => ([], l)
  | _ + 1, [] => ([], [])
  | n + 1, b :: r => if open_ (b :: r) then ([], b :: r) else
      let q := run n ((b :: r).drop (cutN (b :: r)))
      ((b :: r).take (cutN (b :: r)) :: q.1, q.2)
theorem run_fuel : ∀ (n m : Nat) (l : List UInt8), l.length ≤ n → l.length ≤ m → run n l = run m l
  | 0, m, [], _, _ => by cases m <;> rfl
  | 0, _, _ :: _, h, _ => by simp at h
  | _ + 1, 0, [], _, _ => rfl
  | _ + 1, 0, _ :: _, _, h => by simp at h
  | _ + 1, _ + 1, [], _, _ => rfl
  | n + 1, m + 1, b :: r, h, h' => by
    simp only [run]
    rw [run_fuel n m _ _ _]
    · have := @cutN_pos b r; rw [List.length_drop]; simp only [List.length_cons] at h ⊢; omega
    · have := @cutN_pos b r; rw [List.length_drop]; simp only [List.length_cons] at h' ⊢; omega
noncomputable def rn (l : List UInt8) : List (List UInt8) × List UInt8 := run l.length l
theorem rn_nil : rn [] = ([], []) := rfl
theorem rn_open {l : List UInt8} (h : open_ l = true) : rn l = ([], l) := by
  cases l with
  | nil => rfl
  | cons b r => unfold rn; rw [List.length_cons]; simp only [run, h, if_true]
theorem rn_cons {l : List UInt8} (h : l ≠ []) (ho : open_ l = false) : rn l = (l.take (cutN l) :: (rn (l.drop (cutN l))).1, (rn (l.drop (cutN l))).2) := by
  cases l with
  | nil => exact absurd rfl h
  | cons b r =>
    unfold rn
    rw [List.length_cons]
    simp only [run, ho, Bool.false_eq_true, if_false]
    rw [run_fuel r.length _ _ _ (Nat.le_refl _)]
    have := @cutN_pos b r
    rw [List.length_drop, List.length_cons]
    omega
/-- what is left behind a run is open, or nothing -/
theorem rn_rest (l : List UInt8) : (rn l).2 = [] ∨ open_ (rn l).2 = true := by
  induction l using pcs_ind with
  | h0 => exact .inl rfl
  | h1 l h ih =>
    cases ho : open_ l with
    | true => rw [rn_open ho]; exact .inr ho
    | false => rw [rn_cons h ho]; exact ih
theorem rn_split (l : List UInt8) : l = (rn l).1.flatten ++ (rn l).2 := by
  induction l using pcs_ind with
  | h0 => rfl
  | h1 l h ih =>
    cases ho : open_ l with
    | true => rw [rn_open ho]; rfl
    | false =>
      rw [rn_cons h ho]
      simp only [List.flatten_cons, List.append_assoc]
      rw [← ih, List.take_append_drop]
theorem rn_app (l x : List UInt8) : rn (l ++ x) = ((rn l).1 ++ (rn ((rn l).2 ++ x)).1, (rn ((rn l).2 ++ x)).2) := by
  induction l using pcs_ind with
  | h0 => simp [rn_nil]
  | h1 l h ih =>
    cases ho : open_ l with
    | true => rw [rn_open ho]; rfl
    | false =>
      obtain ⟨c1, c2, c3⟩ := cut_app (x := x) h ho
      have hc := cutN_le l
      have ho' : open_ (l ++ x) = false := by
        unfold open_
        rw [c1, c2, c3, List.length_append]
        unfold open_ at ho
        cases hh : isLead l && !whole l with
        | false => rfl
        | true =>
          rw [hh] at ho
          simp at ho ⊢
          omega
      rw [rn_cons h ho, rn_cons (by simp [h]) ho', c1, List.drop_append_of_le_length hc, ih, List.take_append_of_le_length hc]
      rfl
/-- a run's pieces are the pieces of what they hold -/
theorem pcs_run (l : List UInt8) : pcs (rn l).1.flatten = (rn l).1 ∧ pcs l = (rn l).1 ++ (if (rn l).2 = [] then [] else [(rn l).2]) := by
  induction l using pcs_ind with
  | h0 => exact ⟨rfl, rfl⟩
  | h1 l h ih =>
    cases ho : open_ l with
    | true =>
      rw [rn_open ho]
      refine ⟨rfl, ?_⟩
      have hc : cutN l = l.length := by simp [open_] at ho; exact ho.2
      rw [pcs_cons h, hc, List.drop_length, List.take_length, pcs_nil, if_neg h]
      rfl
    | false =>
      rw [rn_cons h ho]
      dsimp only
      refine ⟨?_, ?_⟩
      · have hc := cutN_le l
        have hlen : (l.take (cutN l)).length = cutN l := by rw [List.length_take]; omega
        have e : (l.take (cutN l) :: (rn (l.drop (cutN l))).1).flatten = l.take (cutN l + (rn (l.drop (cutN l))).1.flatten.length) := by
          rw [List.flatten_cons]
          rw [List.take_add, take_pre (rn_split (l.drop (cutN l)))]
        have hk := @cut_take l (cutN l + (rn (l.drop (cutN l))).1.flatten.length) (by omega)
        rw [pcs_cons (l := (l.take (cutN l) :: (rn (l.drop (cutN l))).1).flatten) (by
          rw [List.flatten_cons]; intro hh
          have := congrArg List.length hh
          have := cutN_pos' h
          simp only [List.length_append, hlen, List.length_nil] at *
          omega)]
        have e2 : cutN (l.take (cutN l) :: (rn (l.drop (cutN l))).1).flatten = cutN l := by rw [e]; exact hk.1
        rw [e2, List.flatten_cons, List.take_left' hlen, List.drop_left' hlen, ih.1]
      · rw [pcs_cons h, ih.2]
        rfl
theorem read_run (l : List UInt8) : read (rn l).1.flatten = (rn l).1.map val ∧ read l = (rn l).1.map val ++ (if (rn l).2 = [] then [] else [65533]) := by
  obtain ⟨a, b⟩ := pcs_run l
  unfold read
  refine ⟨by rw [a], ?_⟩
  rw [b, List.map_append]
  rcases rn_rest l with h | h
  · rw [h]; rfl
  · split
    · rfl
    · have hw : whole (rn l).2 = false := by simp [open_] at h; exact h.1.2
      simp [val, hw]
theorem allW_run (l : List UInt8) : allW l = ((rn l).1.all whole && (rn l).2.isEmpty) := by
  unfold allW
  rw [(pcs_run l).2, List.all_append]
  rcases rn_rest l with h | h
  · rw [h]; rfl
  · have hw : whole (rn l).2 = false := by simp [open_] at h; exact h.1.2
    have hn : (rn l).2 ≠ [] := by intro e; rw [e] at h; simp [open_, isLead] at h
    rw [if_neg hn]
    cases hh : (rn l).2 with
    | nil => exact absurd hh hn
    | cons b r => rw [hh] at hw; simp [hw]
theorem waits_append {ps : List (List UInt8)} {p : List UInt8} : waits (ps ++ [p]) = if isLead p && !whole p then p.length else 0 := by
  induction ps with
  | nil => rfl
  | cons q ps ih =>
    cases ps with
    | nil => exact ih
    | cons _ _ => exact ih
theorem waits_run (l : List UInt8) : waits (pcs l) = (rn l).2.length := by
  induction l using pcs_ind with
  | h0 => rfl
  | h1 l h ih =>
    cases ho : open_ l with
    | true =>
      rw [rn_open ho]
      have hc : cutN l = l.length := by simp [open_] at ho; exact ho.2
      have hw : isLead l = true ∧ whole l = false := by simp [open_] at ho; exact ho.1
      rw [pcs_cons h, hc, List.drop_length, List.take_length, pcs_nil]
      simp [waits, hw]
    | false =>
      rw [rn_cons h ho, pcs_cons h]
      dsimp only
      cases hd : l.drop (cutN l) with
      | nil =>
        rw [pcs_nil, rn_nil]
        simp only [waits, List.length_nil]
        have hc : cutN l = l.length := by
          have := congrArg List.length hd
          have := cutN_le l
          rw [List.length_drop] at *
          simp at *
          omega
        rw [hc, List.take_length]
        simp only [open_, hc, beq_self_eq_true, Bool.and_true] at ho
        rw [if_neg (by rw [ho]; decide)]
      | cons b r =>
        rw [← hd, ← ih, pcs_cons (l := l.drop (cutN l)) (by rw [hd]; simp)]
        rfl
theorem read_cons {l : List UInt8} (h : l ≠ []) : read l = val l :: read (l.drop (cutN l)) := by
  unfold read
  rw [pcs_cons h, List.map_cons, val_cut]
theorem allW_cons {l : List UInt8} (h : l ≠ []) : allW l = (whole l && allW (l.drop (cutN l))) := by
  unfold allW
  rw [pcs_cons h, List.all_cons, val_take.1]
theorem read_len (l : List UInt8) : (read l).length ≤ l.length := by
  induction l using pcs_ind with
  | h0 => exact Nat.le_refl _
  | h1 l h ih =>
    rw [read_cons h, List.length_cons]
    rw [List.length_drop] at ih
    have := cutN_pos' h
    have := cutN_le l
    omega
/-- a decoder, by steps -/
noncomputable def dec (step : List UInt8 → Option (Nat × Int)) : Nat → List UInt8 → Option (List Int)
  | _, [] => some []
  | 0, _ :: _ => none
  | n + 1, b :: r => match step (b :: r) with
    | none => none
    | some (k, c) => (dec step n ((b :: r).drop k)).map (c :: ·)
theorem dec_fuel (step : List UInt8 → Option (Nat × Int)) (hpos : ∀ s k c, step s = some (k, c) → 0 < k) : ∀ (n m : Nat) (l : List UInt8), l.length ≤ n → l.length ≤ m → dec step n l = dec step m l
  | 0, m, [], _, _ => by cases m <;> rfl
  | 0, _, _ :: _, h, _ => by simp at h
  | _ + 1, 0, [], _, _ => rfl
  | _ + 1, 0, _ :: _, _, h => by simp at h
  | _ + 1, _ + 1, [], _, _ => rfl
  | n + 1, m + 1, b :: r, h, h' => by
    simp only [dec]
    cases hs : step (b :: r) with
    | none => rfl
    | some p =>
      obtain ⟨k, c⟩ := p
      have := hpos _ _ _ hs
      dsimp only
      rw [dec_fuel step hpos n m _ _ _]
      · rw [List.length_drop]; simp only [List.length_cons] at h ⊢; omega
      · rw [List.length_drop]; simp only [List.length_cons] at h' ⊢; omega
noncomputable def stepS (l : List UInt8) : Option (Nat × Int) := if whole l then some (cutN l, (codeB l : Int)) else none
noncomputable def stepR (l : List UInt8) : Option (Nat × Int) := match l with
  | [] => none
  | b :: r => some (cutN (b :: r), val (b :: r))
theorem dec_S : ∀ (n : Nat) (l : List UInt8), l.length ≤ n → dec stepS n l = if allW l then some (read l) else none
  | 0, [], _ => rfl
  | _ + 1, [], _ => rfl
  | 0, _ :: _, h => by simp at h
  | n + 1, b :: r, h => by
    have hn : b :: r ≠ [] := by simp
    have := @cutN_pos b r
    simp only [dec]
    rw [allW_cons hn, read_cons hn]
    have e1 : stepS (b :: r) = if whole (b :: r) then some (cutN (b :: r), (codeB (b :: r) : Int)) else none := rfl
    have e2 : val (b :: r) = if whole (b :: r) then (codeB (b :: r) : Int) else 65533 := rfl
    rw [e1, e2]
    cases hw : whole (b :: r) with
    | false => simp
    | true =>
      simp only [if_true, Bool.true_and]
      rw [dec_S n _ (by rw [List.length_drop]; simp only [List.length_cons] at h ⊢; omega)]
      split <;> rfl
theorem dec_R : ∀ (n : Nat) (l : List UInt8), l.length ≤ n → dec stepR n l = some (read l)
  | 0, [], _ => rfl
  | _ + 1, [], _ => rfl
  | 0, _ :: _, h => by simp at h
  | n + 1, b :: r, h => by
    have hn : b :: r ≠ [] := by simp
    have := @cutN_pos b r
    simp only [dec, stepR]
    rw [read_cons hn, dec_R n _ (by rw [List.length_drop]; simp only [List.length_cons] at h ⊢; omega)]
    rfl
end Mine
end
section
set_option Elab.async false
set_option maxRecDepth 100000
set_option linter.unusedSimpArgs false
open PySem PySem.W PyProof.Rows PySem.SeqAt PySem.Spec
set_option linter.unusedSimpArgs false
open PySem PySem.W PyProof.Rows PySem.SeqAt PySem.Spec
namespace Mine
/-! the reading of the walk's terms -/
section
variable {α β γ : Type}
theorem m_sassoc (a b c : SM) : (a.seq b).seq c = a.seq (b.seq c) := by
  funext ρ
  unfold SM.seq
  cases a ρ with
  | none => rfl
  | some x => cases x <;> rfl
theorem m_seq_put (i : Nat) (d : Dat) (b : SM) (ρ : St) : (SM.put i d).seq b ρ = if ρ.free i then b (ρ.put i d) else none := by
  unfold SM.seq SM.put; split <;> simp_all
theorem m_put_ap (i : Nat) (d : Dat) (ρ : St) : SM.put i d ρ = if ρ.free i then some (.next (ρ.put i d)) else none := (rfl)
theorem m_seq_next (b : SM) : SM.next.seq b = b := (rfl)
theorem m_retOwn (i : Nat) (ρ : St) : SM.retOwn i ρ = match ρ.own with
    | some (j, ds) => if j = i then some (.ret (.list ds)) else none
    | none => none := rfl
noncomputable def after (k : SM) : Option Out → Option Out
  | some (.next ρ) => k ρ
  | some (.brk ρ) => some (.next ρ)
  | some (.ret d) => some (.ret d)
  | some (.raise C) => some (.raise C)
  | none => none
theorem after_next (k : SM) (ρ : St) : after k (some (.next ρ)) = k ρ := (rfl)
theorem after_brk (k : SM) (ρ : St) : after k (some (.brk ρ)) = some (.next ρ) := (rfl)
theorem after_ret (k : SM) (d : Dat) : after k (some (.ret d)) = some (.ret d) := (rfl)
theorem after_raise (k : SM) (C : Addr) : after k (some (.raise C)) = some (.raise C) := (rfl)
theorem forM_cons (τ : Dat → SM) (β : SM) (d : Dat) (ds : List Dat) (ρ : St) : forM τ β (d :: ds) ρ = after (forM τ β ds) (SM.seq (τ d) β ρ) := by
  have e : forM τ β (d :: ds) ρ = (match SM.seq (τ d) β ρ with
    | some (.next ρ') => forM τ β ds ρ'
    | some (.brk ρ') => some (.next ρ')
    | o => o) := rfl
  rw [e]
  cases SM.seq (τ d) β ρ with
  | none => rfl
  | some x => cases x <;> rfl
theorem forM_put {i : Nat} {d : Dat} {ds : List Dat} {β : SM} {ρ : St} (hf : ρ.free i = true) : forM (SM.put i) β (d :: ds) ρ = after (forM (SM.put i) β ds) (β (ρ.put i d)) := by
  rw [forM_cons, m_seq_put, if_pos hf]
theorem whileM_succ (τ : EM Bool) (β : SM) (n : Nat) : whileM τ β (n + 1) = SM.ofE τ fun b => if b = true then fun ρ => after (whileM τ β n) (β ρ) else SM.next := by
  funext ρ
  have e : whileM τ β (n + 1) ρ = SM.ofE τ (fun b ρ => if b then (match β ρ with
    | some (.next ρ') => whileM τ β n ρ'
    | some (.brk ρ') => some (.next ρ')
    | o => o) else some (.next ρ)) ρ := rfl
  rw [e]
  unfold SM.ofE
  cases τ ρ with
  | none => rfl
  | some x => cases x with
    | error C => rfl
    | ok b =>
      cases b with
      | false => rfl
      | true =>
        dsimp only
        rw [if_pos rfl, if_pos rfl]
        cases β ρ with
        | none => rfl
        | some x => cases x <;> rfl
end
/-- a step of the reading: simp does not look into what comes behind before it is reached -/
inductive Tag {α : Type} (a : α) : Type | mk
theorem d_pure {α β : Type} (a : α) (f : α → EM β) : (EM.pure a).bind f = f a := rfl
theorem b_add (a b : Int) : binD .Add (.int a) (.int b) = some (.int (a + b)) := (rfl)
theorem b_addl (a b : List Dat) (h : a.length + b.length ≤ 4096) : binD .Add (.list a) (.list b) = some (.list (a ++ b)) := if_pos h
theorem b_addb (a b : List UInt8) (h : a.length + b.length ≤ 4096) : binD .Add (.bytes a) (.bytes b) = some (.bytes (a ++ b)) := if_pos h
theorem b_sub (a b : Int) : binD .Sub (.int a) (.int b) = some (.int (a - b)) := (rfl)
theorem b_mul (a b : Int) (h : a.natAbs < 2 ^ 60) : binD .Mult (.int a) (.int b) = some (.int (a * b)) := if_pos h
theorem b_div (a b : Int) (h : 0 < b ∧ b < 2 ^ 20) : binD .FloorDiv (.int a) (.int b) = some (.int (a / b)) := if_pos h
theorem b_mod (a b : Int) (h : 0 < b) : binD .Mod (.int a) (.int b) = some (.int (a % b)) := if_pos h
theorem b_or (a b : Int) : binD .BitOr (.int a) (.int b) = some (.int (Builtin.bitOr a b)) := (rfl)
theorem b_and (a b : Int) : binD .BitAnd (.int a) (.int b) = some (.int (Builtin.bitAnd a b)) := (rfl)
theorem b_shr (a b : Int) (h : 0 ≤ b) : binD .RShift (.int a) (.int b) = some (.int (a / 2 ^ b.toNat)) := if_pos h
theorem b_shl (a b : Int) (h : 0 ≤ b ∧ b ≤ 1000000 ∧ a.natAbs < 2 ^ 64) : binD .LShift (.int a) (.int b) = some (.int (a * 2 ^ b.toNat)) := if_pos h
theorem c_eq (x y : Dat) : cmpD .Eq x y = eqD x y := (rfl)
theorem c_ne (x y : Dat) : cmpD .NotEq x y = (eqD x y).map (!·) := (rfl)
theorem c_lt (a b : Int) : cmpD .Lt (.int a) (.int b) = some (decide (a < b)) := (rfl)
theorem c_le (a b : Int) : cmpD .LtE (.int a) (.int b) = some (decide (a ≤ b)) := (rfl)
theorem c_gt (a b : Int) : cmpD .Gt (.int a) (.int b) = some (decide (b < a)) := (rfl)
theorem c_ge (a b : Int) : cmpD .GtE (.int a) (.int b) = some (decide (b ≤ a)) := (rfl)
theorem c_is (x : Dat) : cmpD .Is x .none = some (isNoneD x) := by cases h : isNoneD x <;> simp [cmpD, isD, h]
theorem c_isnot (x : Dat) : cmpD .IsNot x .none = some (!isNoneD x) := by cases h : isNoneD x <;> simp [cmpD, isD, h]
theorem putsOf_tuple (is : List Nat) (ds : List Dat) : putsOf is (.tuple ds) = SM.puts is ds := (rfl)
theorem itemsD_list (ds : List Dat) : itemsD (.list ds) = some ds := (rfl)
theorem itemsD_tuple (ds : List Dat) : itemsD (.tuple ds) = some ds := (rfl)
theorem itemsD_bytes (b : List UInt8) : itemsD (.bytes b) = some (b.map fun u => .int (u.toNat : Int)) := (rfl)
theorem lenF_bytes (b : List UInt8) (h : b.length ≤ 4096) : lenF [.bytes b] = some (.int b.length) := if_pos h
theorem lenF_list (b : List Dat) (h : b.length ≤ 4096) : lenF [.list b] = some (.int b.length) := if_pos h
theorem itemD_bytes {b : List UInt8} {i : Int} (h : 0 ≤ i ∧ i < b.length) (h' : b.length ≤ 4096) : itemD (.bytes b) i = some (.int (b.getD i.toNat 0).toNat) := if_pos ⟨h.1, h.2, h'⟩
theorem itemD_at {b : List UInt8} {i : Nat} {u : UInt8} {r : List UInt8} (h : b.drop i = u :: r) (h' : b.length ≤ 4096) : itemD (.bytes b) (i : Int) = some (.int u.toNat) := by
  have hl : i < b.length := by
    have := congrArg List.length h
    rw [List.length_drop, List.length_cons] at this
    omega
  rw [itemD_bytes (by omega) h']
  have : b[i]? = some u := by
    have := congrArg (fun x => x[0]?) h
    simpa using this
  rw [List.getD_eq_getElem?_getD, Int.toNat_natCast, this]
  rfl
theorem eqD_ne {x y : Dat} (h : ∀ a b, x = .bytes a → y = .bytes b → False) (hx : SeqAt.shaped (py x) = true) (hy : SeqAt.shaped (py y) = true) : eqD x y = some (PyData.eqv (py x) (py y)) := by
  unfold eqD
  split
  · exact (h _ _ rfl rfl).elim
  · rw [if_pos ⟨hx, hy⟩]
theorem eqD_int (a b : Int) : eqD (.int a) (.int b) = some (decide (a = b)) := by
  rw [eqD_ne (by intro _ _ h; cases h) rfl rfl]
  unfold py PyData.eqv
  by_cases h : a = b <;> simp [h]
theorem eqD_bytes (a b : List UInt8) : eqD (.bytes a) (.bytes b) = some (decide (a = b)) := by
  show some (a == b) = _
  by_cases h : a = b <;> simp [h]
theorem pys_ints : ∀ l : List Int, pys (l.map .int) = l.map .int
  | [] => by simp [pys]
  | a :: l => by simp [pys, py, pys_ints l]
theorem lay_ints : ∀ l : List Int, PyData.canLayAll0 (l.map .int) = true ∧ PyData.depthAll (l.map .int) = 0
  | [] => ⟨rfl, rfl⟩
  | a :: l => by
    obtain ⟨h1, h2⟩ := lay_ints l
    simp only [List.map_cons, PyData.canLayAll0, PyData.depthAll, PyData.canLay0, PyData.depth, h1, h2, Bool.and_self, Nat.max_self, and_self]
theorem shaped_ints (l : List Int) : SeqAt.shaped (py (.list (l.map .int))) = true := by
  obtain ⟨h1, h2⟩ := lay_ints l
  unfold SeqAt.shaped py
  rw [pys_ints]
  unfold PyData.canLay0 PyData.depth
  rw [h1, h2]
  rfl
theorem eqv_ints : ∀ a b : List Int, PyData.eqvAll (a.map .int) (b.map .int) = decide (a = b)
  | [], [] => by simp [PyData.eqvAll]
  | x :: xs, y :: ys => by
    simp only [List.map_cons, PyData.eqvAll, PyData.eqv, eqv_ints xs ys, List.cons.injEq]
    by_cases h : x = y <;> by_cases h' : xs = ys <;> simp [h, h']
  | [], _ :: _ => by simp [PyData.eqvAll]
  | _ :: _, [] => by simp [PyData.eqvAll]
theorem eqD_ints (a b : List Int) : eqD (.list (a.map .int)) (.list (b.map .int)) = some (decide (a = b)) := by
  rw [eqD_ne (by intro _ _ h; cases h) (shaped_ints a) (shaped_ints b)]
  unfold py
  rw [pys_ints, pys_ints]
  unfold PyData.eqv
  rw [eqv_ints]
theorem eqD_ints_nil (a : List Int) : eqD (.list (a.map .int)) (.list []) = some (decide (a = [])) := eqD_ints a []
theorem eqD_none : eqD .none .none = some true := by
  rw [eqD_ne (by intro _ _ h; cases h) rfl rfl]; rfl
/-! bits -/
theorem and_zero {a b i : Nat} (h : b < 2 ^ i) : a * 2 ^ i &&& b = 0 := by
  apply Nat.eq_of_testBit_eq
  intro j
  rw [Nat.testBit_and, Nat.testBit_mul_two_pow, Nat.zero_testBit]
  by_cases hj : i ≤ j
  · rw [Nat.testBit_lt_two_pow (Nat.lt_of_lt_of_le h (Nat.pow_le_pow_right (by decide) hj))]; simp
  · simp [hj]
theorem bit_or {a b i : Nat} (h : b < 2 ^ i) : Builtin.bitOr ((a * 2 ^ i : Nat) : Int) (b : Int) = ((a * 2 ^ i + b : Nat) : Int) := by
  rw [bitOr_and, bitAnd_pp (by omega) (by omega), Int.toNat_natCast, Int.toNat_natCast, and_zero h]
  omega
theorem bit_and (a b : Nat) : Builtin.bitAnd (a : Int) (b : Int) = ((a &&& b : Nat) : Int) := by
  rw [bitAnd_pp (by omega) (by omega), Int.toNat_natCast, Int.toNat_natCast]
theorem and_mod (a i : Nat) : a &&& (2 ^ i - 1) = a % 2 ^ i := Nat.and_two_pow_sub_one_eq_mod a i
section
variable {α β γ : Type} {ρ ρ' : St} {i j : Nat} {d x y z : Dat}
noncomputable def thE (k : α → EM β) (ρ : St) : Option (Except Addr α) → Option (Except Addr β)
  | some (.ok a) => k a ρ
  | some (.error C) => some (.error C)
  | none => none
noncomputable def thS (k : α → SM) (ρ : St) : Option (Except Addr α) → Option Out
  | some (.ok a) => k a ρ
  | some (.error C) => some (.raise C)
  | none => none
noncomputable def thO (b : SM) : Option Out → Option Out
  | some (.next ρ) => b ρ
  | o => o
theorem v_bind {m : EM α} {k : α → EM β} {x : Option (Except Addr α)} {r : Option (Except Addr β)} (h : m ρ = x) (g : thE k ρ x = r) : m.bind k ρ = r := by
  subst h; unfold EM.bind
  cases h : m ρ with
  | none => rw [h] at g; exact g
  | some u => rw [h] at g; cases u <;> exact g
theorem v_ok {k : α → EM β} {a : α} {r : Option (Except Addr β)} (g : k a ρ = r) : thE k ρ (some (.ok a)) = r := g
theorem v_er {k : α → EM β} {C : Addr} : thE k ρ (some (.error C)) = some (.error C) := (rfl)
theorem v_rd (h : ρ.loc i = some d) : rd i ρ = some (.ok d) := by unfold rd; rw [h]; rfl
theorem v_rdb {k : Dat → EM β} {r : Option (Except Addr β)} (h : ρ.loc i = some d) (g : k d ρ = r) : (rd i).bind k ρ = r := v_bind (v_rd h) g
theorem v_lift {o : Option α} {a : α} (h : o = some a) : EM.lift o ρ = some (.ok a) := by subst h; rfl
theorem v_liftb {o : Option α} {a : α} {k : α → EM β} {r : Option (Except Addr β)} (h : o = some a) (g : k a ρ = r) : (EM.lift o).bind k ρ = r := v_bind (v_lift h) g
theorem v_liftR {o x : Option (Except Addr α)} (h : o = x) : liftR o ρ = x := h
theorem v_pure {a : α} : EM.pure a ρ = some (.ok a) := (rfl)
theorem v_args1 (h : ρ.loc i = some x) : (rd i).bind (fun x => EM.pure [x]) ρ = some (.ok [x]) := v_rdb h rfl
theorem v_args2 (h : ρ.loc i = some x) (g : ρ.loc j = some y) : (rd i).bind (fun x => ((rd j).bind fun x => EM.pure [x]).bind fun xs => EM.pure (x :: xs)) ρ = some (.ok [x, y]) := v_rdb h (v_bind (v_args1 g) rfl)
theorem v_t {b : Bool} {A B : St → γ} {r : γ} (h : b = true) (g : A ρ = r) : (if b = true then A else B) ρ = r := by rw [if_pos h]; exact g
theorem v_f {b : Bool} {A B : St → γ} {r : γ} (h : b = false) (g : B ρ = r) : (if b = true then A else B) ρ = r := by rw [h]; exact g
theorem v_item {i : Int} {o : Option Dat} (h : itemD x i = o) : ((intOf (.int i)).bind fun i => itemD x i) = o := h
theorem v_len {n : List Dat} {a : Dat} (h : n.length ≤ 64) : (if n.length ≤ 64 then some a else none) = some a := if_pos h
theorem v_eqi (a b : Int) : cmpD .Eq (.int a) (.int b) = some (decide (a = b)) := eqD_int a b
theorem v_int {i : Int} : Option.map some (intOf (.int i)) = some (some i) := (rfl)
theorem v_tob {b : Bool} : toB (.bool b) = some b := (rfl)
theorem v_some {a : α} : some a = some a := (rfl)
theorem v_nei (a b : Int) : cmpD .NotEq (.int a) (.int b) = some (!decide (a = b)) := by rw [c_ne, eqD_int]; rfl
theorem v_eqb (a b : List UInt8) : cmpD .Eq (.bytes a) (.bytes b) = some (decide (a = b)) := eqD_bytes a b
theorem v_mapb {u : CmpOp} {b : Bool} (h : cmpD u x y = some b) : Option.map Dat.bool (cmpD u x y) = some (.bool b) := by rw [h]; rfl
theorem v_not {m : EM Bool} {b : Bool} (h : m ρ = some (.ok b)) : (m.bind fun b => EM.pure (!b)) ρ = some (.ok (!b)) := v_bind h rfl
theorem v_ch {φ ψ χ : EM Dat} {p q : CmpOp} {t : Bool} {r : Option (Except Addr Bool)} (h : φ ρ = some (.ok x)) (g : ψ ρ = some (.ok y)) (e : cmpD p x y = some t) (f : (if t = true then χ.bind fun z => EM.lift (cmpD q y z) else EM.pure false) ρ = r) : chain2 φ ψ χ p q ρ = r :=
  v_bind h (v_ok (v_bind g (v_ok (v_liftb e f))))
theorem v_chle {φ ψ χ : EM Dat} {a b c : Int} (h : φ ρ = some (.ok (.int a))) (g : ψ ρ = some (.ok (.int c))) (f : χ ρ = some (.ok (.int b))) : chain2 φ ψ χ .LtE .LtE ρ = some (.ok (decide (a ≤ c ∧ c ≤ b))) := by
  refine v_ch h g (c_le _ _) ?_
  by_cases q : a ≤ c
  · refine v_t (decide_eq_true q) (v_bind f (v_ok (v_lift (by rw [c_le]; exact congrArg some (decide_eq_decide.mpr ⟨fun h => ⟨q, h⟩, fun h => h.2⟩)))))
  · have e : decide (a ≤ c ∧ c ≤ b) = false := decide_eq_false fun h => q h.1
    rw [e]
    exact v_f (decide_eq_false q) rfl
theorem v_chlt {φ ψ χ : EM Dat} {a b c : Int} (h : φ ρ = some (.ok (.int a))) (g : ψ ρ = some (.ok (.int c))) (f : χ ρ = some (.ok (.int b))) : chain2 φ ψ χ .LtE .Lt ρ = some (.ok (decide (a ≤ c ∧ c < b))) := by
  refine v_ch h g (c_le _ _) ?_
  by_cases q : a ≤ c
  · refine v_t (decide_eq_true q) (v_bind f (v_ok (v_lift (by rw [c_lt]; exact congrArg some (decide_eq_decide.mpr ⟨fun h => ⟨q, h⟩, fun h => h.2⟩)))))
  · have e : decide (a ≤ c ∧ c < b) = false := decide_eq_false fun h => q h.1
    rw [e]
    exact v_f (decide_eq_false q) rfl
theorem nt {p : Prop} [Decidable p] (h : ¬ p) : (!decide p) = true := by rw [decide_eq_false h]; rfl
theorem nf {p : Prop} [Decidable p] (h : p) : (!decide p) = false := by rw [decide_eq_true h]; rfl
theorem w_ofE {φ : EM α} {k : α → SM} {x : Option (Except Addr α)} {o : Option Out} (h : φ ρ = x) (g : thS k ρ x = o) : SM.ofE φ k ρ = o := by
  subst h; unfold SM.ofE
  cases h : φ ρ with
  | none => rw [h] at g; exact g
  | some u => rw [h] at g; cases u <;> exact g
theorem w_ok {k : α → SM} {a : α} {o : Option Out} (g : k a ρ = o) : thS k ρ (some (.ok a)) = o := g
theorem w_er {k : α → SM} {C : Addr} : thS k ρ (some (.error C)) = some (.raise C) := (rfl)
theorem w_seq {a b : SM} {x o : Option Out} (h : a ρ = x) (g : thO b x = o) : SM.seq a b ρ = o := by
  subst h
  unfold SM.seq
  cases h : a ρ with
  | none => rw [h] at g; exact g
  | some u => rw [h] at g; cases u <;> exact g
theorem w_seq_th {a b : SM} : thO b (a ρ) = SM.seq a b ρ := (w_seq rfl rfl).symm
theorem w_next {b : SM} {o : Option Out} (g : b ρ = o) : thO b (some (.next ρ)) = o := g
theorem w_ret {b : SM} : thO b (some (.ret d)) = some (.ret d) := (rfl)
theorem w_raise {b : SM} {C : Addr} : thO b (some (.raise C)) = some (.raise C) := (rfl)
theorem w_brk {b : SM} : thO b (some (.brk ρ)) = some (.brk ρ) := (rfl)
theorem w_skip : SM.next ρ = some (.next ρ) := (rfl)
theorem free_own {ds : List Dat} (h : ρ.own = some (j, ds)) (g : ρ.stm = none) (n : (j != i) = true) : ρ.free i = true := by
  unfold St.free; rw [h, g]; exact (Bool.and_true _).trans n
theorem free_os {k : Nat} {ds : List Dat} {s : Bool × List UInt8 × Int} (h : ρ.own = some (j, ds)) (g : ρ.stm = some (k, s)) (n : (j != i) = true) (m : (k != i) = true) : ρ.free i = true := by
  unfold St.free; rw [h, g]; exact Bool.and_eq_true_iff.mpr ⟨n, m⟩
theorem free_ns {k : Nat} {s : Bool × List UInt8 × Int} (h : ρ.own = none) (g : ρ.stm = some (k, s)) (m : (k != i) = true) : ρ.free i = true := by
  unfold St.free; rw [h, g]; exact m
theorem free_no (h : ρ.own = none) (g : ρ.stm = none) : ρ.free i = true := by
  unfold St.free; rw [h, g]; rfl
theorem w_put (h : ρ.free i = true) : SM.put i d ρ = some (.next (ρ.put i d)) := if_pos h
theorem free_put {k : Nat} (h : ρ.free i = true) : (ρ.put k d).free i = true := h
theorem w_puts2 {p q : Nat} (h : ρ.free p = true) (g : ρ.free q = true) : putsOf [p, q] (.tuple [x, y]) ρ = some (.next ((ρ.put p x).put q y)) :=
  w_seq (w_put h) (w_next (w_seq (w_put (free_put g)) rfl))
theorem w_puts3 {p q r : Nat} (h : ρ.free p = true) (g : ρ.free q = true) (f : ρ.free r = true) : putsOf [p, q, r] (.tuple [x, y, z]) ρ = some (.next (((ρ.put p x).put q y).put r z)) :=
  w_seq (w_put h) (w_next (w_seq (w_put (free_put g)) (w_next (w_seq (w_put (free_put (free_put f))) rfl))))
theorem w_swap2 {p q : Nat} {o : Option Out} (h : SM.puts [q, p] [y, x] ρ = o) : (match Dat.tuple [x, y] with | .tuple ds => if ds.length = [p, q].length then SM.puts [p, q].reverse ds.reverse else fun _ => none | _ => fun _ => none) ρ = o := h
theorem w_putsp {p q : Nat} (h : ρ.free p = true) (g : ρ.free q = true) : SM.puts [p, q] [x, y] ρ = some (.next ((ρ.put p x).put q y)) := w_puts2 h g
theorem w_swap3 {p q r : Nat} {o : Option Out} (h : SM.puts [r, q, p] [z, y, x] ρ = o) : (match Dat.tuple [x, y, z] with | .tuple ds => if ds.length = [p, q, r].length then SM.puts [p, q, r].reverse ds.reverse else fun _ => none | _ => fun _ => none) ρ = o := h
theorem w_putsp3 {p q r : Nat} (h : ρ.free p = true) (g : ρ.free q = true) (f : ρ.free r = true) : SM.puts [p, q, r] [x, y, z] ρ = some (.next (((ρ.put p x).put q y).put r z)) := w_puts3 h g f
theorem w_mine (h : (ρ.own.isNone && ρ.free i) = true) : SM.mine i ρ = some (.next { ρ with own := some (i, []), loc := ρ.cut i }) := if_pos h
theorem r_seq {a b : SM} {r : Option (Except Addr Dat)} (h : a ρ = some (.next ρ')) (g : resOf (b ρ') = r) : resOf (SM.seq a b ρ) = r := by
  rw [w_seq h (w_next rfl)]; exact g
theorem r_of {a : SM} {o : Option Out} {r : Option (Except Addr Dat)} (h : a ρ = o) (g : resOf o = r) : resOf (a ρ) = r := by rw [h]; exact g
theorem seq_ofE {φ : EM α} {k : α → SM} {b : SM} {u : α} (h : φ ρ = some (.ok u)) : SM.seq (SM.ofE φ k) b ρ = SM.seq (k u) b ρ := w_seq (w_ofE h (w_ok rfl)) (w_seq_th)
theorem r_ofE {φ : EM α} {k : α → SM} {b : SM} {u : α} {r : Option (Except Addr Dat)} (h : φ ρ = some (.ok u)) (g : resOf (SM.seq (k u) b ρ) = r) : resOf (SM.seq (SM.ofE φ k) b ρ) = r := by
  rw [seq_ofE h]; exact g
theorem w_own {ds es : List Dat} {φ : EM Dat} {f : List Dat → Dat → Option (List Dat)} (h : ρ.own = some (i, ds)) (n : ds.length ≤ 4096) (g : φ ρ = some (.ok d)) (e : f ds d = some es) : SM.onOwn i φ f ρ = some (.next { ρ with own := some (i, es) }) := by
  unfold SM.onOwn
  rw [h]
  dsimp only
  rw [if_pos ⟨rfl, n⟩]
  unfold SM.ofE
  rw [g]
  dsimp only
  rw [e]; rfl
theorem v_rdl {f : Dat → Option α} {a : α} (h : ρ.loc i = some x) (g : f x = some a) : (rd i).bind (fun x => EM.lift (f x)) ρ = some (.ok a) := v_rdb h (v_lift g)
theorem v_rdl2 {f : Dat → Dat → Option α} {a : α} (h : ρ.loc i = some x) (e : ρ.loc j = some y) (g : f x y = some a) : (rd i).bind (fun x => (rd j).bind fun y => EM.lift (f x y)) ρ = some (.ok a) := v_rdb h (v_rdl e g)
theorem v_call1 {f : List Dat → EM α} {r : Option (Except Addr α)} (h : ρ.loc i = some x) (g : f [x] ρ = r) : ((rd i).bind fun x => EM.pure [x]).bind f ρ = r := v_bind (v_args1 h) g
theorem v_call2 {f : List Dat → EM α} {r : Option (Except Addr α)} (h : ρ.loc i = some x) (e : ρ.loc j = some y) (g : f [x, y] ρ = r) : ((rd i).bind fun x => ((rd j).bind fun x => EM.pure [x]).bind fun xs => EM.pure (x :: xs)).bind f ρ = r := v_bind (v_args2 h e) g
theorem w_if {φ : EM Bool} {b : Bool} {A B : SM} {o : Option Out} (h : φ ρ = some (.ok b)) (g : (if b = true then A else B) ρ = o) : SM.ofE φ (fun b => if b = true then A else B) ρ = o := w_ofE h g
theorem w_un3 {φ : EM Dat} {p q r : Nat} (f : ρ.free p = true) (f' : ρ.free q = true) (f'' : ρ.free r = true) (h : φ ρ = some (.ok (.tuple [x, y, z]))) : SM.ofE φ (putsOf [p, q, r]) ρ = some (.next (((ρ.put p x).put q y).put r z)) := w_ofE h (w_puts3 f f' f'')
theorem w_un2 {φ : EM Dat} {p q : Nat} (f : ρ.free p = true) (f' : ρ.free q = true) (h : φ ρ = some (.ok (.tuple [x, y]))) : SM.ofE φ (putsOf [p, q]) ρ = some (.next ((ρ.put p x).put q y)) := w_ofE h (w_puts2 f f')
theorem w_as {φ : EM Dat} (f : ρ.free i = true) (h : φ ρ = some (.ok d)) : SM.ofE φ (SM.put i) ρ = some (.next (ρ.put i d)) := w_ofE h (w_put f)
theorem w_rz {φ : EM α} {a : α} {C : Addr} (h : φ ρ = some (.ok a)) : SM.ofE φ (fun _ _ => some (.raise C)) ρ = some (.raise C) := w_ofE h rfl
theorem w_rt {φ : EM Dat} (h : φ ρ = some (.ok d)) : SM.ofE φ (fun d _ => some (.ret d)) ρ = some (.ret d) := w_ofE h rfl
theorem w_app {ds : List Dat} (h : ρ.own = some (i, ds)) (n : ds.length ≤ 4096) (g : ρ.loc j = some d) : SM.onOwn i (rd j) (fun ds d => some (ds ++ [d])) ρ = some (.next { ρ with own := some (i, ds ++ [d]) }) := w_own h n (v_rd g) rfl
theorem tau_n {n : Nat} (hn : lenF [x] = some (.int n)) {a : Nat} (h1 : ρ.loc i = some x) (h2 : ρ.loc j = some (.int a)) : (rd j).bind (fun x => (((rd i).bind fun x => EM.pure [x]).bind fun ds => EM.lift (lenF ds)).bind fun y => EM.lift (cmpD .Lt x y)) ρ = some (.ok (decide (a < n))) := by
  refine v_rdb h2 (v_bind (v_call1 h1 (v_lift hn)) (v_ok (v_lift ?_)))
  rw [c_lt]
  by_cases ha : a < n
  · rw [decide_eq_true ha, decide_eq_true (show (a : Int) < (n : Nat) by omega)]
  · rw [decide_eq_false ha, decide_eq_false (show ¬ (a : Int) < (n : Nat) by omega)]
theorem tau_len {l : List UInt8} (hl : l.length ≤ 4096) {a : Nat} (h1 : ρ.loc i = some (.bytes l)) (h2 : ρ.loc j = some (.int a)) : (rd j).bind (fun x => (((rd i).bind fun x => EM.pure [x]).bind fun ds => EM.lift (lenF ds)).bind fun y => EM.lift (cmpD .Lt x y)) ρ = some (.ok (decide (a < l.length))) := tau_n (lenF_bytes l hl) h1 h2
theorem w_tob {a : SM} {P : St → Prop} (h : a ρ = some (.brk ρ')) (g : P ρ') : ∃ ρ', a ρ = some (.brk ρ') ∧ P ρ' := ⟨ρ', h, g⟩
theorem w_to {a : SM} {P : St → Prop} (h : a ρ = some (.next ρ')) (g : P ρ') : ∃ ρ', a ρ = some (.next ρ') ∧ P ρ' := ⟨ρ', h, g⟩
end
theorem eqi_self (x : Int) : cmpD .Eq (.int x) (.int x) = some true := by rw [v_eqi, decide_eq_true rfl]
theorem nei_self (x : Int) : cmpD .NotEq (.int x) (.int x) = some false := by rw [v_nei, decide_eq_true rfl]; rfl
theorem eqb_self (x : List UInt8) : cmpD .Eq (.bytes x) (.bytes x) = some true := by rw [v_eqb, decide_eq_true rfl]
theorem v_neb (x y : List UInt8) : cmpD .NotEq (.bytes x) (.bytes y) = some (!decide (x = y)) := by rw [c_ne, eqD_bytes]; rfl
theorem neb_self (x : List UInt8) : cmpD .NotEq (.bytes x) (.bytes x) = some false := by rw [v_neb, decide_eq_true rfl]; rfl
theorem eql_self (x : List Int) : cmpD .Eq (.list (x.map .int)) (.list (x.map .int)) = some true := by rw [c_eq, eqD_ints, decide_eq_true rfl]
theorem nel_self (x : List Int) : cmpD .NotEq (.list (x.map .int)) (.list (x.map .int)) = some false := by rw [c_ne, eqD_ints, decide_eq_true rfl]; rfl
theorem f66 (n : Int) : s66.F [.int n] = some (.ok (.bool (decide (0 ≤ n ∧ n ≤ 1114111)))) := by
  unfold s66
  dsimp only [d_pure]
  exact (if_pos rfl).trans (r_of (w_rt (v_bind (v_chle v_pure (v_rd rfl) v_pure) rfl)) rfl)
theorem f73 (n : Int) : s73.F [.int n] = some (.ok (.bool (decide (55296 ≤ n ∧ n ≤ 56319)))) := by
  unfold s73
  dsimp only [d_pure]
  exact (if_pos rfl).trans (r_of (w_rt (v_bind (v_chle v_pure (v_rd rfl) v_pure) rfl)) rfl)
theorem f80 (n : Int) : s80.F [.int n] = some (.ok (.bool (decide (56320 ≤ n ∧ n ≤ 57343)))) := by
  unfold s80
  dsimp only [d_pure]
  exact (if_pos rfl).trans (r_of (w_rt (v_bind (v_chle v_pure (v_rd rfl) v_pure) rfl)) rfl)
theorem f87 (n : Int) : s87.F [.int n] = some (.ok (.bool (decide (55296 ≤ n ∧ n ≤ 57343)))) := by
  unfold s87
  dsimp only [d_pure]
  exact (if_pos rfl).trans (r_of (w_rt (v_bind (v_chle v_pure (v_rd rfl) v_pure) rfl)) rfl)
noncomputable def scalar (n : Int) : Bool := decide ((0 ≤ n ∧ n ≤ 1114111) ∧ ¬ (55296 ≤ n ∧ n ≤ 57343))
theorem v_notb {b : Bool} : Option.map (fun b => Dat.bool (!b)) (toB (.bool b)) = some (.bool (!b)) := (rfl)
def sN (k : Lean.Name) (a : List Lean.Syntax) : Lean.Syntax := .node .none k a.toArray
def sA (s : String) : Lean.Syntax := .atom .none s
def sI (s : String) : Lean.Syntax := .ident .none s.toRawSubstring s.toName []
def tS (ts : List Lean.Syntax) : Lean.Syntax := sN `Lean.Parser.Tactic.tacticSeq [sN `Lean.Parser.Tactic.tacticSeq1Indented [sN `null ts]]
def tF (ts : List Lean.Syntax) : Lean.Syntax := sN `Lean.Parser.Tactic.first [sA "first", sN `null (ts.map fun t => sN `group [sA "|", tS [t]])]
def tR (t : Lean.Syntax) : Lean.Syntax := sN `Lean.Parser.Tactic.withReducible [sA "with_reducible", tS [t]]
def tA (n : String) : Lean.Syntax := sN `Lean.Parser.Tactic.apply [sA "apply", sI n]
def tE (e : Lean.Syntax) : Lean.Syntax := tR (sN `Lean.Parser.Tactic.exact [sA "exact", e])
def tC (x : Lean.Syntax) (bs : List Lean.Syntax) : Lean.Syntax := sN `Lean.Parser.Tactic.paren [sA "(", tS (x :: bs.flatMap fun b => [sA ";", sN `Lean.cdot [sN `Lean.cdotTk [sA "·"], tS [b]]]), sA ")"]
def evT (ts : List Lean.Syntax) : Lean.Syntax :=
  let r := sN `Lean.Parser.Tactic.exact [sA "exact", sI "rfl"]
  let a := tF [r, sN `Lean.Parser.Tactic.assumption [sA "assumption"]]
  let n := sN `Lean.Parser.Tactic.exact [sA "exact", sN `Lean.Parser.Term.app [sI "Nat.le_of_ble_eq_true", sN `null [sI "rfl"]]]
  let t := tF (ts.map tE)
  let u := tF (r :: ts.flatMap fun a => tE a :: (["decide_eq_true", "decide_eq_false", "nt", "nf"].map fun f => tE (sN `Lean.Parser.Term.app [sI f, sN `null [a]])))
  let g := tF [r, tC (tA "free_own") [a, a, r], tC (tA "free_no") [a, a], tC (tA "free_os") [a, a, r, r], tC (tA "free_ns") [a, a, r]]
  let all := ("w_seq w_next w_un3:ggg w_un2:gg w_as:g w_if w_rz w_rt w_ofE w_app:ata w_skip w_ret w_raise w_brk w_ok w_put:g w_swap2 w_putsp:gg w_swap3 w_putsp3:ggg w_mine:a w_own:a set_w:a set_p:a v_not v_chle v_chlt v_ch attr_w:a attr_s:a attr_p:a v_cap:a v_rdl:a v_rdl2:aa v_call1:a v_call2:aa v_rdb:a v_rd:a v_liftb v_lift v_bind v_ok v_pure v_liftR b_add b_sub c_lt c_le c_gt c_ge v_eqi v_nei v_eqb c_is c_isnot v_item v_len:n v_int v_tob v_mapb itemsD_list itemsD_tuple v_some v_t:u v_f:u".splitOn " ").map fun e =>
    let p := e.splitOn ":"
    tC (tR (tA (p.headD ""))) ((p.getD 1 "").toList.map fun c => if c == 'g' then g else if c == 'a' then a else if c == 't' then tF [a, t] else if c == 'u' then u else n)
  sN `Lean.Parser.Tactic.tacticRepeat_ [sA "repeat", tS [tF (t :: all)]]
local macro_rules | `(tactic| exists $ts,*) => return evT (ts.getElems.toList.map (·.raw))
theorem f94 (n : Int) : s94.F [.int n] = some (.ok (.bool (scalar n))) := by
  unfold s94
  dsimp only [d_pure]
  have h66 := f66 n
  have h87 := f87 n
  refine (if_pos rfl).trans ?_
  by_cases h : 0 ≤ n ∧ n ≤ 1114111
  · have e : scalar n = !decide (55296 ≤ n ∧ n ≤ 57343) := by unfold scalar; simp only [h, and_self, true_and, decide_not]
    rw [e]
    exact r_of (by exists h66, h, h87, v_notb) rfl
  · have e : scalar n = false := decide_eq_false fun q => h q.1
    rw [e]
    exact r_of (by exists h66, h) rfl
noncomputable def leadD (b : Nat) : Dat := if manyP b = 0 then .none else .tuple [.int (manyP b), .int (if b < 128 then 0 else loP b), .int (if b < 128 then 0 else hiP b)]
/-! what an octet answers is looked up, octet by octet -/
noncomputable def isI (d : Dat) (n : Int) : Bool := match d with
  | .int m => decide (m = n)
  | _ => false
theorem isI_eq {d : Dat} {n : Int} (h : isI d n = true) : d = .int n := by
  cases d <;> first | (cases h; done) | skip
  exact congrArg Dat.int (of_decide_eq_true h)
noncomputable def isL : List Dat → List Int → Bool
  | [], ns => ns.isEmpty
  | d :: ds, ns => match ns with
    | [] => false
    | n :: ns => isI d n && isL ds ns
theorem isL_eq : ∀ (ds : List Dat) (ns : List Int), isL ds ns = true → ds = ns.map .int
  | [], ns, h => by cases ns <;> first | rfl | cases h
  | d :: ds, [], h => by cases h
  | d :: ds, n :: ns, h => by
    obtain ⟨h1, h2⟩ := Bool.and_eq_true_iff.mp h
    rw [isI_eq h1, isL_eq ds ns h2]; rfl
noncomputable def isT (d : Dat) (ns : List Int) : Bool := match d with
  | .tuple ds => isL ds ns
  | _ => false
theorem isT_eq {d : Dat} {ns : List Int} (h : isT d ns = true) : d = .tuple (ns.map .int) := by
  cases d <;> first | (cases h; done) | skip
  exact congrArg Dat.tuple (isL_eq _ _ h)
noncomputable def isOk (r : Option (Except Addr Dat)) (p : Dat → Bool) : Bool := match r with
  | some (.ok d) => p d
  | _ => false
theorem isOk_eq {r : Option (Except Addr Dat)} {p : Dat → Bool} (h : isOk r p = true) : ∃ d, r = some (.ok d) ∧ p d = true := by
  cases r with
  | none => cases h
  | some x => cases x with
    | error C => cases h
    | ok d => exact ⟨d, rfl, h⟩
noncomputable def isNo (d : Dat) : Bool := match d with
  | .none => true
  | _ => false
theorem isNo_eq {d : Dat} (h : isNo d = true) : d = .none := by
  cases d <;> first | rfl | cases h
noncomputable def leadIs (b : Nat) (d : Dat) : Bool := cond (manyP b == 0) (isNo d) (isT d [(manyP b : Int), if b < 128 then 0 else loP b, if b < 128 then 0 else hiP b])
theorem lead_all : (List.range 256).all (fun b => isOk (s115.F [.int (b : Nat)]) (leadIs b)) = true := by decide +kernel
theorem f115 (u : UInt8) : s115.F [.int u.toNat] = some (.ok (leadD u.toNat)) := by
  obtain ⟨d, h, g⟩ := isOk_eq (List.all_eq_true.mp lead_all u.toNat (List.mem_range.mpr u.toNat_lt))
  rw [h]
  unfold leadD
  unfold leadIs at g
  by_cases hm : manyP u.toNat = 0
  · rw [hm] at g
    rw [if_pos hm, isNo_eq g]
  · rw [beq_eq_false_iff_ne.mpr hm] at g
    rw [if_neg hm, isT_eq g]; rfl
theorem bit_step {c u : Nat} (h1 : 128 ≤ u) (h2 : u ≤ 191) : Builtin.bitOr ((c : Int) * 2 ^ (6 : Int).toNat) (Builtin.bitAnd (u : Int) 63) = ((c * 64 + (u - 128) : Nat) : Int) := by
  have e1 : Builtin.bitAnd (u : Int) 63 = ((u - 128 : Nat) : Int) := by
    rw [show (63 : Int) = ((63 : Nat) : Int) from rfl, bit_and, show (63 : Nat) = 2 ^ 6 - 1 from rfl, and_mod]
    omega
  have e2 : (c : Int) * 2 ^ (6 : Int).toNat = ((c * 2 ^ 6 : Nat) : Int) := by
    rw [Int.natCast_mul]; rfl
  rw [e1, e2, bit_or (by omega)]
theorem bit_lead {b : Nat} (h : 1 < manyP b) : Builtin.bitAnd (b : Int) (127 / 2 ^ ((manyP b : Nat) : Int).toNat) = ((b - [0, 0, 192, 224, 240].getD (manyP b) 0 : Nat) : Int) := by
  have hb : b < 256 := by unfold manyP at h; repeat' (split at h <;> try omega)
  have key : ∀ b < 256, 1 < manyP b → Builtin.bitAnd (b : Int) (127 / 2 ^ ((manyP b : Nat) : Int).toNat) = ((b - [0, 0, 192, 224, 240].getD (manyP b) 0 : Nat) : Int) := by decide +kernel
  exact key b hb h
noncomputable abbrev SHORT : Str := "a sequence that is cut short"
noncomputable abbrev BROKEN : Str := "a sequence that breaks off"
theorem piece_loop (β : SM) (l : List UInt8) (at_ many : Nat)
    (hβ : ∀ (ρ : St) (k lo hi c : Nat), ρ.own = none → ρ.stm = none → ρ.loc 0 = some (.bytes l) → ρ.loc 1 = some (.int at_) → ρ.loc 3 = some (.int many) → ρ.loc 4 = some (.int lo) → ρ.loc 5 = some (.int hi) → ρ.loc 6 = some (.int c) → ρ.loc 7 = some (.int k) → c < 2 ^ 40 → 128 ≤ lo → hi ≤ 191 →
      match l.drop (at_ + k) with
      | [] => β ρ = some (.ret (.tuple [.int k, .none, .str SHORT]))
      | u :: _ => if lo ≤ u.toNat ∧ u.toNat ≤ hi then ∃ ρ', β ρ = some (.next ρ') ∧ ρ'.own = none ∧ ρ'.stm = none ∧ ρ'.loc 0 = some (.bytes l) ∧ ρ'.loc 1 = some (.int at_) ∧ ρ'.loc 3 = some (.int many) ∧ ρ'.loc 4 = some (.int 128) ∧ ρ'.loc 5 = some (.int 191) ∧ ρ'.loc 6 = some (.int ((c * 64 + (u.toNat - 128) : Nat) : Int))
        else β ρ = some (.ret (.tuple [.int k, .none, .str BROKEN]))) :
    ∀ (n k lo hi c : Nat) (ρ : St), ρ.own = none → ρ.stm = none → ρ.loc 0 = some (.bytes l) → ρ.loc 1 = some (.int at_) → ρ.loc 3 = some (.int many) → ρ.loc 4 = some (.int lo) → ρ.loc 5 = some (.int hi) → ρ.loc 6 = some (.int c) → (c + 1) * 64 ^ n ≤ 2 ^ 40 → 128 ≤ lo → hi ≤ 191 →
      if takes n lo hi (l.drop (at_ + k)) = n then ∃ ρ', forM (SM.put 7) β (rangeL k 1 n) ρ = some (.next ρ') ∧ ρ'.loc 3 = some (.int many) ∧ ρ'.loc 6 = some (.int (fold c ((l.drop (at_ + k)).take n)))
      else forM (SM.put 7) β (rangeL k 1 n) ρ = some (.ret (.tuple [.int ((k + takes n lo hi (l.drop (at_ + k)) : Nat) : Int), .none, .str (if takes n lo hi (l.drop (at_ + k)) = (l.drop (at_ + k)).length then SHORT else BROKEN)]))
  | 0, k, lo, hi, c, ρ, h1, h2, h3, h4, h5, h6, h7, h8, h9, ha, hb => by
    rw [if_pos (by simp [takes])]
    exact ⟨ρ, rfl, h5, by rw [h8]; rfl⟩
  | n + 1, k, lo, hi, c, ρ, h1, h2, h3, h4, h5, h6, h7, h8, h9, ha, hb => by
    have hc : c < 2 ^ 40 := by
      have : 1 ≤ 64 ^ (n + 1) := Nat.pow_pos (by decide)
      have := Nat.mul_le_mul_left (c + 1) this
      omega
    have hf : ρ.free 7 = true := by unfold St.free; rw [h1, h2]; rfl
    have hb' := hβ (ρ.put 7 (.int k)) k lo hi c h1 h2 h3 h4 h5 h6 h7 h8 rfl hc ha hb
    have e : forM (SM.put 7) β (rangeL k 1 (n + 1)) ρ = after (forM (SM.put 7) β (rangeL (k + 1) 1 n)) (β (ρ.put 7 (.int k))) := forM_put hf
    rw [e]
    cases hd : l.drop (at_ + k) with
    | nil =>
      rw [hd] at hb'
      dsimp only at hb'
      rw [hb', show takes (n + 1) lo hi [] = 0 from rfl, if_neg (by omega), if_pos (show 0 = ([] : List UInt8).length from rfl), after_ret]
      rfl
    | cons u r =>
      rw [hd] at hb'
      dsimp only at hb'
      have hr : l.drop (at_ + (k + 1)) = r := by
        have := congrArg (List.drop 1) hd
        rw [List.drop_drop] at this
        simpa [Nat.add_assoc] using this
      by_cases hu : lo ≤ u.toNat ∧ u.toNat ≤ hi
      · rw [if_pos hu] at hb'
        obtain ⟨ρ', g0, g1, g2, g3, g4, g5, g6, g7, g8⟩ := hb'
        rw [g0, after_next]
        have ih := piece_loop β l at_ many hβ n (k + 1) 128 191 _ ρ' g1 g2 g3 g4 g5 g6 g7 g8 (by
          rw [Nat.pow_succ] at h9
          have : c * 64 + (u.toNat - 128) + 1 ≤ (c + 1) * 64 := by omega
          have := Nat.mul_le_mul_right (64 ^ n) this
          have e : (c + 1) * 64 * 64 ^ n = (c + 1) * (64 ^ n * 64) := by rw [Nat.mul_assoc, Nat.mul_comm 64]
          omega) (by omega) (by omega)
        rw [hr] at ih
        rw [show takes (n + 1) lo hi (u :: r) = 1 + takes n 128 191 r by simp only [takes, if_pos hu], List.take_succ_cons, List.length_cons]
        have ek : ((k : Int) + 1) = ((k + 1 : Nat) : Int) := by omega
        rw [ek]
        by_cases ht : takes n 128 191 r = n
        · rw [if_pos ht] at ih
          rw [if_pos (by omega)]
          obtain ⟨ρ₂, x1, x2, x3⟩ := ih
          exact ⟨ρ₂, x1, x2, by rw [x3]; rfl⟩
        · rw [if_neg ht] at ih
          rw [if_neg (by omega), ih]
          have e1 : k + 1 + takes n 128 191 r = k + (1 + takes n 128 191 r) := by omega
          have e2 : (takes n 128 191 r = r.length) = (1 + takes n 128 191 r = r.length + 1) := by apply propext; omega
          simp only [e1, e2]
      · rw [if_neg hu] at hb'
        rw [hb', after_ret, show takes (n + 1) lo hi (u :: r) = 0 by simp only [takes, if_neg hu], List.length_cons, if_neg (by omega), if_neg (by omega)]
        rfl
noncomputable def wrong : List UInt8 → Str
  | [] => ""
  | b :: r => if whole (b :: r) then "" else if manyP b.toNat = 0 then (if b.toNat < 192 then "a trail octet without a lead" else "an octet that never stands") else if cutN (b :: r) = (b :: r).length then SHORT else BROKEN
noncomputable def pieceD (l : List UInt8) : Dat := .tuple [.int (cutN l), if whole l then .int (codeB l) else .none, .str (wrong l)]
theorem rangeD_1 (m : Nat) (h1 : 1 ≤ m) (h : m ≤ 4) : rangeD [.int 1, .int m] = some (rangeL ((1 : Nat) : Int) 1 (m - 1)) := by
  rw [rangeD, show intsD [.int 1, .int (m : Int)] = some [1, (m : Int)] from rfl, Option.bind_some]
  unfold rangeI
  dsimp only
  rw [if_pos (by omega), show ((m : Int) - 1).toNat = m - 1 by omega]
  rfl
theorem seq_next {a b : SM} {ρ ρ' : St} (h : a ρ = some (.next ρ')) : SM.seq a b ρ = b ρ' := by unfold SM.seq; rw [h]
theorem seq_ret {a b : SM} {ρ : St} {d : Dat} (h : a ρ = some (.ret d)) : SM.seq a b ρ = some (.ret d) := by unfold SM.seq; rw [h]
theorem seq_raise {a b : SM} {ρ : St} {C : Addr} (h : a ρ = some (.raise C)) : SM.seq a b ρ = some (.raise C) := by unfold SM.seq; rw [h]
theorem piece_fin {β K : SM} {ρ : St} {l : List UInt8} {at_ : Nat} {b : UInt8} {r : List UInt8} (h : l.drop at_ = b :: r) (hm : 1 < manyP b.toNat)
    (hβ : ∀ (ρ : St) (k lo hi c : Nat), ρ.own = none → ρ.stm = none → ρ.loc 0 = some (.bytes l) → ρ.loc 1 = some (.int at_) → ρ.loc 3 = some (.int (manyP b.toNat)) → ρ.loc 4 = some (.int lo) → ρ.loc 5 = some (.int hi) → ρ.loc 6 = some (.int c) → ρ.loc 7 = some (.int k) → c < 2 ^ 40 → 128 ≤ lo → hi ≤ 191 →
      match l.drop (at_ + k) with
      | [] => β ρ = some (.ret (.tuple [.int k, .none, .str SHORT]))
      | u :: _ => if lo ≤ u.toNat ∧ u.toNat ≤ hi then ∃ ρ', β ρ = some (.next ρ') ∧ ρ'.own = none ∧ ρ'.stm = none ∧ ρ'.loc 0 = some (.bytes l) ∧ ρ'.loc 1 = some (.int at_) ∧ ρ'.loc 3 = some (.int (manyP b.toNat)) ∧ ρ'.loc 4 = some (.int 128) ∧ ρ'.loc 5 = some (.int 191) ∧ ρ'.loc 6 = some (.int ((c * 64 + (u.toNat - 128) : Nat) : Int))
        else β ρ = some (.ret (.tuple [.int k, .none, .str BROKEN])))
    (h1 : ρ.own = none) (h2 : ρ.stm = none) (h3 : ρ.loc 0 = some (.bytes l)) (h4 : ρ.loc 1 = some (.int at_)) (h5 : ρ.loc 3 = some (.int (manyP b.toNat))) (h6 : ρ.loc 4 = some (.int (loP b.toNat))) (h7 : ρ.loc 5 = some (.int (hiP b.toNat)))
    (h8 : ρ.loc 6 = some (.int ((b.toNat - [0, 0, 192, 224, 240].getD (manyP b.toNat) 0 : Nat) : Int)))
    (hK : ∀ ρ' c, ρ'.loc 3 = some (.int (manyP b.toNat)) → ρ'.loc 6 = some (.int c) → K ρ' = some (.ret (.tuple [.int (manyP b.toNat), .int c, .str ""]))) :
    resOf (SM.seq (forM (SM.put 7) β (rangeL ((1 : Nat) : Int) 1 (manyP b.toNat - 1))) K ρ) = some (.ok (pieceD (b :: r))) := by
  have hr : l.drop (at_ + 1) = r := by
    have := congrArg (List.drop 1) h
    rw [List.drop_drop] at this
    simpa using this
  have m4 := manyP_le b.toNat
  have hL := piece_loop β l at_ (manyP b.toNat) hβ (manyP b.toNat - 1) 1 (loP b.toNat) (hiP b.toNat) (b.toNat - [0, 0, 192, 224, 240].getD (manyP b.toNat) 0) ρ h1 h2 h3 h4 h5 h6 h7 h8 (by
    have : b.toNat < 256 := b.toNat_lt
    have : 64 ^ (manyP b.toNat - 1) ≤ 64 ^ 3 := Nat.pow_le_pow_right (by decide) (by omega)
    have := Nat.mul_le_mul (show b.toNat - [0, 0, 192, 224, 240].getD (manyP b.toNat) 0 + 1 ≤ 256 by omega) this
    exact Nat.le_trans this (by decide)) (by unfold loP; repeat' split
                                             all_goals omega) (by unfold hiP; repeat' split
                                                                  all_goals omega)
  rw [hr] at hL
  unfold pieceD
  by_cases ht : takes (manyP b.toNat - 1) (loP b.toNat) (hiP b.toNat) r = manyP b.toNat - 1
  · rw [if_pos ht] at hL
    obtain ⟨ρ', e1, e2, e3⟩ := hL
    have hc : cutN (b :: r) = manyP b.toNat := by rw [cutN_cons, ht]; omega
    have hw : whole (b :: r) = true := by rw [whole_cons, hc]; simp
    rw [seq_next e1, hK ρ' _ e2 e3]
    simp only [hw, hc, codeB, wrong, if_true]
    rfl
  · rw [if_neg ht] at hL
    have hlt := (takes_le (manyP b.toNat - 1) (loP b.toNat) (hiP b.toNat) r).1
    have hw : whole (b :: r) = false := by rw [whole_cons, cutN_cons]; simp; omega
    rw [seq_ret hL]
    simp only [hw, wrong, if_neg (show ¬ manyP b.toNat = 0 by omega), cutN_cons, List.length_cons, Bool.false_eq_true, if_false]
    have e2 : (takes (manyP b.toNat - 1) (loP b.toNat) (hiP b.toNat) r = r.length) = (1 + takes (manyP b.toNat - 1) (loP b.toNat) (hiP b.toNat) r = r.length + 1) := by apply propext; omega
    simp only [e2]
    rfl
local macro_rules | `(tactic| exists $ts,*) => return evT (ts.getElems.toList.map (·.raw))
theorem f122 (l : List UInt8) (at_ : Nat) (b : UInt8) (r : List UInt8) (h : l.drop at_ = b :: r) (h4' : l.length ≤ 4096) : s122.F [.bytes l, .int at_] = some (.ok (pieceD (b :: r))) := by
  have h0 := itemD_at h h4'
  have hb := f115 b
  unfold leadD at hb
  unfold s122
  dsimp only [d_pure]
  refine (if_pos rfl).trans (r_seq (by exists h0, hb) ?_)
  by_cases hm : manyP b.toNat = 0
  · have hw : whole (b :: r) = false := by rw [whole_cons, hm, cutN_cons]; simp
    have hc : cutN (b :: r) = 1 := by rw [cutN_cons, hm]; rfl
    have hf : ¬ (false : Bool) = true := by decide
    rw [if_pos hm]
    have hp : pieceD (b :: r) = .tuple [.int 1, .none, .str (if b.toNat < 192 then "a trail octet without a lead" else "an octet that never stands")] := by
      simp only [pieceD, wrong, hw, hc, hm, hf, if_false, if_true]; rfl
    rw [hp]
    by_cases h1 : b.toNat < 192
    · have e : ((b.toNat : Nat) : Int) < 192 := by omega
      rw [if_pos h1]
      exact r_of (by exists h0, e) rfl
    · have e : ¬ ((b.toNat : Nat) : Int) < 192 := by omega
      rw [if_neg h1]
      exact r_of (by exists h0, e) rfl
  rw [if_neg hm]
  by_cases h1 : manyP b.toNat = 1
  · have hw : whole (b :: r) = true := by rw [whole_cons, h1, cutN_cons, h1]; rfl
    have hc : cutN (b :: r) = 1 := by rw [cutN_cons, h1]; rfl
    have e : ((manyP b.toNat : Nat) : Int) = 1 := by omega
    have hp : pieceD (b :: r) = .tuple [.int 1, .int b.toNat, .str ""] := by
      simp only [pieceD, wrong, hw, codeB, hc, if_true]; rfl
    rw [hp]
    exact r_of (by exists h0, e) rfl
  have h2 : 1 < manyP b.toNat := by omega
  have h3 : ¬ b.toNat < 128 := by intro hh; unfold manyP at h1; rw [if_pos hh] at h1; exact h1 rfl
  have h5 := manyP_le b.toNat
  have h6 : ¬ ((manyP b.toNat : Nat) : Int) = 1 := by omega
  have h7 : (0 : Int) ≤ (manyP b.toNat : Nat) := by omega
  have hs := b_shr 127 (manyP b.toNat) h7
  have hl := bit_lead h2
  have ha := b_and (b.toNat : Int) (127 / 2 ^ ((manyP b.toNat : Nat) : Int).toNat)
  rw [hl] at ha
  rw [if_neg h3, if_neg h3]
  refine r_seq (by exists h6) (r_seq (by exists hb) (r_seq (by exists h6) (r_seq (by exists h0, hs, ha) ?_)))
  have hr := rangeD_1 _ (Nat.le_of_lt h2) h5
  refine r_ofE (by exists hr) ?_
  clear hr
  refine piece_fin h h2 ?_ rfl rfl rfl rfl rfl rfl rfl rfl ?_
  · intro ρ k lo hi c h1 h2 h3 h4 h5 h6 h7 h8 h9 ha hb hd
    have hk : binD .Add (.int (at_ : Int)) (.int (k : Int)) = some (.int ((at_ + k : Nat) : Int)) := (b_add _ _)
    have hn := lenF_bytes l h4'
    cases hu : l.drop (at_ + k) with
    | nil =>
      have hl : ((l.length : Nat) : Int) ≤ ((at_ + k : Nat) : Int) := by
        have := congrArg List.length hu
        rw [List.length_drop, List.length_nil] at this
        omega
      exists hk, hn, hl
    | cons u t =>
      have hl : ¬ ((l.length : Nat) : Int) ≤ ((at_ + k : Nat) : Int) := by
        have := congrArg List.length hu
        rw [List.length_drop, List.length_cons] at this
        omega
      have hi' := itemD_at hu h4'
      rw [seq_next]
      rotate_left
      · exists hk, hn, hl
      rw [seq_next]
      rotate_left
      · exists hk, hi'
      dsimp only
      by_cases hq : lo ≤ u.toNat ∧ u.toNat ≤ hi
      · have e1 : (lo : Int) ≤ (u.toNat : Int) ∧ (u.toNat : Int) ≤ (hi : Int) := by omega
        rw [if_pos hq]
        have e3 : binD .LShift (.int c) (.int 6) = some (.int (c * 2 ^ (6 : Int).toNat)) := b_shl _ _ ⟨by decide, by decide, by omega⟩
        have e4 := b_and (u.toNat : Int) 63
        have e5 := b_or (c * 2 ^ (6 : Int).toNat) (Builtin.bitAnd (u.toNat : Int) 63)
        rw [bit_step (Nat.le_trans hb hq.1) (Nat.le_trans hq.2 hd)] at e5
        refine w_to (by exists e1, e3, e4, e5) ?_
        exact ⟨h1, h2, h3, h4, h5, rfl, rfl, rfl⟩
      · rw [if_neg hq]
        have e1 : ¬ ((lo : Int) ≤ (u.toNat : Int) ∧ (u.toNat : Int) ≤ (hi : Int)) := by omega
        exists e1
  · intro ρ' c h1 h2
    exists hb
theorem f122_t (l : List UInt8) (at_ : Nat) (b : UInt8) (r : List UInt8) (h : l.drop at_ = b :: r) (h4' : l.length ≤ 4096) (hw : whole (b :: r) = true) : s122.F [.bytes l, .int at_] = some (.ok (.tuple [.int (cutN (b :: r)), .int (codeB (b :: r)), .str (wrong (b :: r))])) := by
  rw [f122 l at_ b r h h4', pieceD, hw]; rfl
theorem f122_f (l : List UInt8) (at_ : Nat) (b : UInt8) (r : List UInt8) (h : l.drop at_ = b :: r) (h4' : l.length ≤ 4096) (hw : whole (b :: r) = false) : s122.F [.bytes l, .int at_] = some (.ok (.tuple [.int (cutN (b :: r)), .none, .str (wrong (b :: r))])) := by
  rw [f122 l at_ b r h h4', pieceD, hw]; rfl
theorem drop_cons_of {l : List UInt8} {a : Nat} (h : a < l.length) : ∃ b r, l.drop a = b :: r := by
  cases e : l.drop a with
  | nil =>
    have := congrArg List.length e
    rw [List.length_drop, List.length_nil] at this
    omega
  | cons b r => exact ⟨b, r, rfl⟩
/-- the loop of a decoder -/
theorem dec_loop {τ : EM Bool} {β : SM} {step : List UInt8 → Option (Nat × Int)} (l : List UInt8) (hl : l.length ≤ 4096)
    (hτ : ∀ (ρ : St) (a : Nat), ρ.loc 0 = some (.bytes l) → ρ.loc 2 = some (.int a) → τ ρ = some (.ok (decide (a < l.length))))
    (hpos : ∀ s k c, step s = some (k, c) → 0 < k)
    (hβ : ∀ (ρ : St) (a : Nat) (found : List Dat) (b : UInt8) (r : List UInt8), ρ.loc 0 = some (.bytes l) → ρ.loc 2 = some (.int a) → ρ.own = some (1, found) → ρ.stm = none → l.drop a = b :: r → found.length ≤ 4096 →
      match step (b :: r) with
      | none => β ρ = some (.raise 45)
      | some (k, c) => ∃ ρ', β ρ = some (.next ρ') ∧ ρ'.loc 0 = some (.bytes l) ∧ ρ'.loc 2 = some (.int ((a + k : Nat) : Int)) ∧ ρ'.own = some (1, found ++ [.int c]) ∧ ρ'.stm = none) :
    ∀ (n a : Nat) (found : List Dat) (ρ : St), ρ.loc 0 = some (.bytes l) → ρ.loc 2 = some (.int a) → ρ.own = some (1, found) → ρ.stm = none → found.length ≤ a → l.length - a < n →
      match dec step (l.length - a) (l.drop a) with
      | none => whileM τ β n ρ = some (.raise 45)
      | some cs => ∃ ρ', whileM τ β n ρ = some (.next ρ') ∧ ρ'.own = some (1, found ++ cs.map .int)
  | 0, _, _, _, _, _, _, _, _, h => by omega
  | n + 1, a, found, ρ, h1, h2, h3, h4, h5, h7 => by
    rw [whileM_succ]
    have ht := hτ ρ a h1 h2
    have e0 : SM.ofE τ (fun b => if b = true then fun ρ => after (whileM τ β n) (β ρ) else SM.next) ρ = if a < l.length then after (whileM τ β n) (β ρ) else some (.next ρ) := by
      unfold SM.ofE
      rw [ht]
      dsimp only
      by_cases ha : a < l.length
      · rw [if_pos (by simpa using ha), if_pos ha]
      · rw [if_neg (by simpa using ha), if_neg ha]; rfl
    rw [e0]
    by_cases ha : a < l.length
    · rw [if_pos ha]
      obtain ⟨b, r, hd⟩ := drop_cons_of ha
      obtain ⟨m, hm⟩ : ∃ m, l.length - a = m + 1 := ⟨l.length - a - 1, by omega⟩
      have hb := hβ ρ a found b r h1 h2 h3 h4 hd (by omega)
      rw [hd, hm]
      simp only [dec]
      cases hs : step (b :: r) with
      | none =>
        rw [hs] at hb
        dsimp only at hb ⊢
        rw [hb]; rfl
      | some p =>
        obtain ⟨k, c⟩ := p
        rw [hs] at hb
        dsimp only at hb ⊢
        obtain ⟨ρ', g0, g1, g2, g3, g4⟩ := hb
        have hk := hpos _ _ _ hs
        have hlen : (b :: r).length = l.length - a := by rw [← hd, List.length_drop]
        rw [g0, after_next]
        have ih := dec_loop l hl hτ hpos hβ n (a + k) (found ++ [.int c]) ρ' g1 g2 g3 g4 (by rw [List.length_append, List.length_singleton]; omega) (by omega)
        have hdk : l.drop (a + k) = (b :: r).drop k := by rw [← hd, List.drop_drop]
        rw [hdk, dec_fuel step hpos (l.length - (a + k)) m ((b :: r).drop k) (by rw [List.length_drop]; omega) (by rw [List.length_drop]; omega)] at ih
        cases hq : dec step m ((b :: r).drop k) with
        | none => rw [hq] at ih; exact ih
        | some cs =>
          rw [hq] at ih
          obtain ⟨ρ₂, x1, x2⟩ := ih
          exact ⟨ρ₂, x1, by rw [x2]; simp⟩
    · rw [if_neg ha]
      have : l.length - a = 0 := by omega
      rw [this, List.drop_of_length_le (by omega)]
      exact ⟨ρ, rfl, by rw [h3]; simp⟩
noncomputable def rlist (o : Option (List Int)) : Option (Except Addr Dat) := match o with
  | none => some (.error 45)
  | some cs => some (.ok (.list (cs.map .int)))
theorem stepS_pos (s : List UInt8) (k : Nat) (c : Int) (h : stepS s = some (k, c)) : 0 < k := by
  cases s with
  | nil => simp [stepS, whole] at h
  | cons b r =>
    unfold stepS at h
    split at h
    · cases h; exact cutN_pos
    · cases h
theorem stepR_pos (s : List UInt8) (k : Nat) (c : Int) (h : stepR s = some (k, c)) : 0 < k := by
  cases s with
  | nil => cases h
  | cons b r => cases h; exact cutN_pos
/-- the end of a decoder -/
theorem dec_end {τ : EM Bool} {β : SM} {step : List UInt8 → Option (Nat × Int)} {l : List UInt8} (hl : l.length < 4096) {ρ : St} 
    (hL : match dec step (l.length - 0) (l.drop 0) with
      | none => whileM τ β 4096 ρ = some (.raise 45)
      | some cs => ∃ ρ', whileM τ β 4096 ρ = some (.next ρ') ∧ ρ'.own = some (1, [] ++ cs.map .int)) : resOf (SM.seq (whileM τ β 4096) (SM.retOwn 1) ρ) = rlist (dec step l.length l) := by
  rw [Nat.sub_zero, List.drop_zero] at hL
  cases hd : dec step l.length l with
  | none => rw [hd] at hL; rw [seq_raise hL]; rfl
  | some cs =>
    rw [hd] at hL
    obtain ⟨ρ', e1, e2⟩ := hL
    rw [seq_next e1, m_retOwn, e2]
    rfl
theorem f129 (l : List UInt8) (hl : l.length < 4096) : s129.F [.bytes l] = rlist (if allW l then some (read l) else none) := by
  have hl' : l.length ≤ 4096 := by omega
  rw [← dec_S l.length l (Nat.le_refl _)]
  unfold s129
  dsimp only [d_pure]
  refine (if_pos rfl).trans (r_seq (by exists hl') ?_)
  refine dec_end hl (dec_loop l hl' ?_ stepS_pos ?_ 4096 0 [] _ rfl rfl rfl rfl (Nat.le_refl _) (by omega))
  · intro ρ a h1 h2
    exact tau_len hl' h1 h2
  · intro ρ a found b r h1 h2 h3 h4 hd hf
    cases hw : whole (b :: r) with
    | false =>
      have hp := f122_f l a b r hd hl' hw
      rw [show stepS (b :: r) = none by unfold stepS; rw [hw]; rfl]
      exists hp
    | true =>
      have hp := f122_t l a b r hd hl' hw
      rw [show stepS (b :: r) = some (cutN (b :: r), (codeB (b :: r) : Int)) by unfold stepS; rw [hw]; rfl]
      refine w_to (by exists hp, hf) ?_
      exact ⟨h1, rfl, rfl, h4⟩
theorem f136 (l : List UInt8) (hl : l.length < 4096) : s136.F [.bytes l] = some (.ok (.list ((read l).map .int))) := by
  have hl' : l.length ≤ 4096 := by omega
  have e : rlist (dec stepR l.length l) = some (.ok (.list ((read l).map .int))) := by rw [dec_R l.length l (Nat.le_refl _)]; rfl
  rw [← e]
  unfold s136
  dsimp only [d_pure]
  refine (if_pos rfl).trans (r_seq (by exists hl') ?_)
  refine dec_end hl (dec_loop l hl' ?_ stepR_pos ?_ 4096 0 [] _ rfl rfl rfl rfl (Nat.le_refl _) (by omega))
  · intro ρ a h1 h2
    exact tau_len hl' h1 h2
  · intro ρ a found b r h1 h2 h3 h4 hd hf
    cases hw : whole (b :: r) with
    | false =>
      have hp := f122_f l a b r hd hl' hw
      rw [show stepR (b :: r) = some (cutN (b :: r), 65533) by unfold stepR val; dsimp only; rw [hw]; rfl]
      refine w_to (by exists hp, hf) ?_
      exact ⟨h1, rfl, rfl, h4⟩
    | true =>
      have hp := f122_t l a b r hd hl' hw
      rw [show stepR (b :: r) = some (cutN (b :: r), (codeB (b :: r) : Int)) by unfold stepR val; dsimp only; rw [hw]; rfl]
      refine w_to (by exists hp, hf) ?_
      exact ⟨h1, rfl, rfl, h4⟩
theorem itemD_t30 (x y z : Dat) : itemD (.tuple [x, y, z]) 0 = some x := (rfl)
theorem itemD_t31 (x y z : Dat) : itemD (.tuple [x, y, z]) 1 = some y := (rfl)
theorem itemD_t32 (x y z : Dat) : itemD (.tuple [x, y, z]) 2 = some z := (rfl)
theorem itemD_t20 (x y : Dat) : itemD (.tuple [x, y]) 0 = some x := (rfl)
theorem clip_nat (n a : Nat) : clipAt n (a : Int) = min a n := by
  unfold clipAt
  rw [if_neg (Int.not_lt.mpr (Int.natCast_nonneg a)), show min (a : Int) (n : Int) = ((min a n : Nat) : Int) by (rcases Nat.le_total a n with h | h; (· rw [Nat.min_eq_left h, Int.min_eq_left (Int.ofNat_le.mpr h)]); rw [Nat.min_eq_right h, Int.min_eq_right (Int.ofNat_le.mpr h)]), Int.max_eq_right (Int.natCast_nonneg _), Int.toNat_natCast]
theorem slice_eq (l : List UInt8) (lo hi : Option Int) (h : l.length ≤ 4096) : sliceD (.bytes l) lo hi = some (.bytes (sliceL l lo hi)) := if_pos h
theorem slice_to (l : List UInt8) (a : Nat) (h : l.length ≤ 4096) : sliceD (.bytes l) none (some (a : Int)) = some (.bytes (l.take a)) := by
  rw [slice_eq _ _ _ h]
  unfold sliceL
  simp only [Option.elim, clip_nat, List.drop_zero, Nat.sub_zero]
  by_cases ha : a ≤ l.length
  · rw [Nat.min_eq_left ha]
  · rw [Nat.min_eq_right (by omega), List.take_of_length_le (Nat.le_refl _), List.take_of_length_le (by omega)]
theorem slice_from (l : List UInt8) (a : Nat) (h : l.length ≤ 4096) : sliceD (.bytes l) (some (a : Int)) none = some (.bytes (l.drop a)) := by
  rw [slice_eq _ _ _ h]
  unfold sliceL
  simp only [Option.elim, clip_nat]
  rw [List.take_of_length_le (by rw [List.length_drop]; omega)]
  by_cases ha : a ≤ l.length
  · rw [Nat.min_eq_left ha]
  · rw [Nat.min_eq_right (by omega), List.drop_of_length_le (Nat.le_refl _), List.drop_of_length_le (by omega)]
theorem slice_mid (l : List UInt8) (a b : Nat) (h : l.length ≤ 4096) : sliceD (.bytes l) (some (a : Int)) (some (b : Int)) = some (.bytes ((l.drop a).take (b - a))) := by
  rw [slice_eq _ _ _ h]
  unfold sliceL
  simp only [Option.elim, clip_nat]
  by_cases ha : a ≤ l.length
  · rw [Nat.min_eq_left ha]
    by_cases hb : b ≤ l.length
    · rw [Nat.min_eq_left hb]
    · rw [Nat.min_eq_right (by omega), List.take_of_length_le (by rw [List.length_drop]; omega), List.take_of_length_le (by rw [List.length_drop]; omega)]
  · rw [Nat.min_eq_right (show l.length ≤ a by omega), List.drop_of_length_le (Nat.le_refl _), List.drop_of_length_le (by omega)]
    simp
theorem f143 (l : List UInt8) (hl : l.length ≤ 4096) (a : Nat) : s143.F [.bytes l, .int a] = some (.ok (.int ((a + cutN (l.drop a) : Nat) : Int))) := by
  unfold s143
  dsimp only [d_pure]
  refine (if_pos rfl).trans ?_
  have hn := lenF_bytes l hl
  by_cases ha : a < l.length
  · obtain ⟨b, r, hd⟩ := drop_cons_of ha
    have e : ¬ ((l.length : Nat) : Int) ≤ (a : Int) := by omega
    have hp := f122 l a b r hd hl
    unfold pieceD at hp
    have ht := itemD_t30 (.int (cutN (b :: r))) (if whole (b :: r) then .int (codeB (b :: r)) else .none) (.str (wrong (b :: r)))
    rw [hd]
    exact r_of (by exists hn, e, hp, ht) rfl
  · have e : ((l.length : Nat) : Int) ≤ (a : Int) := by omega
    rw [List.drop_of_length_le (by omega)]
    exact r_of (by exists hn, e) rfl
theorem seq_then {a b : SM} {ρ : St} {P : St → Prop} {x : Option (Except Addr Dat)} (h : ∃ ρ', a ρ = some (.next ρ') ∧ P ρ') (hK : ∀ ρ', P ρ' → resOf (b ρ') = x) : resOf (SM.seq a b ρ) = x := by
  obtain ⟨ρ', e, hp⟩ := h
  rw [seq_next e, hK ρ' hp]
noncomputable def isTrail (b : UInt8) : Bool := decide (128 ≤ b.toNat ∧ b.toNat < 192)
noncomputable def backN (l : List UInt8) (a : Nat) : Nat → Nat
  | 0 => 0
  | h + 1 => if a - (h + 1) < 4 ∧ ∃ b, l[h + 1]? = some b ∧ isTrail b = true then backN l a h else h + 1
theorem back_loop {τ : EM Bool} {β : SM} (l : List UInt8) (a : Nat) (ha : a ≤ l.length)
    (hτ : ∀ (ρ : St) (h : Nat), ρ.loc 0 = some (.bytes l) → ρ.loc 1 = some (.int a) → ρ.loc 2 = some (.int h) → ρ.own = none → ρ.stm = none → h < a → τ ρ = some (.ok (decide (0 < h ∧ a - h < 4 ∧ ∃ b, l[h]? = some b ∧ isTrail b = true))))
    (hβ : ∀ (ρ : St) (h : Nat), ρ.loc 0 = some (.bytes l) → ρ.loc 1 = some (.int a) → ρ.loc 2 = some (.int ((h + 1 : Nat) : Int)) → ρ.own = none → ρ.stm = none → ∃ ρ', β ρ = some (.next ρ') ∧ ρ'.loc 0 = some (.bytes l) ∧ ρ'.loc 1 = some (.int a) ∧ ρ'.loc 2 = some (.int h) ∧ ρ'.own = none ∧ ρ'.stm = none) :
    ∀ (n h : Nat) (ρ : St), ρ.loc 0 = some (.bytes l) → ρ.loc 1 = some (.int a) → ρ.loc 2 = some (.int h) → ρ.own = none → ρ.stm = none → h < a → h < n → ∃ ρ', whileM τ β n ρ = some (.next ρ') ∧ ρ'.loc 0 = some (.bytes l) ∧ ρ'.loc 1 = some (.int a) ∧ ρ'.loc 2 = some (.int (backN l a h))
  | 0, _, _, _, _, _, _, _, _, h => by omega
  | n + 1, h, ρ, h1, h2, h3, h4, h5, h6, h7 => by
    rw [whileM_succ]
    have e0 : SM.ofE τ (fun b => if b = true then fun ρ => after (whileM τ β n) (β ρ) else SM.next) ρ = if 0 < h ∧ a - h < 4 ∧ ∃ b, l[h]? = some b ∧ isTrail b = true then after (whileM τ β n) (β ρ) else some (.next ρ) := by
      unfold SM.ofE
      rw [hτ ρ h h1 h2 h3 h4 h5 h6]
      dsimp only
      by_cases hc : 0 < h ∧ a - h < 4 ∧ ∃ b, l[h]? = some b ∧ isTrail b = true
      · rw [if_pos (decide_eq_true hc), if_pos hc]
      · rw [if_neg (by rw [decide_eq_false hc]; decide), if_neg hc]; rfl
    rw [e0]
    cases h with
    | zero =>
      rw [if_neg (by omega)]
      exact ⟨ρ, rfl, h1, h2, h3⟩
    | succ h =>
      by_cases hc : a - (h + 1) < 4 ∧ ∃ b, l[h + 1]? = some b ∧ isTrail b = true
      · rw [if_pos ⟨Nat.succ_pos _, hc⟩]
        obtain ⟨ρ', g0, g1, g2, g3, g4, g5⟩ := hβ ρ h h1 h2 h3 h4 h5
        rw [g0, after_next]
        obtain ⟨ρ₂, x0, x1, x2, x3⟩ := back_loop l a ha hτ hβ n h ρ' g1 g2 g3 g4 g5 (by omega) (by omega)
        refine ⟨ρ₂, x0, x1, x2, ?_⟩
        rw [x3]
        unfold backN
        rw [if_pos hc]
        cases h <;> rfl
      · rw [if_neg (fun q => hc q.2)]
        refine ⟨ρ, rfl, h1, h2, ?_⟩
        rw [h3]
        unfold backN
        rw [if_neg hc]
theorem backN_le (l : List UInt8) (a : Nat) : ∀ h, backN l a h ≤ h
  | 0 => Nat.le_refl _
  | h + 1 => by
    unfold backN
    split
    · exact Nat.le_succ_of_le (backN_le l a h)
    · exact Nat.le_refl _
theorem f150 (l : List UInt8) (hl : l.length ≤ 4000) (a : Nat) (h0 : 0 < a) (ha : a ≤ l.length) : s150.F [.bytes l, .int a] = some (.ok (.int ((if backN l a (a - 1) + cutN ((l.take a).drop (backN l a (a - 1))) = a then backN l a (a - 1) else a - 1 : Nat) : Int))) := by
  have hl' : l.length ≤ 4096 := by omega
  unfold s150
  dsimp only [d_pure]
  have e1 : ¬ (a : Int) ≤ 0 := by omega
  have e2 : (a : Int) - 1 = ((a - 1 : Nat) : Int) := by omega
  have s0 := b_sub (a : Int) 1
  rw [e2] at s0
  refine (if_pos rfl).trans (r_seq (by exists e1) (r_seq (by exists s0) ?_))
  have hb := backN_le l a (a - 1)
  refine seq_then (back_loop l a ha ?_ ?_ 4096 (a - 1) _ rfl rfl rfl rfl rfl (by omega) (by omega)) ?_
  rotate_left 2
  · rintro ρ' ⟨x1, x2, x3⟩
    obtain ⟨b, r, hd⟩ := drop_cons_of (l := l.take a) (a := backN l a (a - 1)) (by rw [List.length_take]; omega)
    have e3 : (l.take a).length ≤ 4096 := by rw [List.length_take]; omega
    have hs := slice_to l a hl'
    have hp := f122 _ _ b r hd e3
    unfold pieceD at hp
    have ht := itemD_t30 (.int (cutN (b :: r))) (if whole (b :: r) then .int (codeB (b :: r)) else .none) (.str (wrong (b :: r)))
    rw [hd]
    by_cases hc : backN l a (a - 1) + cutN (b :: r) = a
    · have e4 : ((backN l a (a - 1) : Nat) : Int) + (cutN (b :: r) : Nat) = a := by omega
      rw [if_pos hc]
      exact r_of (by exists hs, hp, ht, e4) rfl
    · have e4 : ¬ ((backN l a (a - 1) : Nat) : Int) + (cutN (b :: r) : Nat) = a := by omega
      rw [if_neg hc]
      exact r_of (by exists hs, hp, ht, e4, s0) rfl
  · intro ρ h h1 h2 h3 h4 h5 h6
    obtain ⟨b, r, hd⟩ := drop_cons_of (l := l) (a := h) (by omega)
    have hb : l[h]? = some b := by
      have := congrArg (fun x => x[0]?) hd
      simpa using this
    have i0 := itemD_at hd hl'
    by_cases c1 : 0 < h
    · have x1 : (0 : Int) < (h : Nat) := by omega
      by_cases c2 : a - h < 4
      · have x2 : ((a : Nat) : Int) - (h : Nat) < 4 := by omega
        by_cases c3 : 128 ≤ b.toNat ∧ b.toNat < 192
        · have x3 : (128 : Int) ≤ (b.toNat : Nat) ∧ ((b.toNat : Nat) : Int) < 192 := by omega
          rw [decide_eq_true ⟨c1, c2, b, hb, decide_eq_true c3⟩]
          exists x1, x2, i0, x3
        · have x3 : ¬ ((128 : Int) ≤ (b.toNat : Nat) ∧ ((b.toNat : Nat) : Int) < 192) := by omega
          rw [decide_eq_false (fun q => by obtain ⟨_, _, c, hc, ht⟩ := q; cases hb.symm.trans hc; exact c3 (of_decide_eq_true ht))]
          exists x1, x2, i0, x3
      · have x2 : ¬ ((a : Nat) : Int) - (h : Nat) < 4 := by omega
        rw [decide_eq_false (fun q => c2 q.2.1)]
        exists x1, x2
    · have x1 : ¬ (0 : Int) < (h : Nat) := by omega
      rw [decide_eq_false (fun q => c1 q.1)]
      exists x1
  · intro ρ h h1 h2 h3 h4 h5
    have e6 : binD .Sub (.int ((h + 1 : Nat) : Int)) (.int 1) = some (.int (h : Int)) := by rw [b_sub]; congr 2; omega
    refine w_to (by exists e6) ?_
    exact ⟨h1, h2, rfl, h4, h5⟩
theorem f150z (l : List UInt8) : s150.F [.bytes l, .int 0] = some (.ok (.int 0)) := by
  unfold s150
  dsimp only [d_pure]
  refine (if_pos rfl).trans ?_
  have e : (0 : Int) ≤ 0 := by decide
  exact r_of (by exists e) rfl
theorem or_int {k x : Int} (a i : Nat) (hk : k = ((a * 2 ^ i : Nat) : Int)) (h0 : 0 ≤ x) (h : x < ((2 ^ i : Nat) : Int)) : Builtin.bitOr k x = k + x := by
  obtain ⟨n, rfl⟩ := Int.eq_ofNat_of_zero_le h0
  rw [hk]
  exact (bit_or (by exact Int.ofNat_lt.mp h)).trans (by omega)
theorem and_int {x k : Int} (i : Nat) (hk : k = ((2 ^ i - 1 : Nat) : Int)) (h0 : 0 ≤ x) : Builtin.bitAnd x k = x % ((2 ^ i : Nat) : Int) := by
  obtain ⟨n, rfl⟩ := Int.eq_ofNat_of_zero_le h0
  rw [hk]
  refine (bit_and _ _).trans ?_
  rw [and_mod]
  rfl
theorem and63 {x : Int} (h0 : 0 ≤ x) : Builtin.bitAnd x 63 = x % 64 := and_int 6 (by decide) h0
theorem d_64 (a : Int) : binD .FloorDiv (.int a) (.int 64) = some (.int (a / 64)) := b_div _ _ (by decide)
theorem d_4096 (a : Int) : binD .FloorDiv (.int a) (.int 4096) = some (.int (a / 4096)) := b_div _ _ (by decide)
theorem d_262144 (a : Int) : binD .FloorDiv (.int a) (.int 262144) = some (.int (a / 262144)) := b_div _ _ (by decide)
theorem d_1024 (a : Int) : binD .FloorDiv (.int a) (.int 1024) = some (.int (a / 1024)) := b_div _ _ (by decide)
theorem m_64 (a : Int) : binD .Mod (.int a) (.int 64) = some (.int (a % 64)) := b_mod _ _ (by decide)
theorem m_1024 (a : Int) : binD .Mod (.int a) (.int 1024) = some (.int (a % 1024)) := b_mod _ _ (by decide)
theorem p_6 : (2 : Int) ^ Int.toNat 6 = 64 := by decide
theorem p_10 : (2 : Int) ^ Int.toNat 10 = 1024 := by decide
theorem p_12 : (2 : Int) ^ Int.toNat 12 = 4096 := by decide
theorem p_18 : (2 : Int) ^ Int.toNat 18 = 262144 := by decide
/-- a piece of the wide forms -/
noncomputable def wide : List UInt8 → Nat × Option Int
  | b :: c :: d :: r => if b.toNat = 237 ∧ (160 ≤ c.toNat ∧ c.toNat ≤ 191) ∧ (128 ≤ d.toNat ∧ d.toNat ≤ 191) then (3, some ((53248 + (c.toNat - 128) * 64 + (d.toNat - 128) : Nat) : Int))
      else (cutN (b :: c :: d :: r), if whole (b :: c :: d :: r) then some (codeB (b :: c :: d :: r) : Int) else none)
  | l => (cutN l, if whole l then some (codeB l : Int) else none)
noncomputable abbrev optD : Option Int → Dat
  | none => .none
  | some c => .int c
noncomputable def wrongW : List UInt8 → Str
  | b :: c :: d :: r => if b.toNat = 237 ∧ (160 ≤ c.toNat ∧ c.toNat ≤ 191) ∧ (128 ≤ d.toNat ∧ d.toNat ≤ 191) then "" else wrong (b :: c :: d :: r)
  | l => wrong l
noncomputable def wideD (l : List UInt8) : Dat := .tuple [.int (wide l).1, optD (wide l).2, .str (wrongW l)]
theorem f201 (l : List UInt8) (a : Nat) (b : UInt8) (r : List UInt8) (h : l.drop a = b :: r) (hl : l.length ≤ 4096) : s201.F [.bytes l, .int a] = some (.ok (wideD (b :: r))) := by
  have hlen := congrArg List.length h
  rw [List.length_drop, List.length_cons] at hlen
  have hdr : l.drop (a + 1) = r := by
    have := congrArg (List.drop 1) h
    rw [List.drop_drop] at this
    simpa using this
  have hp := f122 l a b r h hl
  have hn := lenF_bytes l hl
  have i0 := itemD_at h hl
  have k1 : binD .Add (.int (a : Int)) (.int 1) = some (.int ((a + 1 : Nat) : Int)) := (b_add _ _)
  have k2 : binD .Add (.int (a : Int)) (.int 2) = some (.int ((a + 2 : Nat) : Int)) := (b_add _ _)
  unfold s201
  dsimp only [d_pure]
  refine (if_pos rfl).trans ?_
  have hpi : (¬ (b.toNat = 237 ∧ ∃ c d r', r = c :: d :: r' ∧ (160 ≤ c.toNat ∧ c.toNat ≤ 191) ∧ (128 ≤ d.toNat ∧ d.toNat ≤ 191))) → pieceD (b :: r) = wideD (b :: r) := by
    intro hn
    unfold wideD pieceD wide wrongW
    match r with
    | [] => dsimp only; cases whole [b] <;> rfl
    | [c] => dsimp only; cases whole [b, c] <;> rfl
    | c :: d :: r => 
      have : ¬ (b.toNat = 237 ∧ (160 ≤ c.toNat ∧ c.toNat ≤ 191) ∧ (128 ≤ d.toNat ∧ d.toNat ≤ 191)) := fun q => hn ⟨q.1, c, d, r, rfl, q.2⟩
      dsimp only
      rw [if_neg this, if_neg this]
      dsimp only
      cases whole (b :: c :: d :: r) <;> rfl
  by_cases hall : b.toNat = 237 ∧ ∃ c d r', r = c :: d :: r' ∧ (160 ≤ c.toNat ∧ c.toNat ≤ 191) ∧ (128 ≤ d.toNat ∧ d.toNat ≤ 191)
  · clear hpi hp
    obtain ⟨h1, c, d, r', rfl, c1, c2⟩ := hall
    have e1 : ((b.toNat : Nat) : Int) = 237 := by omega
    rw [List.length_cons, List.length_cons] at hlen
    have hdr2 : l.drop (a + 2) = d :: r' := by
      have := congrArg (List.drop 1) hdr
      rw [List.drop_drop] at this
      simpa using this
    have e2 : ((a + 2 : Nat) : Int) < (l.length : Nat) := by omega
    have i1 := itemD_at hdr hl
    have i2 := itemD_at hdr2 hl
    have x1 : (160 : Int) ≤ (c.toNat : Int) ∧ (c.toNat : Int) ≤ 191 := by omega
    have x2 : (128 : Int) ≤ (d.toNat : Int) ∧ (d.toNat : Int) ≤ 191 := by omega
    have a1 := b_and (c.toNat : Int) 63
    rw [and63 (by omega), show (c.toNat : Int) % 64 = (c.toNat : Int) - 128 by omega] at a1
    have a2 := b_and (d.toNat : Int) 63
    rw [and63 (by omega), show (d.toNat : Int) % 64 = (d.toNat : Int) - 128 by omega] at a2
    have s1 := b_shl ((c.toNat : Int) - 128) 6 ⟨by decide, by decide, by omega⟩
    rw [p_6] at s1
    have o1 := b_or 53248 (((c.toNat : Int) - 128) * 64)
    rw [or_int 13 12 (by decide) (by omega) (by omega)] at o1
    have o2 := b_or (53248 + ((c.toNat : Int) - 128) * 64) ((d.toNat : Int) - 128)
    rw [or_int (832 + (c.toNat - 128)) 6 (by omega) (by omega) (by omega)] at o2
    have e : (53248 + ((c.toNat : Int) - 128) * 64 + ((d.toNat : Int) - 128)) = ((53248 + (c.toNat - 128) * 64 + (d.toNat - 128) : Nat) : Int) := by omega
    rw [e] at o2
    have hg : wideD (b :: c :: d :: r') = .tuple [.int 3, .int ((53248 + (c.toNat - 128) * 64 + (d.toNat - 128) : Nat) : Int), .str ""] := by
      unfold wideD wide wrongW
      dsimp only
      rw [if_pos ⟨h1, c1, c2⟩, if_pos ⟨h1, c1, c2⟩]
      rfl
    rw [hg]
    exact r_of (by exists i0, e1, k2, hn, e2, k1, i1, x1, i2, x2, a1, s1, o1, a2, o2) rfl
  · rw [hpi hall] at hp
    clear hpi
    rw [seq_next (ρ' := startOf [0, 1] [.bytes l, .int a])]
    · exact r_of (by exists hp) rfl
    clear hp
    by_cases h1 : b.toNat = 237
    · have e1 : ((b.toNat : Nat) : Int) = 237 := by omega
      by_cases h2 : a + 2 < l.length
      · have e2 : ((a + 2 : Nat) : Int) < (l.length : Nat) := by omega
        obtain ⟨c, r', hc⟩ := drop_cons_of (show a + 1 < l.length by omega)
        obtain ⟨d, r'', hd⟩ := drop_cons_of h2
        have i1 := itemD_at hc hl
        have i2 := itemD_at hd hl
        by_cases c1 : 160 ≤ c.toNat ∧ c.toNat ≤ 191
        · have x1 : (160 : Int) ≤ (c.toNat : Int) ∧ (c.toNat : Int) ≤ 191 := by omega
          have x2 : ¬ ((128 : Int) ≤ (d.toNat : Int) ∧ (d.toNat : Int) ≤ 191) := by
            intro q
            have q' : 128 ≤ d.toNat ∧ d.toNat ≤ 191 := by omega
            have hr : r' = d :: r'' := by
              have := congrArg (List.drop 1) hc
              rw [List.drop_drop] at this
              simpa [hd] using this.symm
            exact hall ⟨h1, c, d, r'', hdr.symm.trans (hc.trans (by rw [hr])), c1, q'⟩
          exists i0, e1, k2, hn, e2, k1, i1, x1, i2, x2
        · have x1 : ¬ ((160 : Int) ≤ (c.toNat : Int) ∧ (c.toNat : Int) ≤ 191) := by omega
          exists i0, e1, k2, hn, e2, k1, i1, x1
      · have e2 : ¬ ((a + 2 : Nat) : Int) < (l.length : Nat) := by omega
        exists i0, e1, k2, hn, e2
    · have e1 : ¬ ((b.toNat : Nat) : Int) = 237 := by omega
      exists i0, e1
theorem f194 (h l : Int) (hh : h.natAbs < 2 ^ 40) : s194.F [.int h, .int l] = some (.ok (.int (65536 + (h - 55296) * 1024 + (l - 56320)))) := by
  unfold s194
  dsimp only [d_pure]
  have e : binD .LShift (.int (h - 55296)) (.int 10) = some (.int ((h - 55296) * 2 ^ (10 : Int).toNat)) := b_shl _ _ ⟨by decide, by decide, by omega⟩
  exact (if_pos rfl).trans (r_of (by exists e) rfl)
noncomputable def surr (c : Int) : List Int := [55296 + (c - 65536) / 1024, 56320 + c % 1024]
theorem f187 (c : Int) (h : 65536 ≤ c) : s187.F [.int c] = some (.ok (.list ((surr c).map .int))) := by
  unfold s187
  dsimp only [d_pure]
  have r10 : binD .RShift (.int (c - 65536)) (.int 10) = some (.int ((c - 65536) / 1024)) := by rw [b_shr _ _ (by decide), p_10]
  have a10 : binD .BitAnd (.int (c - 65536)) (.int 1023) = some (.int (c % 1024)) := by
    rw [b_and, and_int 10 (by decide) (by omega)]; congr 2; omega
  exact (if_pos rfl).trans (r_seq (by exists h) (r_of (by exists r10, a10) rfl))
noncomputable def octI (c : Int) : List Int := if c < 128 then [c] else if c < 2048 then [192 + c / 64, 128 + c % 64] else if c < 65536 then [224 + c / 4096, 128 + c / 64 % 64, 128 + c % 64] else [240 + c / 262144, 128 + c / 4096 % 64, 128 + c / 64 % 64, 128 + c % 64]
theorem r_6 (c : Int) : binD .RShift (.int c) (.int 6) = some (.int (c / 64)) := by rw [b_shr _ _ (by decide), p_6]
theorem r_12 (c : Int) : binD .RShift (.int c) (.int 12) = some (.int (c / 4096)) := by rw [b_shr _ _ (by decide), p_12]
theorem r_18 (c : Int) : binD .RShift (.int c) (.int 18) = some (.int (c / 262144)) := by rw [b_shr _ _ (by decide), p_18]
theorem a_63 {c : Int} (h : 0 ≤ c) : binD .BitAnd (.int c) (.int 63) = some (.int (c % 64)) := by rw [b_and, and63 h]
theorem o_128 (c : Int) : binD .BitOr (.int 128) (.int (c % 64)) = some (.int (128 + c % 64)) := by rw [b_or, or_int 1 7 (by decide) (by omega) (by omega)]
theorem f101 (c : Int) (h0 : 0 ≤ c) (h : c ≤ 1114111) : s101.F [.int c] = some (.ok (.list ((octI c).map .int))) := by
  unfold s101
  dsimp only [d_pure]
  refine (if_pos rfl).trans ?_
  have r6 := r_6 c
  have a0 := a_63 h0
  have o0 := o_128 c
  unfold octI
  by_cases h1 : c < 128
  · rw [if_pos h1]
    exact r_of (by exists h1) rfl
  · rw [if_neg h1]
    by_cases h2 : c < 2048
    · rw [if_pos h2]
      have o := b_or 192 (c / 64)
      rw [or_int 3 6 (by decide) (by omega) (by omega)] at o
      exact r_of (by exists h1, h2, r6, o, a0, o0) rfl
    · rw [if_neg h2]
      have a6 := a_63 (show 0 ≤ c / 64 by omega)
      have o6 := o_128 (c / 64)
      have r12 := r_12 c
      by_cases h3 : c < 65536
      · rw [if_pos h3]
        have o := b_or 224 (c / 4096)
        rw [or_int 7 5 (by decide) (by omega) (by omega)] at o
        exact r_of (by exists h1, h2, h3, r12, o, r6, a6, o6, a0, o0) rfl
      · rw [if_neg h3]
        have r18 := r_18 c
        have a12 := a_63 (show 0 ≤ c / 4096 by omega)
        have o12 := o_128 (c / 4096)
        have o := b_or 240 (c / 262144)
        rw [or_int 15 4 (by decide) (by omega) (by omega)] at o
        have hx := b_addl [.int (240 + c / 262144), .int (128 + c / 4096 % 64)] [.int (128 + c / 64 % 64), .int (128 + c % 64)] (Nat.le_of_ble_eq_true rfl)
        exact r_of (by exists h1, h2, h3, r18, o, r12, a12, o12, r6, a6, o6, a0, o0, hx) rfl
theorem f334 (c : Int) : s334.F [.int c] = some (.ok (.list ((octI c).map .int))) := by
  unfold s334
  dsimp only [d_pure]
  refine (if_pos rfl).trans ?_
  have d6 := d_64 c
  have d12 := d_4096 c
  have d18 := d_262144 c
  have m0 := m_64 c
  have m6 := m_64 (c / 64)
  have m12 := m_64 (c / 4096)
  unfold octI
  by_cases h1 : c < 128
  · rw [if_pos h1]
    exact r_of (by exists h1) rfl
  · rw [if_neg h1]
    by_cases h2 : c < 2048
    · rw [if_pos h2]
      exact r_of (by exists h1, h2, d6, m0) rfl
    · rw [if_neg h2]
      by_cases h3 : c < 65536
      · rw [if_pos h3]
        exact r_of (by exists h1, h2, h3, d12, d6, m6, m0) rfl
      · rw [if_neg h3]
        exact r_of (by exists h1, h2, h3, d18, d12, m12, d6, m6, m0) rfl
theorem f208 (l : List UInt8) (hl : l.length ≤ 4096) (a : Nat) : s208.F [.bytes l, .int a] = some (.ok (optD (match (wide (l.drop a)).2 with
    | none => none
    | some c => if 56320 ≤ c ∧ c ≤ 57343 then some c else none))) := by
  unfold s208
  dsimp only [d_pure]
  refine (if_pos rfl).trans ?_
  have hn := lenF_bytes l hl
  by_cases ha : a < l.length
  · obtain ⟨b, r, hd⟩ := drop_cons_of ha
    have e : ¬ ((l.length : Nat) : Int) ≤ (a : Int) := by omega
    have hp := f201 l a b r hd hl
    unfold wideD at hp
    have ht := itemD_t31 (.int (wide (b :: r)).1) (optD (wide (b :: r)).2) (.str (wrongW (b :: r)))
    rw [hd]
    cases hw : (wide (b :: r)).2 with
    | none =>
      rw [hw] at hp ht
      exact r_of (by exists hn, e, hp, ht) rfl
    | some c =>
      rw [hw] at hp ht
      have hq := f80 c
      dsimp only
      by_cases hc : 56320 ≤ c ∧ c ≤ 57343
      · rw [if_pos hc]
        exact r_of (by exists hn, e, hp, ht, hq, hc) rfl
      · rw [if_neg hc]
        exact r_of (by exists hn, e, hp, ht, hq, hc) rfl
  · have e : ((l.length : Nat) : Int) ≤ (a : Int) := by omega
    rw [List.drop_of_length_le (by omega)]
    exact r_of (by exists hn, e) rfl
noncomputable def lowB (s : List UInt8) : Option Int := match (wide s).2 with
  | none => none
  | some c => if 56320 ≤ c ∧ c ≤ 57343 then some c else none
noncomputable def joinI (h l : Int) : Int := 65536 + (h - 55296) * 1024 + (l - 56320)
noncomputable def stepC (s : List UInt8) : Option (Nat × Int) := match (wide s).2 with
  | none => none
  | some c => if (wide s).1 = 4 then none else if 55296 ≤ c ∧ c ≤ 56319 then (match lowB (s.drop 3) with
      | none => none
      | some lo => some (6, joinI c lo)) else if 56320 ≤ c ∧ c ≤ 57343 then none else some ((wide s).1, c)
noncomputable def stepM (s : List UInt8) : Option (Nat × Int) := if s.take 2 = [192, 128] then some (2, 0) else if s.head? = some 0 then none else match (wide s).2 with
  | none => none
  | some c => if (wide s).1 = 4 then none else if 55296 ≤ c ∧ c ≤ 56319 then (match lowB (s.drop 3) with
      | none => some ((wide s).1, c)
      | some lo => some (6, joinI c lo)) else some ((wide s).1, c)
noncomputable def stepW (s : List UInt8) : Option (Nat × Int) := match (wide s).2 with
  | none => none
  | some c => if 55296 ≤ c ∧ c ≤ 56319 then (match lowB (s.drop 3) with
      | none => some ((wide s).1, c)
      | some _ => none) else some ((wide s).1, c)
theorem wide_pos {s : List UInt8} {c : Int} (h : (wide s).2 = some c) : 0 < (wide s).1 := by
  unfold wide at h ⊢
  split
  · split
    · exact Nat.succ_pos _
    · exact cutN_pos
  · rename_i l hl
    dsimp only at h ⊢
    cases s with
    | nil => simp [whole] at h
    | cons b r => exact cutN_pos
theorem stepC_pos (s : List UInt8) (k : Nat) (c : Int) (h : stepC s = some (k, c)) : 0 < k := by
  unfold stepC at h
  repeat' (split at h)
  all_goals first | (cases h; done) | skip
  · cases h; decide
  · rename_i e _ _ _; cases h; exact wide_pos e
theorem stepM_pos (s : List UInt8) (k : Nat) (c : Int) (h : stepM s = some (k, c)) : 0 < k := by
  unfold stepM at h
  repeat' (split at h)
  all_goals first | (cases h; done) | skip
  · cases h; decide
  · rename_i e _ _ _ _; cases h; exact wide_pos e
  · cases h; decide
  · rename_i e _ _; cases h; exact wide_pos e
theorem stepW_pos (s : List UInt8) (k : Nat) (c : Int) (h : stepW s = some (k, c)) : 0 < k := by
  unfold stepW at h
  repeat' (split at h)
  all_goals first | (cases h; done) | skip
  · rename_i e _ _ _; cases h; exact wide_pos e
  · rename_i e _; cases h; exact wide_pos e
theorem f208' (l : List UInt8) (hl : l.length ≤ 4096) (a : Nat) : s208.F [.bytes l, .int ((a : Int) + 3)] = some (.ok (optD (lowB (l.drop (a + 3))))) := f208 l hl (a + 3)
theorem f222 (l : List UInt8) (hl : l.length < 4096) : s222.F [.bytes l] = rlist (dec stepC l.length l) := by
  have hl' : l.length ≤ 4096 := by omega
  unfold s222
  dsimp only [d_pure]
  refine (if_pos rfl).trans (r_seq (by exists hl') ?_)
  refine dec_end hl (dec_loop l hl' ?_ stepC_pos ?_ 4096 0 [] _ rfl rfl rfl rfl (Nat.le_refl _) (by omega))
  · intro ρ a h1 h2
    exact tau_len hl' h1 h2
  · intro ρ a found b r h1 h2 h3 h4 hd hf
    have hd3 : (b :: r).drop 3 = l.drop (a + 3) := by rw [← hd, List.drop_drop]
    have hp := f201 l a b r hd hl'
    unfold wideD at hp
    unfold stepC
    rw [hd3]
    cases hw : (wide (b :: r)).2 with
    | none =>
      rw [hw] at hp
      exists hp
    | some c =>
      rw [hw] at hp
      dsimp only
      by_cases h4' : (wide (b :: r)).1 = 4
      · rw [if_pos h4']
        have e : ((wide (b :: r)).1 : Int) = 4 := by omega
        exists hp, e
      · rw [if_neg h4']
        have e : ¬ ((wide (b :: r)).1 : Int) = 4 := by omega
        have hq := f73 c
        by_cases hh : 55296 ≤ c ∧ c ≤ 56319
        · rw [if_pos hh]
          have hs := f208' l hl' a
          cases hlo : lowB (l.drop (a + 3)) with
          | none =>
            rw [hlo] at hs
            exists hp, e, hq, hh, hs
          | some lo =>
            rw [hlo] at hs
            have hj := f194 c lo (by omega)
            refine w_to (by exists hp, e, hq, hh, hs, hj, hf) ?_
            exact ⟨h1, rfl, rfl, h4⟩
        · rw [if_neg hh]
          have hs := f80 c
          by_cases hlo : 56320 ≤ c ∧ c ≤ 57343
          · rw [if_pos hlo]
            exists hp, e, hq, hh, hs, hlo
          · rw [if_neg hlo]
            refine w_to (by exists hp, e, hq, hh, hs, hlo, hf) ?_
            exact ⟨h1, rfl, rfl, h4⟩
theorem slice_at2 (l : List UInt8) (hl : l.length ≤ 4096) (a : Nat) : sliceD (.bytes l) (some (a : Int)) (some ((a : Int) + 2)) = some (.bytes ((l.drop a).take 2)) := by
  have := slice_mid l a (a + 2) hl
  rw [Nat.add_sub_cancel_left] at this
  exact this
theorem f236 (l : List UInt8) (hl : l.length < 4096) : s236.F [.bytes l] = rlist (dec stepM l.length l) := by
  have hl' : l.length ≤ 4096 := by omega
  unfold s236
  dsimp only [d_pure]
  refine (if_pos rfl).trans (r_seq (by exists hl') ?_)
  refine dec_end hl (dec_loop l hl' ?_ stepM_pos ?_ 4096 0 [] _ rfl rfl rfl rfl (Nat.le_refl _) (by omega))
  · intro ρ a h1 h2
    exact tau_len hl' h1 h2
  · intro ρ a found b r h1 h2 h3 h4 hd hf
    have hd3 : (b :: r).drop 3 = l.drop (a + 3) := by rw [← hd, List.drop_drop]
    have hs := slice_at2 l hl' a
    rw [hd] at hs
    unfold stepM
    rw [hd3]
    by_cases hz : (b :: r).take 2 = [192, 128]
    · rw [if_pos hz]
      refine w_to (by exists hs, hf, hz, f73 0) ?_
      exact ⟨h1, rfl, rfl, h4⟩
    rw [if_neg hz]
    have hi := itemD_at hd hl'
    by_cases hn : b = 0
    · subst hn
      rw [if_pos (show (0 :: r : List UInt8).head? = some 0 from rfl)]
      have hn' : (((0 : UInt8).toNat : Nat) : Int) = 0 := rfl
      exists hs, hi, hf, hz, hn'
    rw [if_neg (by simpa using hn)]
    have hn' : ¬ ((b.toNat : Nat) : Int) = 0 := by
      intro q
      apply hn
      have : b.toNat = 0 := by omega
      exact UInt8.toNat_inj.mp this
    have hp := f201 l a b r hd hl'
    unfold wideD at hp
    rw [seq_next]
    rotate_left
    · exists hs, hi, hz, hn', hp
    cases hw : (wide (b :: r)).2 with
    | none => exists hf
    | some c =>
      dsimp only
      by_cases h4' : (wide (b :: r)).1 = 4
      · rw [if_pos h4']
        have e : ((wide (b :: r)).1 : Int) = 4 := by omega
        exists e
      · rw [if_neg h4']
        have e : ¬ ((wide (b :: r)).1 : Int) = 4 := by omega
        have hq := f73 c
        by_cases hh : 55296 ≤ c ∧ c ≤ 56319
        · rw [if_pos hh]
          have hs := f208' l hl' a
          cases hlo : lowB (l.drop (a + 3)) with
          | none =>
            rw [hlo] at hs
            refine w_to (by exists e, hq, hh, hs, hf) ?_
            exact ⟨h1, rfl, rfl, h4⟩
          | some lo =>
            rw [hlo] at hs
            have hj := f194 c lo (by omega)
            refine w_to (by exists e, hq, hh, hs, hj, hf) ?_
            exact ⟨h1, rfl, rfl, h4⟩
        · rw [if_neg hh]
          refine w_to (by exists e, hq, hh, hf) ?_
          exact ⟨h1, rfl, rfl, h4⟩
theorem f250 (l : List UInt8) (hl : l.length < 4096) : s250.F [.bytes l] = rlist (dec stepW l.length l) := by
  have hl' : l.length ≤ 4096 := by omega
  unfold s250
  dsimp only [d_pure]
  refine (if_pos rfl).trans (r_seq (by exists hl') ?_)
  refine dec_end hl (dec_loop l hl' ?_ stepW_pos ?_ 4096 0 [] _ rfl rfl rfl rfl (Nat.le_refl _) (by omega))
  · intro ρ a h1 h2
    exact tau_len hl' h1 h2
  · intro ρ a found b r h1 h2 h3 h4 hd hf
    have hd3 : (b :: r).drop 3 = l.drop (a + 3) := by rw [← hd, List.drop_drop]
    have hp := f201 l a b r hd hl'
    unfold wideD at hp
    unfold stepW
    rw [hd3]
    cases hw : (wide (b :: r)).2 with
    | none =>
      rw [hw] at hp
      exists hp
    | some c =>
      rw [hw] at hp
      have hq := f73 c
      dsimp only
      by_cases hh : 55296 ≤ c ∧ c ≤ 56319
      · rw [if_pos hh]
        have hs := f208' l hl' a
        cases hlo : lowB (l.drop (a + 3)) with
        | none =>
          rw [hlo] at hs
          refine w_to (by exists hp, hq, hh, hs, hf) ?_
          exact ⟨h1, rfl, rfl, h4⟩
        | some lo =>
          rw [hlo] at hs
          exists hp, hq, hh, hs
      · rw [if_neg hh]
        refine w_to (by exists hp, hq, hh, hf) ?_
        exact ⟨h1, rfl, rfl, h4⟩
theorem many_all : (List.range 256).all (fun b => isOk (s266.F [.int (b : Nat)]) fun d => isI d (manyP b)) = true := by decide +kernel
theorem f266 (u : UInt8) : s266.F [.int u.toNat] = some (.ok (.int (manyP u.toNat))) := by
  obtain ⟨d, h, g⟩ := isOk_eq (List.all_eq_true.mp many_all u.toNat (List.mem_range.mpr u.toNat_lt))
  rw [h, isI_eq g]
theorem sec_all : (List.range 256).all (fun b => isOk ((secD [.int (b : Nat), .tuple [.int 128, .int 191]]).map .ok) fun d => isT d [(loP b : Int), (hiP b : Int)]) = true := by decide +kernel
theorem secD_eq (u : UInt8) : secD [.int u.toNat, .tuple [.int 128, .int 191]] = some (.tuple [.int (loP u.toNat), .int (hiP u.toNat)]) := by
  obtain ⟨d, h, g⟩ := isOk_eq (List.all_eq_true.mp sec_all u.toNat (List.mem_range.mpr u.toNat_lt))
  obtain ⟨e, h1, h2⟩ := Option.map_eq_some_iff.mp h
  injection h2 with h2
  rw [h1, h2, isT_eq g]; rfl
noncomputable def inR (lo hi : Nat) : List UInt8 → Bool
  | [] => false
  | u :: _ => decide (lo ≤ u.toNat ∧ u.toNat ≤ hi)
theorem inR_cons (lo hi : Nat) (u : UInt8) (r : List UInt8) : inR lo hi (u :: r) = decide (lo ≤ u.toNat ∧ u.toNat ≤ hi) := rfl
theorem cut_loop {τ : EM Bool} {β : SM} (l : List UInt8) (a many : Nat)
    (hτ : ∀ (ρ : St) (k lo hi : Nat), ρ.loc 0 = some (.bytes l) → ρ.loc 1 = some (.int a) → ρ.loc 2 = some (.int many) → ρ.loc 3 = some (.int lo) → ρ.loc 4 = some (.int hi) → ρ.loc 5 = some (.int k) → τ ρ = some (.ok (decide (k < many) && inR lo hi (l.drop (a + k)))))
    (hβ : ∀ (ρ : St) (k : Nat), ρ.own = none → ρ.stm = none → ρ.loc 0 = some (.bytes l) → ρ.loc 1 = some (.int a) → ρ.loc 2 = some (.int many) → ρ.loc 5 = some (.int k) → ∃ ρ', β ρ = some (.next ρ') ∧ ρ'.own = none ∧ ρ'.stm = none ∧ ρ'.loc 0 = some (.bytes l) ∧ ρ'.loc 1 = some (.int a) ∧ ρ'.loc 2 = some (.int many) ∧ ρ'.loc 3 = some (.int 128) ∧ ρ'.loc 4 = some (.int 191) ∧ ρ'.loc 5 = some (.int ((k + 1 : Nat) : Int))) :
    ∀ (n k lo hi : Nat) (ρ : St), ρ.own = none → ρ.stm = none → ρ.loc 0 = some (.bytes l) → ρ.loc 1 = some (.int a) → ρ.loc 2 = some (.int many) → ρ.loc 3 = some (.int lo) → ρ.loc 4 = some (.int hi) → ρ.loc 5 = some (.int k) → many - k < n →
      ∃ ρ', whileM τ β n ρ = some (.next ρ') ∧ ρ'.loc 2 = some (.int many) ∧ ρ'.loc 5 = some (.int ((k + takes (many - k) lo hi (l.drop (a + k)) : Nat) : Int))
  | 0, _, _, _, _, _, _, _, _, _, _, _, _, h => by omega
  | n + 1, k, lo, hi, ρ, h1, h2, h3, h4, h5, h6, h7, h8, h9 => by
    rw [whileM_succ]
    have e0 : SM.ofE τ (fun b => if b = true then fun ρ => after (whileM τ β n) (β ρ) else SM.next) ρ = if (decide (k < many) && inR lo hi (l.drop (a + k))) = true then after (whileM τ β n) (β ρ) else some (.next ρ) := by
      unfold SM.ofE
      rw [hτ ρ k lo hi h3 h4 h5 h6 h7 h8]
      dsimp only
      cases (decide (k < many) && inR lo hi (l.drop (a + k))) <;> rfl
    rw [e0]
    by_cases hc : (decide (k < many) && inR lo hi (l.drop (a + k))) = true
    · rw [if_pos hc]
      obtain ⟨hk, hin⟩ := Bool.and_eq_true_iff.mp hc
      have hk : k < many := of_decide_eq_true hk
      obtain ⟨u, r, hd, hu⟩ : ∃ u r, l.drop (a + k) = u :: r ∧ lo ≤ u.toNat ∧ u.toNat ≤ hi := by
        cases hd : l.drop (a + k) with
        | nil => rw [hd] at hin; cases hin
        | cons u r => rw [hd] at hin; exact ⟨u, r, rfl, of_decide_eq_true hin⟩
      obtain ⟨ρ', g0, g1, g2, g3, g4, g5, g6, g7, g8⟩ := hβ ρ k h1 h2 h3 h4 h5 h8
      rw [g0, after_next]
      obtain ⟨ρ₂, x0, x1, x2⟩ := cut_loop l a many hτ hβ n (k + 1) 128 191 ρ' g1 g2 g3 g4 g5 g6 g7 g8 (by omega)
      refine ⟨ρ₂, x0, x1, ?_⟩
      rw [x2]
      have hr : l.drop (a + (k + 1)) = r := by
        have := congrArg (List.drop 1) hd
        rw [List.drop_drop] at this
        simpa [Nat.add_assoc] using this
      obtain ⟨m, hm⟩ : ∃ m, many - k = m + 1 := ⟨many - k - 1, by omega⟩
      have hm' : many - (k + 1) = m := by omega
      rw [hr, hd, hm, hm']
      simp only [takes, if_pos hu]
      rw [show k + 1 + takes m 128 191 r = k + (1 + takes m 128 191 r) by omega]
    · rw [if_neg hc]
      refine ⟨ρ, rfl, h5, ?_⟩
      rw [h8]
      have e : takes (many - k) lo hi (l.drop (a + k)) = 0 := by
        cases hm : many - k with
        | zero => rfl
        | succ m =>
          cases hd : l.drop (a + k) with
          | nil => rfl
          | cons u r =>
            simp only [takes]
            refine if_neg (fun q => hc ?_)
            rw [hd, Bool.and_eq_true_iff]
            exact ⟨decide_eq_true (by omega), decide_eq_true q⟩
      rw [e]
      rfl
theorem f273 (l : List UInt8) (a : Nat) (b : UInt8) (r : List UInt8) (h : l.drop a = b :: r) (hl : l.length ≤ 4096) : s273.F [.bytes l, .int a] = some (.ok (.tuple [.int (cutN (b :: r)), .bool (whole (b :: r))])) := by
  have hr : l.drop (a + 1) = r := by
    have := congrArg (List.drop 1) h
    rw [List.drop_drop] at this
    simpa using this
  unfold s273
  dsimp only [d_pure]
  have i0 := itemD_at h hl
  have hm := f266 b
  have hs := secD_eq b
  have hn := lenF_bytes l hl
  refine (if_pos rfl).trans (r_seq (by exists i0, hm) (r_seq (by exists i0, hs) (r_seq (by exists i0) ?_)))
  refine seq_then (cut_loop l a (manyP b.toNat) ?_ ?_ 4096 1 (loP b.toNat) (hiP b.toNat) _ rfl rfl rfl rfl rfl rfl rfl rfl (by have := manyP_le b.toNat; omega)) ?_
  rotate_left 2
  · rintro ρ' ⟨x1, x2⟩
    rw [hr] at x2
    rw [whole_cons, cutN_cons]
    have e : cmpD .Eq (.int ((1 + takes (manyP b.toNat - 1) (loP b.toNat) (hiP b.toNat) r : Nat) : Int)) (.int (manyP b.toNat : Nat)) = some (1 + takes (manyP b.toNat - 1) (loP b.toNat) (hiP b.toNat) r == manyP b.toNat) := by
      rw [v_eqi]
      by_cases q : 1 + takes (manyP b.toNat - 1) (loP b.toNat) (hiP b.toNat) r = manyP b.toNat
      · rw [decide_eq_true (by omega), q, beq_self_eq_true]
      · rw [decide_eq_false (by omega), beq_eq_false_iff_ne.mpr q]
    exact r_of (by exists e) rfl
  · intro ρ k lo hi h1 h2 h3 h4 h5 h6
    have k1 : binD .Add (.int (a : Int)) (.int (k : Int)) = some (.int ((a + k : Nat) : Int)) := (b_add _ _)
    by_cases c1 : k < manyP b.toNat
    · have x1 : ((k : Nat) : Int) < (manyP b.toNat : Nat) := by omega
      rw [decide_eq_true c1, Bool.true_and]
      by_cases c2 : a + k < l.length
      · have x2 : ((a + k : Nat) : Int) < (l.length : Nat) := by omega
        obtain ⟨u, t, hd⟩ := drop_cons_of c2
        have i1 := itemD_at hd hl
        rw [hd, inR_cons]
        by_cases c3 : lo ≤ u.toNat ∧ u.toNat ≤ hi
        · have x3 : (lo : Int) ≤ (u.toNat : Int) ∧ (u.toNat : Int) ≤ (hi : Int) := by omega
          rw [decide_eq_true c3]
          exists x1, k1, hn, x2, i1, x3
        · have x3 : ¬ ((lo : Int) ≤ (u.toNat : Int) ∧ (u.toNat : Int) ≤ (hi : Int)) := by omega
          rw [decide_eq_false c3]
          exists x1, k1, hn, x2, i1, x3
      · have x2 : ¬ ((a + k : Nat) : Int) < (l.length : Nat) := by omega
        rw [List.drop_of_length_le (by omega)]
        show _ = some (Except.ok false)
        exists x1, k1, hn, x2
    · have x1 : ¬ ((k : Nat) : Int) < (manyP b.toNat : Nat) := by omega
      rw [decide_eq_false c1]
      show _ = some (Except.ok false)
      exists x1
  · intro ρ k h1 h2 h3 h4 h5 h6
    refine w_to (by exists h1) ?_
    exact ⟨h1, h2, h3, h4, h5, rfl, rfl, rfl⟩
noncomputable def cutsD : Nat → List (List UInt8) → List Dat
  | _, [] => []
  | a, p :: ps => .tuple [.int a, .int p.length, .bool (whole p)] :: cutsD (a + p.length) ps
theorem cutsD_cons (a : Nat) (p : List UInt8) (ps : List (List UInt8)) : cutsD a (p :: ps) = .tuple [.int a, .int p.length, .bool (whole p)] :: cutsD (a + p.length) ps := rfl
theorem take_cut_len (l : List UInt8) : (l.take (cutN l)).length = cutN l := by
  rw [List.length_take]; have := cutN_le l; omega
theorem cuts_loop {τ : EM Bool} {β : SM} (l : List UInt8) (hl : l.length ≤ 4096)
    (hτ : ∀ (ρ : St) (a : Nat), ρ.loc 0 = some (.bytes l) → ρ.loc 2 = some (.int a) → τ ρ = some (.ok (decide (a < l.length))))
    (hβ : ∀ (ρ : St) (a : Nat) (found : List Dat) (b : UInt8) (r : List UInt8), ρ.loc 0 = some (.bytes l) → ρ.loc 2 = some (.int a) → ρ.own = some (1, found) → ρ.stm = none → l.drop a = b :: r → found.length ≤ 4096 →
      ∃ ρ', β ρ = some (.next ρ') ∧ ρ'.loc 0 = some (.bytes l) ∧ ρ'.loc 2 = some (.int ((a + cutN (b :: r) : Nat) : Int)) ∧ ρ'.own = some (1, found ++ [.tuple [.int a, .int (cutN (b :: r)), .bool (whole (b :: r))]]) ∧ ρ'.stm = none) :
    ∀ (n a : Nat) (found : List Dat) (ρ : St), ρ.loc 0 = some (.bytes l) → ρ.loc 2 = some (.int a) → ρ.own = some (1, found) → ρ.stm = none → found.length ≤ a → l.length - a < n →
      ∃ ρ', whileM τ β n ρ = some (.next ρ') ∧ ρ'.own = some (1, found ++ cutsD a (pcs (l.drop a)))
  | 0, _, _, _, _, _, _, _, _, h => by omega
  | n + 1, a, found, ρ, h1, h2, h3, h4, h5, h7 => by
    rw [whileM_succ]
    have ht := hτ ρ a h1 h2
    have e0 : SM.ofE τ (fun b => if b = true then fun ρ => after (whileM τ β n) (β ρ) else SM.next) ρ = if a < l.length then after (whileM τ β n) (β ρ) else some (.next ρ) := by
      unfold SM.ofE
      rw [ht]
      dsimp only
      by_cases ha : a < l.length
      · rw [if_pos (by simpa using ha), if_pos ha]
      · rw [if_neg (by simpa using ha), if_neg ha]; rfl
    rw [e0]
    by_cases ha : a < l.length
    · rw [if_pos ha]
      obtain ⟨b, r, hd⟩ := drop_cons_of ha
      obtain ⟨ρ', g0, g1, g2, g3, g4⟩ := hβ ρ a found b r h1 h2 h3 h4 hd (by omega)
      have hk := @cutN_pos b r
      rw [g0, after_next]
      obtain ⟨ρ₂, x1, x2⟩ := cuts_loop l hl hτ hβ n (a + cutN (b :: r)) _ ρ' g1 g2 g3 g4 (by rw [List.length_append, List.length_singleton]; omega) (by omega)
      refine ⟨ρ₂, x1, ?_⟩
      rw [x2, hd, pcs_cons (l := b :: r) (by simp), ← hd, List.drop_drop, hd, List.append_assoc]
      rw [cutsD_cons, take_cut_len, val_take.1]
      rfl
    · rw [if_neg ha, List.drop_of_length_le (by omega)]
      exact ⟨ρ, rfl, by rw [h3, pcs_nil]; simp [cutsD]⟩
theorem f280 (l : List UInt8) (hl : l.length < 4096) : s280.F [.bytes l] = some (.ok (.list (cutsD 0 (pcs l)))) := by
  have hl' : l.length ≤ 4096 := by omega
  unfold s280
  dsimp only [d_pure]
  refine (if_pos rfl).trans (r_seq (by exists hl') ?_)
  refine seq_then (cuts_loop l hl' ?_ ?_ 4096 0 [] _ rfl rfl rfl rfl (Nat.le_refl _) (by omega)) ?_
  · intro ρ a h1 h2
    exact tau_len hl' h1 h2
  · intro ρ a found b r h1 h2 h3 h4 hd hf
    have hp := f273 l a b r hd hl'
    refine w_to (by exists hp, hf) ?_
    exact ⟨h1, rfl, rfl, h4⟩
  · intro ρ' x1
    rw [m_retOwn, x1]
    rfl
theorem pcs_mem {l p : List UInt8} (h : p ∈ pcs l) : cutN p = p.length ∧ p ≠ [] := by
  induction l using pcs_ind with
  | h0 => cases h
  | h1 l hl ih =>
    rw [pcs_cons hl] at h
    rcases List.mem_cons.mp h with h | h
    · subst h
      refine ⟨by rw [val_take.2.2, take_cut_len], fun q => ?_⟩
      have := congrArg List.length q
      rw [take_cut_len, List.length_nil] at this
      have := cutN_pos' hl
      omega
    · exact ih h
theorem takes_ge : ∀ (n lo hi : Nat) (r : List UInt8), 128 ≤ lo → takes n lo hi r = n → ∀ o ∈ r.take n, 128 ≤ o.toNat ∧ o.toNat < 256
  | 0, _, _, _, _, _, o, ho => by simp at ho
  | n + 1, _, _, [], _, h, o, ho => by simp at ho
  | n + 1, lo, hi, u :: r, hlo, h, o, ho => by
    simp only [takes] at h
    split at h
    · rename_i hu
      rw [List.take_succ_cons] at ho
      rcases List.mem_cons.mp ho with q | q
      · subst q; exact ⟨by omega, o.toNat_lt⟩
      · exact takes_ge n 128 191 r (Nat.le_refl _) (by omega) o q
    · omega
theorem itemD_tab (k : Nat) (h : k ≤ 4) : itemD (.list [.int 0, .int 0, .int 192, .int 224, .int 240]) (k : Int) = some (.int (([0, 0, 192, 224, 240].getD k 0 : Nat) : Int)) := by
  match k, h with
  | 0, _ => rfl
  | 1, _ => rfl
  | 2, _ => rfl
  | 3, _ => rfl
  | 4, _ => rfl
theorem fold_loop {β : SM} (hβ : ∀ (ρ : St) (c o : Nat), ρ.own = none → ρ.stm = none → ρ.loc 1 = some (.int c) → ρ.loc 2 = some (.int o) → c < 2 ^ 40 → ∃ ρ', β ρ = some (.next ρ') ∧ ρ'.own = none ∧ ρ'.stm = none ∧ ρ'.loc 1 = some (.int ((c : Int) * 64 + o - 128))) :
    ∀ (r : List UInt8) (c : Nat) (ρ : St), ρ.own = none → ρ.stm = none → ρ.loc 1 = some (.int c) → (∀ o ∈ r, 128 ≤ o.toNat ∧ o.toNat < 256) → (c + 1) * 256 ^ r.length ≤ 2 ^ 40 →
      ∃ ρ', forM (SM.put 2) β (r.map fun u => .int (u.toNat : Int)) ρ = some (.next ρ') ∧ ρ'.loc 1 = some (.int (fold c r))
  | [], c, ρ, h1, h2, h3, _, _ => ⟨ρ, rfl, h3⟩
  | o :: r, c, ρ, h1, h2, h3, h4, h5 => by
    have hf : ρ.free 2 = true := by unfold St.free; rw [h1, h2]; rfl
    obtain ⟨q1, q2⟩ := h4 o (.head _)
    have hc : c < 2 ^ 40 := by
      have : 1 ≤ 256 ^ (o :: r).length := Nat.pow_pos (by decide)
      have := Nat.mul_le_mul_left (c + 1) this
      omega
    rw [List.map_cons, forM_put hf]
    obtain ⟨ρ', g0, g1, g2, g3⟩ := hβ (ρ.put 2 (.int o.toNat)) c o.toNat h1 h2 h3 rfl hc
    rw [g0, after_next]
    have e : (c : Int) * 64 + (o.toNat : Int) - 128 = ((c * 64 + (o.toNat - 128) : Nat) : Int) := by omega
    rw [e] at g3
    exact fold_loop hβ r _ ρ' g1 g2 g3 (fun x hx => h4 x (.tail _ hx)) (by
      show (c * 64 + (o.toNat - 128) + 1) * 256 ^ r.length ≤ 2 ^ 40
      rw [List.length_cons, Nat.pow_succ] at h5
      have : c * 64 + (o.toNat - 128) + 1 ≤ (c + 1) * 256 := by omega
      have := Nat.mul_le_mul_right (256 ^ r.length) this
      have e : (c + 1) * 256 * 256 ^ r.length = (c + 1) * (256 ^ r.length * 256) := by rw [Nat.mul_assoc, Nat.mul_comm 256]
      omega)
theorem f287 (p : List UInt8) (hw : whole p = true) (hc : cutN p = p.length) : s287.F [.bytes p] = some (.ok (.int (codeB p))) := by
  match p, hw, hc with
  | b :: r, hw, hc =>
  have hm : cutN (b :: r) = manyP b.toNat := by rw [whole_cons] at hw; simpa using hw
  have h4 := manyP_le b.toNat
  have hlen : (b :: r).length = r.length + 1 := rfl
  have hl : (b :: r).length ≤ 4096 := by omega
  have e1 : itemD (.bytes (b :: r)) 0 = some (.int b.toNat) := itemD_at (i := 0) rfl hl
  have e2 : sliceD (.bytes (b :: r)) (some 1) none = some (.bytes r) := slice_from (b :: r) 1 hl
  have e3 : itemD (.list [.int 0, .int 0, .int 192, .int 224, .int 240]) ((b :: r).length : Int) = some (.int (([0, 0, 192, 224, 240].getD (b :: r).length 0 : Nat) : Int)) := itemD_tab _ (by omega)
  have hlo : ([0, 0, 192, 224, 240].getD (b :: r).length 0 : Nat) ≤ b.toNat := by
    rw [← hc, hm]
    have : ∀ b < 256, [0, 0, 192, 224, 240].getD (manyP b) 0 ≤ b := by decide +kernel
    exact this b.toNat b.toNat_lt
  have e4 : (b.toNat : Int) - (([0, 0, 192, 224, 240].getD (b :: r).length 0 : Nat) : Int) = ((b.toNat - [0, 0, 192, 224, 240].getD (b :: r).length 0 : Nat) : Int) := by omega
  have e5 : lenF [.bytes (b :: r)] = some (.int ((b :: r).length : Int)) := lenF_bytes _ hl
  have hrt : r.take (cutN (b :: r) - 1) = r := by rw [hc, hlen, Nat.add_sub_cancel, List.take_length]
  have htk : takes (manyP b.toNat - 1) (loP b.toNat) (hiP b.toNat) r = manyP b.toNat - 1 := by rw [cutN_cons] at hm; omega
  rw [codeB_cons, hrt, hc]
  generalize hg : [0, 0, 192, 224, 240].getD (b :: r).length 0 = g at *
  unfold s287
  dsimp only [d_pure]
  have e6 := b_sub (b.toNat : Int) (g : Nat)
  rw [e4] at e6
  refine (if_pos rfl).trans (r_seq (by exists e1, e5, e3, e6) ?_)
  have e7 := itemsD_bytes r
  refine r_ofE (by exists e2, e7) ?_
  refine seq_then (fold_loop ?_ r (b.toNat - g) _ rfl rfl rfl ?_ ?_) ?_
  · intro ρ c o h1 h2 h3 h4 h5
    have e : binD .Mult (.int c) (.int 64) = some (.int (c * 64)) := b_mul _ _ (by omega)
    refine w_to (by exists e) ?_
    exact ⟨h1, h2, rfl⟩
  · intro o ho
    refine takes_ge (manyP b.toNat - 1) (loP b.toNat) (hiP b.toNat) r ?_ htk o ?_
    · unfold loP; repeat' split
      all_goals omega
    · rw [List.take_of_length_le (by omega)]; exact ho
  · have : b.toNat < 256 := b.toNat_lt
    have : 256 ^ r.length ≤ 256 ^ 3 := Nat.pow_le_pow_right (by decide) (by omega)
    have := Nat.mul_le_mul (show b.toNat - g + 1 ≤ 256 by omega) this
    exact Nat.le_trans this (by decide)
  · intro ρ' x1
    exact r_of (by exists x1) rfl
theorem read_loop {β : SM} (l : List UInt8)
    (hβ : ∀ (ρ : St) (a : Nat) (p : List UInt8) (found : List Dat), ρ.own = some (1, found) → ρ.stm = none → ρ.loc 0 = some (.bytes l) → ρ.loc 2 = some (.int a) → ρ.loc 3 = some (.int p.length) → ρ.loc 4 = some (.bool (whole p)) → (l.drop a).take p.length = p → cutN p = p.length → found.length ≤ 4096 →
      ∃ ρ', β ρ = some (.next ρ') ∧ ρ'.own = some (1, found ++ [.int (val p)]) ∧ ρ'.stm = none ∧ ρ'.loc 0 = some (.bytes l)) :
    ∀ (ps : List (List UInt8)) (a : Nat) (found : List Dat) (ρ : St), ρ.own = some (1, found) → ρ.stm = none → ρ.loc 0 = some (.bytes l) → l.drop a = ps.flatten → (∀ p ∈ ps, cutN p = p.length) → found.length + ps.length ≤ 4096 →
      ∃ ρ', forM (putsOf [2, 3, 4]) β (cutsD a ps) ρ = some (.next ρ') ∧ ρ'.own = some (1, found ++ (ps.map val).map .int)
  | [], a, found, ρ, h1, _, _, _, _, _ => ⟨ρ, rfl, by rw [h1]; simp⟩
  | p :: ps, a, found, ρ, h1, h2, h3, h4, h5, h6 => by
    rw [cutsD_cons, forM_cons, putsOf_tuple]
    have hf : ∀ i, i ≠ 1 → ρ.free i = true := fun i hi => by
      unfold St.free
      rw [h1, h2]
      simpa using fun q => hi q.symm
    have e : SM.seq (SM.puts [2, 3, 4] [.int a, .int p.length, .bool (whole p)]) β ρ = β (((ρ.put 2 (.int a)).put 3 (.int p.length)).put 4 (.bool (whole p))) := by
      unfold SM.puts SM.puts SM.puts SM.puts
      rw [m_sassoc, m_seq_put, if_pos (hf 2 (by decide)), m_sassoc, m_seq_put, if_pos (show (ρ.put 2 (.int a)).free 3 = true from hf 3 (by decide)), m_sassoc, m_seq_put, if_pos (show ((ρ.put 2 (.int a)).put 3 (.int p.length)).free 4 = true from hf 4 (by decide)), m_seq_next]
    rw [List.flatten_cons] at h4
    rw [List.length_cons] at h6
    obtain ⟨ρ', g0, g1, g2, g3⟩ := hβ (((ρ.put 2 (.int a)).put 3 (.int p.length)).put 4 (.bool (whole p))) a p found h1 h2 h3 rfl rfl rfl (by rw [h4, List.take_left']; rfl) (h5 p (.head _)) (by omega)
    rw [e, g0, after_next]
    obtain ⟨ρ₂, x1, x2⟩ := read_loop l hβ ps (a + p.length) _ ρ' g1 g2 g3 (by rw [← List.drop_drop, h4, List.drop_left']; rfl) (fun q hq => h5 q (.tail _ hq)) (by rw [List.length_append, List.length_singleton]; omega)
    exact ⟨ρ₂, x1, by rw [x2]; simp⟩
theorem pcs_len (l : List UInt8) : (pcs l).length ≤ l.length := by
  have := read_len l
  unfold read at this
  rwa [List.length_map] at this
theorem f294 (l : List UInt8) (hl : l.length < 4096) : s294.F [.bytes l] = some (.ok (.list ((read l).map .int))) := by
  have hl' : l.length ≤ 4096 := by omega
  have hp := pcs_len l
  unfold s294
  dsimp only [d_pure]
  have hc := f280 l hl
  refine (if_pos rfl).trans (r_seq (by exists hl') ?_)
  refine r_ofE (by exists hc) ?_
  refine seq_then (read_loop l ?_ (pcs l) 0 [] _ rfl rfl rfl (by rw [pcs_flat]; rfl) (fun p hp => (pcs_mem hp).1) (by simp; omega)) ?_
  · intro ρ a p found h1 h2 h3 h4 h5 h6 h7 h8 h9
    have e1 : binD .Add (.int (a : Int)) (.int (p.length : Nat)) = some (.int ((a + p.length : Nat) : Int)) := (b_add _ _)
    have e2 : sliceD (.bytes l) (some (a : Int)) (some ((a + p.length : Nat) : Int)) = some (.bytes p) := by
      rw [slice_mid l a _ hl', Nat.add_sub_cancel_left, h7]
    unfold val
    cases hw : whole p with
    | false =>
      rw [hw] at h6
      refine w_to (by exists h9) ?_
      exact ⟨rfl, h2, h3⟩
    | true =>
      rw [hw] at h6
      have hp := f287 p hw h8
      refine w_to (by exists h9, e1, e2, hp) ?_
      exact ⟨rfl, h2, h3⟩
  · intro ρ' x1
    rw [m_retOwn, x1]
    rfl
theorem lay_cuts : ∀ (ps : List (List UInt8)) (a : Nat), PyData.canLayAll0 (pys (cutsD a ps)) = true ∧ PyData.depthAll (pys (cutsD a ps)) ≤ 1
  | [], a => by simp [cutsD, pys, PyData.canLayAll0, PyData.depthAll]
  | p :: ps, a => by
    obtain ⟨h1, h2⟩ := lay_cuts ps (a + p.length)
    rw [cutsD_cons]
    simp only [pys, py, PyData.canLayAll0, PyData.depthAll, PyData.canLay0, PyData.depth, h1, Bool.and_self, true_and, Nat.max_self]
    omega
theorem shaped_cuts (ps : List (List UInt8)) (a : Nat) : SeqAt.shaped (py (.list (cutsD a ps))) = true := by
  obtain ⟨h1, h2⟩ := lay_cuts ps a
  unfold SeqAt.shaped py PyData.canLay0 PyData.depth
  rw [h1, Bool.true_and]
  exact decide_eq_true (by omega)
theorem eqD_cuts_nil (ps : List (List UInt8)) (a : Nat) : eqD (.list (cutsD a ps)) (.list []) = some ps.isEmpty := by
  rw [eqD_ne (by intro _ _ h; cases h) (shaped_cuts ps a) rfl]
  cases ps with
  | nil => rfl
  | cons p ps => rw [cutsD_cons]; unfold py pys PyData.eqv; rfl
theorem cutsD_app : ∀ (ps qs : List (List UInt8)) (a : Nat), cutsD a (ps ++ qs) = cutsD a ps ++ cutsD (a + ps.flatten.length) qs
  | [], qs, a => by simp [cutsD]
  | p :: ps, qs, a => by
    rw [List.cons_append, cutsD_cons, cutsD_cons, cutsD_app ps qs, List.cons_append, List.flatten_cons, List.length_append, Nat.add_assoc]
theorem cutsD_len : ∀ (ps : List (List UInt8)) (a : Nat), (cutsD a ps).length = ps.length
  | [], _ => rfl
  | p :: ps, a => by rw [cutsD_cons, List.length_cons, cutsD_len ps, List.length_cons]
theorem itemD_last (ds : List Dat) (d : Dat) (h : ds.length < 4096) : itemD (.list (ds ++ [d])) (-1) = some d := by
  unfold itemD
  dsimp only
  rw [List.length_append, List.length_singleton, if_pos (by omega), if_neg (by decide), if_pos (by omega), show (-1 + ((ds.length + 1 : Nat) : Int)).toNat = ds.length by omega, List.getElem?_append_right (Nat.le_refl _)]
  simp
theorem f301 (l : List UInt8) (hl : l.length < 4096) : s301.F [.bytes l] = some (.ok (.int (waits (pcs l)))) := by
  have hl' : l.length ≤ 4096 := by omega
  have hp := pcs_len l
  unfold s301
  dsimp only [d_pure]
  have hcut := f280 l hl
  refine (if_pos rfl).trans (r_seq (by exists hcut) ?_)
  have hne : cmpD .Eq (.list (cutsD 0 (pcs l))) (.list []) = some (pcs l).isEmpty := eqD_cuts_nil (pcs l) 0
  generalize hW : waits (pcs l) = W
  rcases List.eq_nil_or_concat (pcs l) with hn | ⟨ps, p, hn⟩
  · rw [show (pcs l).isEmpty = true by rw [hn]; rfl] at hne
    rw [hn] at hW
    rw [← hW]
    exact r_of (by exists hne) rfl
  · rw [List.concat_eq_append] at hn
    have he : (pcs l).isEmpty = false := by rw [hn]; cases ps <;> rfl
    rw [he] at hne
    have hfl := pcs_flat l
    rw [hn, List.flatten_append, List.flatten_cons, List.flatten_nil, List.append_nil] at hfl
    obtain ⟨q1, q2⟩ := @pcs_mem l p (by rw [hn]; exact List.mem_append_right _ (.head _))
    have e0 : cutsD 0 (pcs l) = cutsD 0 ps ++ [.tuple [.int ps.flatten.length, .int p.length, .bool (whole p)]] := by
      rw [hn, cutsD_app, Nat.zero_add]; rfl
    have hps : (cutsD 0 ps).length < 4096 := by rw [cutsD_len]; rw [hn, List.length_append, List.length_singleton] at hp; omega
    have hla := itemD_last (cutsD 0 ps) (.tuple [.int ps.flatten.length, .int p.length, .bool (whole p)]) hps
    rw [← e0] at hla
    have t0 := itemD_t30 (.int ps.flatten.length) (.int p.length) (.bool (whole p))
    have t1 := itemD_t31 (.int ps.flatten.length) (.int p.length) (.bool (whole p))
    have t2 := itemD_t32 (.int ps.flatten.length) (.int p.length) (.bool (whole p))
    rw [hn, waits_append] at hW
    rw [← hW]
    clear hW
    cases hw : whole p with
    | true =>
      rw [hw] at hla t0 t1 t2
      exact r_of (by exists hne, hla, t2) (by rw [Bool.not_true, Bool.and_false]; rfl)
    | false =>
      rw [hw] at hla t0 t1 t2
      obtain ⟨b, r, rfl⟩ := List.exists_cons_of_ne_nil q2
      have hd : l.drop ps.flatten.length = b :: r := by rw [← hfl, List.drop_left']; rfl
      have i0 := itemD_at hd hl'
      have hm' := f266 b
      have hL : isLead (b :: r) = (manyP b.toNat != 0) := rfl
      rw [hL]
      by_cases hm : manyP b.toNat = 0
      · have x : ((manyP b.toNat : Nat) : Int) = 0 := by omega
        rw [hm]
        exact r_of (by exists hne, hla, t2, t0, i0, hm', x) rfl
      · have x : ¬ ((manyP b.toNat : Nat) : Int) = 0 := by omega
        have : (manyP b.toNat != 0) = true := by simpa using hm
        rw [this]
        exact r_of (by exists hne, hla, t2, t0, i0, hm', x, t1) rfl
noncomputable def bts (ns : List Int) : List UInt8 := ns.map fun n => n.toNat.toUInt8
theorem intsD_ints : ∀ ns : List Int, intsD (ns.map .int) = some ns
  | [] => rfl
  | n :: ns => by
    rw [List.map_cons]
    unfold intsD
    rw [intsD_ints ns]
    rfl
theorem bytesF_ints (ns : List Int) (h : ∀ n ∈ ns, 0 ≤ n ∧ n < 256) (hl : ns.length ≤ 4096) : bytesF [.list (ns.map .int)] = some (.bytes (bts ns)) := by
  unfold bytesF
  dsimp only
  rw [intsD_ints]
  dsimp only [Option.bind]
  rw [if_pos]
  · rfl
  · rw [Bool.and_eq_true_iff, List.all_eq_true]
    refine ⟨fun n hn => ?_, decide_eq_true hl⟩
    rw [Bool.and_eq_true_iff]
    exact ⟨decide_eq_true (h n hn).1, decide_eq_true (h n hn).2⟩
noncomputable def collect (g : Int → Option (List Int)) : List Int → Option (List Int)
  | [] => some []
  | c :: cs => match g c with
    | none => none
    | some es => (collect g cs).map (es ++ ·)
theorem own_loop {i : Nat} {C : Addr} {β : SM} (g : Int → Option (List Int)) (V : Int → Prop) (B : Nat) (hi : i ≠ 1)
    (hβ : ∀ (ρ : St) (c : Int) (found : List Dat), ρ.own = some (1, found) → ρ.stm = none → ρ.loc i = some (.int c) → V c → found.length ≤ B →
      match g c with
      | none => β ρ = some (.raise C)
      | some es => ∃ ρ', β ρ = some (.next ρ') ∧ ρ'.own = some (1, found ++ es.map .int) ∧ ρ'.stm = none)
    (hg : ∀ c es, V c → g c = some es → es.length ≤ 6) :
    ∀ (text : List Int) (found : List Dat) (ρ : St), ρ.own = some (1, found) → ρ.stm = none → (∀ c ∈ text, V c) → found.length + 6 * text.length ≤ B →
      match collect g text with
      | none => forM (SM.put i) β (text.map .int) ρ = some (.raise C)
      | some es => ∃ ρ', forM (SM.put i) β (text.map .int) ρ = some (.next ρ') ∧ ρ'.own = some (1, found ++ es.map .int) ∧ ρ'.stm = none
  | [], found, ρ, h1, h2, _, _ => ⟨ρ, rfl, by rw [h1]; simp, h2⟩
  | c :: text, found, ρ, h1, h2, h3, h4 => by
    have hf : ρ.free i = true := by
      unfold St.free
      rw [h1, h2]
      simpa using fun q => hi q.symm
    rw [List.length_cons] at h4
    rw [List.map_cons, forM_put hf]
    have hb := hβ (ρ.put i (.int c)) c found h1 h2 (by unfold St.put; simp) (h3 c (.head _)) (by omega)
    unfold collect
    cases hc : g c with
    | none =>
      rw [hc] at hb
      dsimp only at hb ⊢
      rw [hb]; rfl
    | some es =>
      rw [hc] at hb
      dsimp only at hb ⊢
      obtain ⟨ρ', g0, g1, g2⟩ := hb
      have hes := hg c es (h3 c (.head _)) hc
      rw [g0, after_next]
      have ih := own_loop g V B hi hβ hg text (found ++ es.map .int) ρ' g1 g2 (fun x hx => h3 x (.tail _ hx)) (by rw [List.length_append, List.length_map]; omega)
      cases hq : collect g text with
      | none => rw [hq] at ih; exact ih
      | some fs =>
        rw [hq] at ih
        dsimp only at ih ⊢
        obtain ⟨ρ₂, x1, x2, x3⟩ := ih
        exact ⟨ρ₂, x1, by rw [x2]; simp, x3⟩
theorem collect_some (f : Int → List Int) (cs : List Int) : collect (fun c => some (f c)) cs = some (cs.flatMap f) := by
  induction cs with
  | nil => rfl
  | cons c cs ih => unfold collect; rw [ih]; rfl
theorem collect_if (p : Int → Bool) (f : Int → List Int) (cs : List Int) : collect (fun c => if p c then some (f c) else none) cs = if cs.all p then some (cs.flatMap f) else none := by
  induction cs with
  | nil => rfl
  | cons c cs ih =>
    unfold collect
    cases hc : p c with
    | false => simp [hc]
    | true => simp only [if_true, ih, List.all_cons, hc, Bool.true_and]; split <;> rfl
theorem own_all {i : Nat} {β : SM} (f : Int → List Int) (V : Int → Prop) (B : Nat) (hi : i ≠ 1)
    (hβ : ∀ (ρ : St) (c : Int) (found : List Dat), ρ.own = some (1, found) → ρ.stm = none → ρ.loc i = some (.int c) → V c → found.length ≤ B → ∃ ρ', β ρ = some (.next ρ') ∧ ρ'.own = some (1, found ++ (f c).map .int) ∧ ρ'.stm = none)
    (hg : ∀ c, V c → (f c).length ≤ 6) (text : List Int) (found : List Dat) (ρ : St) (h1 : ρ.own = some (1, found)) (h2 : ρ.stm = none) (h3 : ∀ c ∈ text, V c) (h4 : found.length + 6 * text.length ≤ B) :
    ∃ ρ', forM (SM.put i) β (text.map .int) ρ = some (.next ρ') ∧ ρ'.own = some (1, found ++ (text.flatMap f).map .int) ∧ ρ'.stm = none := by
  have := own_loop (i := i) (C := 0) (β := β) (fun c => some (f c)) V B hi hβ (fun c es h e => by cases e; exact hg c h) text found ρ h1 h2 h3 h4
  rw [collect_some] at this
  exact this
noncomputable def okC (c : Int) : Prop := 0 ≤ c ∧ c ≤ 1114111
theorem tr_ok (x : Int) : 0 ≤ 128 + x % 64 ∧ 128 + x % 64 < 256 := by omega
theorem oct_one {a : Int} {l : List Int} (h : 0 ≤ a ∧ a < 256) (t : ∀ n ∈ l, 0 ≤ n ∧ n < 256) : ∀ n ∈ a :: l, 0 ≤ n ∧ n < 256 := List.forall_mem_cons.mpr ⟨h, t⟩
theorem oct_nil : ∀ n ∈ ([] : List Int), 0 ≤ n ∧ n < 256 := fun _ h => by cases h
theorem octI_ok {c : Int} (h : okC c) : (∀ n ∈ octI c, 0 ≤ n ∧ n < 256) ∧ (octI c).length ≤ 4 ∧ octI c ≠ [] := by
  obtain ⟨h0, h1⟩ := h
  unfold octI
  by_cases a : c < 128
  · rw [if_pos a]
    exact ⟨oct_one ⟨h0, by omega⟩ oct_nil, Nat.le_of_ble_eq_true rfl, List.cons_ne_nil _ _⟩
  rw [if_neg a]
  by_cases b : c < 2048
  · rw [if_pos b]
    exact ⟨oct_one (by omega) (oct_one (tr_ok c) oct_nil), Nat.le_of_ble_eq_true rfl, List.cons_ne_nil _ _⟩
  rw [if_neg b]
  by_cases d : c < 65536
  · rw [if_pos d]
    exact ⟨oct_one (by omega) (oct_one (tr_ok _) (oct_one (tr_ok c) oct_nil)), Nat.le_of_ble_eq_true rfl, List.cons_ne_nil _ _⟩
  · rw [if_neg d]
    exact ⟨oct_one (by omega) (oct_one (tr_ok _) (oct_one (tr_ok _) (oct_one (tr_ok c) oct_nil))), Nat.le_of_ble_eq_true rfl, List.cons_ne_nil _ _⟩
noncomputable def parts (c : Int) : List Int := if 65535 < c then surr c else [c]
theorem parts_ok {c : Int} (h : okC c) : (∀ d ∈ parts c, okC d) ∧ (parts c).length ≤ 2 := by
  unfold parts
  by_cases a : 65535 < c
  · obtain ⟨h0, h1⟩ := h
    rw [if_pos a]
    unfold surr okC
    exact ⟨List.forall_mem_cons.mpr ⟨by omega, List.forall_mem_cons.mpr ⟨by omega, fun _ h => by cases h⟩⟩, Nat.le_of_ble_eq_true rfl⟩
  · rw [if_neg a]
    exact ⟨List.forall_mem_cons.mpr ⟨h, fun _ h => by cases h⟩, Nat.le_of_ble_eq_true rfl⟩
theorem exD_ints (ds : List Dat) (es : List Int) (h : es ≠ []) (h' : es.length ≤ 4096) : exD ds (.list (es.map .int)) = some (ds ++ es.map .int) := by
  unfold exD
  dsimp only
  rw [if_pos ⟨by simpa using h, by rw [List.length_map]; exact h'⟩]
/-- an encoder's inner loop -/
theorem parts_loop {β : SM} (hβ : ∀ (ρ : St) (c : Int) (found : List Dat), ρ.own = some (1, found) → ρ.stm = none → ρ.loc 3 = some (.int c) → okC c → found.length ≤ 4000 → ∃ ρ', β ρ = some (.next ρ') ∧ ρ'.own = some (1, found ++ (octI c).map .int) ∧ ρ'.stm = none)
    (ps : List Int) (found : List Dat) (ρ : St) (h1 : ρ.own = some (1, found)) (h2 : ρ.stm = none) (h3 : ∀ c ∈ ps, okC c) (h4 : found.length + 6 * ps.length ≤ 4000) :
    ∃ ρ', forM (SM.put 3) β (ps.map .int) ρ = some (.next ρ') ∧ ρ'.own = some (1, found ++ (ps.flatMap octI).map .int) ∧ ρ'.stm = none := by
  have := own_loop (i := 3) (C := 0) (β := β) (fun c => some (octI c)) okC 4000 (by decide) hβ (fun c es h e => by cases e; have := (octI_ok h).2.1; omega) ps found ρ h1 h2 h3 h4
  rw [collect_some] at this
  exact this
noncomputable def rbytes (C : Addr) (o : Option (List Int)) : Option (Except Addr Dat) := match o with
  | none => some (.error C)
  | some ns => some (.ok (.bytes (bts ns)))
theorem enc_end {C : Addr} {β : SM} {text : List Int} {ρ : St} {o : Option (List Int)}
    (hL : match o with
      | none => forM (SM.put 2) β (text.map .int) ρ = some (.raise C)
      | some es => ∃ ρ', forM (SM.put 2) β (text.map .int) ρ = some (.next ρ') ∧ ρ'.own = some (1, [] ++ es.map .int) ∧ ρ'.stm = none)
    (hn : ∀ es, o = some es → (∀ n ∈ es, 0 ≤ n ∧ n < 256) ∧ es.length ≤ 4096) : resOf (SM.seq (forM (SM.put 2) β (text.map .int)) (SM.ofE (EM.ownBytes 1) fun d _ => some (.ret d)) ρ) = rbytes C o := by
  cases o with
  | none => rw [seq_raise hL]; rfl
  | some es =>
    obtain ⟨ρ', e1, e2, e3⟩ := hL
    obtain ⟨n1, n2⟩ := hn es rfl
    rw [seq_next e1]
    unfold SM.ofE EM.ownBytes
    rw [e2]
    dsimp only
    rw [if_pos rfl, List.nil_append, bytesF_ints es n1 n2]
    rfl
theorem flat_ok {f : Int → List Int} {text : List Int} (h : ∀ c ∈ text, (∀ n ∈ f c, 0 ≤ n ∧ n < 256) ∧ (f c).length ≤ 8) : (∀ n ∈ text.flatMap f, 0 ≤ n ∧ n < 256) ∧ (text.flatMap f).length ≤ 8 * text.length := by
  induction text with
  | nil => exact ⟨fun n hn => (by cases hn), Nat.le_refl _⟩
  | cons c text ih =>
    obtain ⟨a, b⟩ := ih fun x hx => h x (.tail _ hx)
    obtain ⟨a', b'⟩ := h c (.head _)
    rw [List.flatMap_cons]
    refine ⟨fun n hn => ?_, by rw [List.length_append, List.length_cons]; omega⟩
    rcases List.mem_append.mp hn with q | q
    · exact a' n q
    · exact a n q
theorem ofE_ok {α : Type} {m : EM α} {k : α → SM} {ρ : St} {a : α} (h : m ρ = some (.ok a)) : SM.ofE m k ρ = k a ρ := by unfold SM.ofE; rw [h]
theorem inner101 (ρ : St) (c : Int) (found : List Dat) (h1 : ρ.own = some (1, found)) (h2 : ρ.stm = none) (h3 : ρ.loc 3 = some (.int c)) (h4 : okC c) (h5 : found.length ≤ 4000) : ∃ ρ', SM.onOwn 1 (((rd 3).bind fun x => EM.pure [x]).bind fun ds => liftR (s101.F ds)) exD ρ = some (.next ρ') ∧ ρ'.own = some (1, found ++ (octI c).map .int) ∧ ρ'.stm = none := by
  have hx := exD_ints found (octI c) (octI_ok h4).2.2 (by have := (octI_ok h4).2.1; omega)
  have hf : found.length ≤ 4096 := by omega
  have h101 := f101 c h4.1 h4.2
  refine w_to (by exists h101, hx, hf) ?_
  exact ⟨rfl, h2⟩
theorem f108 (text : List Int) (hv : ∀ c ∈ text, okC c) (hl : text.length ≤ 64) : s108.F [.list (text.map .int)] = rbytes 57 (if text.all scalar then some (text.flatMap octI) else none) := by
  unfold s108
  dsimp only [d_pure]
  refine (if_pos rfl).trans (r_seq (by exists hl) (r_ofE (by exists hl) ?_))
  rw [← collect_if scalar octI text]
  refine enc_end (own_loop (fun c => if scalar c then some (octI c) else none) okC 3900 (by decide) ?_ ?_ text [] _ rfl rfl hv (by simp; omega)) ?_
  · intro ρ c found h1 h2 h3 h4 h5
    have q94 := f94 c
    cases hs : scalar c with
    | false =>
      rw [hs] at q94
      rw [if_neg Bool.false_ne_true]
      exists q94
    | true =>
      rw [hs] at q94
      rw [if_pos rfl]
      have hx := exD_ints found (octI c) (octI_ok h4).2.2 (by have := (octI_ok h4).2.1; omega)
      have hf : found.length ≤ 4096 := by omega
      have h101 := f101 c h4.1 h4.2
      refine w_to (by exists q94, h101, hx, hf) ?_
      exact ⟨rfl, h2⟩
  · intro c es h e
    split at e
    · cases e; have := (octI_ok h).2.1; omega
    · cases e
  · intro es e
    rw [collect_if] at e
    split at e
    · cases e
      obtain ⟨a, b⟩ := flat_ok (f := octI) (text := text) fun c hc => ⟨(octI_ok (hv c hc)).1, by have := (octI_ok (hv c hc)).2.1; omega⟩
      exact ⟨a, by omega⟩
    · cases e
theorem po_ok {c : Int} (h : okC c) : (∀ n ∈ (parts c).flatMap octI, 0 ≤ n ∧ n < 256) ∧ ((parts c).flatMap octI).length ≤ 6 := by
  obtain ⟨p1, p2⟩ := parts_ok h
  refine ⟨fun n hn => ?_, ?_⟩
  · obtain ⟨d, hd, hn⟩ := List.mem_flatMap.mp hn
    exact (octI_ok (p1 d hd)).1 n hn
  · obtain ⟨h0, h1⟩ := h
    unfold parts surr
    split
    · rename_i q
      have e1 : octI (55296 + (c - 65536) / 1024) = [224 + (55296 + (c - 65536) / 1024) / 4096, 128 + (55296 + (c - 65536) / 1024) / 64 % 64, 128 + (55296 + (c - 65536) / 1024) % 64] := by
        unfold octI; rw [if_neg (by omega), if_neg (by omega), if_pos (by omega)]
      have e2 : octI (56320 + c % 1024) = [224 + (56320 + c % 1024) / 4096, 128 + (56320 + c % 1024) / 64 % 64, 128 + (56320 + c % 1024) % 64] := by
        unfold octI; rw [if_neg (by omega), if_neg (by omega), if_pos (by omega)]
      simp [e1, e2]
    · have := (octI_ok (c := c) ⟨h0, h1⟩).2.1
      simp only [List.flatMap_cons, List.flatMap_nil, List.append_nil]
      omega
theorem parts_eval {ρ : St} {c : Int} (h3 : ρ.loc 2 = some (.int c)) : (((rd 2).bind fun x => EM.lift (cmpD .GtE x (.int 65536))).bind fun x => if x = true then ((rd 2).bind fun x => EM.pure [x]).bind fun ds => liftR (s187.F ds) else ((rd 2).bind fun x => EM.pure [x]).bind fun ds => EM.lift (if ds.length ≤ 64 then some (Dat.list ds) else none)).bind (fun d => EM.lift (itemsD d)) ρ = some (.ok ((parts c).map .int)) := by
  unfold parts
  by_cases hc : 65535 < c
  · have hc' : 65536 ≤ c := by omega
    have q187 := f187 c hc'
    rw [if_pos hc]
    exists hc', q187
  · have hc' : ¬ 65536 ≤ c := by omega
    rw [if_neg hc]
    show _ = some (Except.ok [Dat.int c])
    exists hc'
theorem f215 (text : List Int) (hv : ∀ c ∈ text, okC c) (hl : text.length ≤ 64) : s215.F [.list (text.map .int)] = rbytes 57 (if text.all scalar then some (text.flatMap fun c => (parts c).flatMap octI) else none) := by
  unfold s215
  dsimp only [d_pure]
  refine (if_pos rfl).trans (r_seq (by exists hl) (r_ofE (by exists hl) ?_))
  rw [← collect_if scalar _ text]
  refine enc_end (own_loop (fun c => if scalar c then some ((parts c).flatMap octI) else none) okC 3900 (by decide) ?_ ?_ text [] _ rfl rfl hv (by simp; omega)) ?_
  · intro ρ c found h1 h2 h3 h4 h5
    have q94 := f94 c
    cases hs : scalar c with
    | false =>
      rw [hs] at q94
      rw [if_neg Bool.false_ne_true]
      exists q94
    | true =>
      rw [hs] at q94
      rw [if_pos rfl]
      obtain ⟨p1, p2⟩ := parts_ok h4
      rw [seq_next (ρ' := ρ)]
      rotate_left
      · exists q94
      rw [ofE_ok (parts_eval h3)]
      exact parts_loop inner101 (parts c) found ρ h1 h2 p1 (by omega)
  · intro c es h e
    split at e
    · cases e; exact (po_ok h).2
    · cases e
  · intro es e
    rw [collect_if] at e
    split at e
    · cases e
      obtain ⟨a, b⟩ := flat_ok (f := fun c => (parts c).flatMap octI) (text := text) fun c hc => ⟨(po_ok (hv c hc)).1, by have := (po_ok (hv c hc)).2; omega⟩
      exact ⟨a, by omega⟩
    · cases e
/-- a code of the modified form -/
noncomputable def modI (c : Int) : List Int := if c = 0 then [192, 128] else (parts c).flatMap octI
theorem mod_ok {c : Int} (h : okC c) : (∀ n ∈ modI c, 0 ≤ n ∧ n < 256) ∧ (modI c).length ≤ 6 := by
  unfold modI
  split
  · refine ⟨fun n hn => ?_, by simp⟩
    simp only [List.mem_cons, List.not_mem_nil, or_false] at hn
    omega
  · exact po_ok h
theorem scalar_or {c : Int} (h : okC c) : scalar c = true ∨ (55296 ≤ c ∧ c ≤ 56319) ∨ (¬ (55296 ≤ c ∧ c ≤ 56319) ∧ 56320 ≤ c ∧ c ≤ 57343) := by
  by_cases a : 55296 ≤ c ∧ c ≤ 56319
  · exact .inr (.inl a)
  · by_cases b : 56320 ≤ c ∧ c ≤ 57343
    · exact .inr (.inr ⟨a, b⟩)
    · refine .inl (decide_eq_true ⟨h, fun q => ?_⟩)
      by_cases k : c ≤ 56319
      · exact a ⟨q.1, k⟩
      · exact b ⟨Int.not_le.mp k, q.2⟩
theorem scalar_not {c : Int} (h : okC c) (h' : 55296 ≤ c ∧ c ≤ 57343) : scalar c = false := by
  unfold scalar
  rw [decide_eq_false_iff_not]
  omega
theorem f229 (text : List Int) (hv : ∀ c ∈ text, okC c) (hl : text.length ≤ 64) : s229.F [.list (text.map .int)] = some (.ok (.bytes (bts (text.flatMap modI)))) := by
  have e0 : some (.ok (.bytes (bts (text.flatMap modI)))) = rbytes 57 (collect (fun c => some (modI c)) text) := by rw [collect_some]; rfl
  rw [e0]
  unfold s229
  dsimp only [d_pure]
  refine (if_pos rfl).trans (r_seq (by exists hl) (r_ofE (by exists hl) ?_))
  refine enc_end (own_loop (fun c => some (modI c)) okC 3900 (by decide) ?_ ?_ text [] _ rfl rfl hv (by simp; omega)) ?_
  · intro ρ c found h1 h2 h3 h4 h5
    have hf : found.length ≤ 4096 := by omega
    obtain ⟨p1, p2⟩ := parts_ok h4
    have hx : exD found (.list [.int 192, .int 128]) = some (found ++ [.int 192, .int 128]) := exD_ints found [192, 128] (by decide) (by decide)
    dsimp only
    rw [seq_next (ρ' := ρ)]
    rotate_left
    · have q94 := f94 c
      have q73 := f73 c
      rcases scalar_or h4 with q | q | q
      · exists q94, q
      · have hs := scalar_not h4 (by omega)
        exists q94, hs, q73, q
      · have hs := scalar_not h4 (by omega)
        have q80 := f80 c
        exists q94, hs, q73, q.1, q80, q.2
    unfold modI
    by_cases hz : c = 0
    · rw [if_pos hz]
      refine w_to (by exists hz, hx, hf) ?_
      exact ⟨rfl, h2⟩
    rw [if_neg hz, ofE_ok (a := false)]
    rotate_left
    · exists h3
      exact congrArg some (decide_eq_false hz)
    rw [if_neg Bool.false_ne_true, ofE_ok (parts_eval h3)]
    exact parts_loop inner101 (parts c) found ρ h1 h2 p1 (by omega)
  · intro c es h e
    cases e; exact (mod_ok h).2
  · intro es e
    rw [collect_some] at e
    cases e
    obtain ⟨a, b⟩ := flat_ok (f := modI) (text := text) fun c hc => ⟨(mod_ok (hv c hc)).1, by have := (mod_ok (hv c hc)).2; omega⟩
    exact ⟨a, by omega⟩
theorem w_oadd {ρ : St} {i : Nat} {φ : EM Dat} {ds es : List Dat} (h : ρ.own = some (i, ds)) (g : φ ρ = some (.ok (.list es))) (n : ds.length + es.length ≤ 4096) : SM.ownAdd i φ ρ = some (.next { ρ with own := some (i, ds ++ es), loc := ρ.cut i, stm := none }) := by
  unfold SM.ownAdd
  rw [h]
  dsimp only
  rw [if_pos rfl, ofE_ok g]
  exact if_pos n
theorem f348 (text : List Int) (hv : ∀ c ∈ text, okC c) (hl : text.length ≤ 64) : s348.F [.list (text.map .int)] = some (.ok (.list ((text.flatMap parts).map .int))) := by
  unfold s348
  dsimp only [d_pure]
  refine (if_pos rfl).trans (r_seq (by exists hl) (r_ofE (by exists hl) ?_))
  refine seq_then (own_all parts okC 3900 (by decide) ?_ (fun c h => by have := (parts_ok h).2; omega) text [] _ rfl rfl hv (by simp; omega)) ?_
  · intro ρ c found h1 h2 h3 h4 h5
    have hf : found.length ≤ 4096 := by omega
    unfold parts
    by_cases hc : 65535 < c
    · rw [if_pos hc]
      have hf2 : found.length + 2 ≤ 4096 := by omega
      have d1 := d_1024 (c - 65536)
      have m1 := m_1024 c
      refine w_to (by
        exists hc
        apply w_oadd h1
        · exists d1, m1
        · exact hf2) ?_
      exact ⟨rfl, rfl⟩
    · rw [if_neg hc]
      refine w_to (by exists hc, hf) ?_
      exact ⟨rfl, h2⟩
  · rintro ρ' ⟨x1, x2⟩
    rw [m_retOwn, x1]
    rfl
/-- pairs joined -/
noncomputable def joinP : List Int → List Int
  | h :: l :: r => if (55296 ≤ h ∧ h ≤ 56319) ∧ 56320 ≤ l ∧ l ≤ 57343 then joinI h l :: joinP r else h :: joinP (l :: r)
  | r => r
theorem joinI_not {h l : Int} (hh : 55296 ≤ h ∧ h ≤ 56319) (hl : 56320 ≤ l ∧ l ≤ 57343) : 65536 ≤ joinI h l ∧ joinI h l ≤ 1114111 := by unfold joinI; omega
/-- one step of the joining -/
noncomputable def jstep (found : List Int) (c : Int) : List Int := match found.getLast? with
  | none => found ++ [c]
  | some h => if (55296 ≤ h ∧ h ≤ 56319) ∧ 56320 ≤ c ∧ c ≤ 57343 then found.dropLast ++ [joinI h c] else found ++ [c]
theorem jstep_app (pre : List Int) (h c : Int) : jstep (pre ++ [h]) c = if (55296 ≤ h ∧ h ≤ 56319) ∧ 56320 ≤ c ∧ c ≤ 57343 then pre ++ [joinI h c] else pre ++ [h, c] := by
  unfold jstep
  rw [List.getLast?_concat]
  dsimp only
  rw [List.dropLast_concat]
  split
  · rfl
  · simp
theorem foldl_jstep : ∀ (text : List Int) (pre : List Int) (h : Int), text.foldl jstep (pre ++ [h]) = pre ++ joinP (h :: text)
  | [], pre, h => by simp [joinP]
  | c :: text, pre, h => by
    rw [List.foldl_cons, jstep_app]
    unfold joinP
    split
    · rename_i q
      rw [foldl_jstep text pre]
      have := joinI_not q.1 q.2
      cases text with
      | nil => simp [joinP]
      | cons d text => unfold joinP; rw [if_neg (by omega)]; cases text <;> simp [joinP]
    · rw [show pre ++ [h, c] = (pre ++ [h]) ++ [c] by simp, foldl_jstep text (pre ++ [h]) c, List.append_assoc]
      rfl
theorem foldl_joinP (text : List Int) : text.foldl jstep [] = joinP text := by
  cases text with
  | nil => rfl
  | cons c text => exact foldl_jstep text [] c
theorem jstep_len (found : List Int) (c : Int) : (jstep found c).length ≤ found.length + 1 := by
  unfold jstep
  split
  · simp
  · split <;> simp
theorem join_loop {β : SM} (hβ : ∀ (ρ : St) (c : Int) (found : List Int), ρ.own = some (1, found.map .int) → ρ.stm = none → ρ.loc 2 = some (.int c) → okC c → (∀ d ∈ found, okC d) → found.length ≤ 4000 → ∃ ρ', β ρ = some (.next ρ') ∧ ρ'.own = some (1, (jstep found c).map .int) ∧ ρ'.stm = none) :
    ∀ (text found : List Int) (ρ : St), ρ.own = some (1, found.map .int) → ρ.stm = none → (∀ c ∈ text, okC c) → (∀ d ∈ found, okC d) → found.length + text.length ≤ 4000 →
      ∃ ρ', forM (SM.put 2) β (text.map .int) ρ = some (.next ρ') ∧ ρ'.own = some (1, (text.foldl jstep found).map .int)
  | [], found, ρ, h1, h2, _, _, _ => ⟨ρ, rfl, h1⟩
  | c :: text, found, ρ, h1, h2, h3, h4, h5 => by
    have hf : ρ.free 2 = true := by unfold St.free; rw [h1, h2]; rfl
    rw [List.length_cons] at h5
    rw [List.map_cons, forM_put hf]
    obtain ⟨ρ', g0, g1, g2⟩ := hβ (ρ.put 2 (.int c)) c found h1 h2 rfl (h3 c (.head _)) h4 (by omega)
    rw [g0, after_next, List.foldl_cons]
    have := jstep_len found c
    refine join_loop hβ text (jstep found c) ρ' g1 g2 (fun x hx => h3 x (.tail _ hx)) ?_ (by omega)
    intro d hd
    have hc := h3 c (.head _)
    unfold jstep at hd
    split at hd
    · rcases List.mem_append.mp hd with q | q
      · exact h4 d q
      · rw [List.mem_singleton.mp q]; exact hc
    · split at hd
      · rename_i q'
        rcases List.mem_append.mp hd with q | q
        · exact h4 d (List.dropLast_subset _ q)
        · rw [List.mem_singleton.mp q]
          have := joinI_not q'.1 q'.2
          exact ⟨by omega, this.2⟩
      · rcases List.mem_append.mp hd with q | q
        · exact h4 d q
        · rw [List.mem_singleton.mp q]; exact hc
theorem ownNe_eq {ρ : St} {found : List Int} (h : ρ.own = some (1, found.map .int)) : EM.ownNe 1 ρ = some (.ok (!decide (found = []))) := by
  unfold EM.ownNe
  rw [h]
  dsimp only
  rw [if_pos rfl, eqD_ints_nil]
  rfl
theorem ownLast_eq {ρ : St} {pre : List Int} {x : Int} (h : ρ.own = some (1, (pre ++ [x]).map .int)) (hl : pre.length < 4096) : EM.ownLast 1 ρ = some (.ok (.int x)) := by
  unfold EM.ownLast
  rw [h, List.map_append, List.map_cons, List.map_nil]
  dsimp only
  rw [if_pos rfl, itemD_last _ _ (by rw [List.length_map]; exact hl)]
theorem f355 (text : List Int) (hv : ∀ c ∈ text, okC c) (hl : text.length ≤ 64) : s355.F [.list (text.map .int)] = some (.ok (.list ((joinP text).map .int))) := by
  rw [← foldl_joinP]
  unfold s355
  dsimp only [d_pure]
  refine (if_pos rfl).trans (r_seq (by exists hl) (r_ofE (by exists hl) ?_))
  refine seq_then (join_loop ?_ text [] _ rfl rfl hv (fun d hd => by cases hd) (by simp; omega)) ?_
  · intro ρ c found h1 h2 h3 h4 h5 h6
    have hne := ownNe_eq h1
    have hfl : (found.map Dat.int).length ≤ 4096 := by rw [List.length_map]; omega
    rcases List.eq_nil_or_concat found with hn | ⟨pre, x, hn⟩
    · subst hn
      have hne : EM.ownNe 1 ρ = some (.ok false) := hne
      refine w_to (by exists hne, hfl) ?_
      exact ⟨rfl, h2⟩
    · rw [List.concat_eq_append] at hn
      subst hn
      have hpl : pre.length < 4096 := by rw [List.length_append, List.length_singleton] at h6; omega
      have hla := ownLast_eq h1 hpl
      have hx : okC x := h5 x (by simp)
      rw [decide_eq_false (by simp)] at hne
      have hne : EM.ownNe 1 ρ = some (.ok true) := hne
      rw [jstep_app]
      by_cases c1 : 55296 ≤ x ∧ x ≤ 56319
      · by_cases c3 : 56320 ≤ c ∧ c ≤ 57343
        · rw [if_pos ⟨c1, c3⟩]
          have hm : binD .Mult (.int (x - 55296)) (.int 1024) = some (.int ((x - 55296) * 1024)) := b_mul _ _ (by omega)
          have hs : lastD ((pre ++ [x]).map .int) (.int (65536 + (x - 55296) * 1024 + c - 56320)) = some ((pre ++ [joinI x c]).map .int) := by
            unfold lastD
            rw [if_neg (by simp)]
            have e : 65536 + (x - 55296) * 1024 + c - 56320 = joinI x c := by unfold joinI; omega
            rw [e, List.map_append, List.map_append, List.length_append, List.length_map, List.length_map, List.length_singleton, Nat.add_sub_cancel, List.set_append_right _ _ (by rw [List.length_map]; exact Nat.le_refl _)]
            simp
          refine w_to (by exists hne, hla, c1, c3, hfl, hm, hs) ?_
          exact ⟨rfl, h2⟩
        · rw [if_neg (fun q => c3 q.2)]
          refine w_to (by exists hne, hla, c1, c3, hfl) ?_
          exact ⟨by simp, h2⟩
      · rw [if_neg (fun q => c1 q.1)]
        refine w_to (by exists hne, hla, c1, hfl) ?_
        exact ⟨by simp, h2⟩
  · intro ρ' x1
    rw [m_retOwn, x1]
    rfl
theorem wr_loop {β : SM} (hβ : ∀ (ρ : St) (c : Int) (acc : List Int), ρ.own = none → ρ.stm = none → ρ.loc 1 = some (.list (acc.map .int)) → ρ.loc 2 = some (.int c) → okC c → acc.length ≤ 4000 → ∃ ρ', β ρ = some (.next ρ') ∧ ρ'.own = none ∧ ρ'.stm = none ∧ ρ'.loc 1 = some (.list ((acc ++ octI c).map .int))) :
    ∀ (text acc : List Int) (ρ : St), ρ.own = none → ρ.stm = none → ρ.loc 1 = some (.list (acc.map .int)) → (∀ c ∈ text, okC c) → acc.length + 4 * text.length ≤ 4000 →
      ∃ ρ', forM (SM.put 2) β (text.map .int) ρ = some (.next ρ') ∧ ρ'.loc 1 = some (.list ((acc ++ text.flatMap octI).map .int))
  | [], acc, ρ, h1, h2, h3, _, _ => ⟨ρ, rfl, by rw [h3]; simp⟩
  | c :: text, acc, ρ, h1, h2, h3, h4, h5 => by
    have hf : ρ.free 2 = true := by unfold St.free; rw [h1, h2]; rfl
    rw [List.length_cons] at h5
    rw [List.map_cons, forM_put hf]
    have hc := h4 c (.head _)
    obtain ⟨ρ', g0, g1, g2, g3⟩ := hβ (ρ.put 2 (.int c)) c acc h1 h2 h3 rfl hc (by omega)
    rw [g0, after_next]
    have := (octI_ok hc).2.1
    obtain ⟨ρ₂, x1, x2⟩ := wr_loop hβ text (acc ++ octI c) ρ' g1 g2 g3 (fun x hx => h4 x (.tail _ hx)) (by rw [List.length_append]; omega)
    exact ⟨ρ₂, x1, by rw [x2]; simp⟩
theorem f341 (text : List Int) (hv : ∀ c ∈ text, okC c) (hl : text.length ≤ 64) : s341.F [.list (text.map .int)] = some (.ok (.bytes (bts (text.flatMap octI)))) := by
  unfold s341
  dsimp only [d_pure]
  refine (if_pos rfl).trans (r_seq (by exists hl) (r_ofE (by exists hl) ?_))
  refine seq_then (wr_loop ?_ text [] _ rfl rfl rfl hv (by simp; omega)) ?_
  · intro ρ c acc h1 h2 h3 h4 h5 h6
    have := (octI_ok h5).2.1
    have e : binD .Add (.list (acc.map .int)) (.list ((octI c).map .int)) = some (.list (acc.map .int ++ (octI c).map .int)) := b_addl _ _ (by rw [List.length_map, List.length_map]; omega)
    have q334 := f334 c
    refine w_to (by exists q334, e) ?_
    exact ⟨h1, h2, by rw [List.map_append]; rfl⟩
  · intro ρ' x1
    obtain ⟨a, b⟩ := flat_ok (f := octI) (text := text) fun c hc => ⟨(octI_ok (hv c hc)).1, by have := (octI_ok (hv c hc)).2.1; omega⟩
    have hb := bytesF_ints _ a (show (text.flatMap octI).length ≤ 4096 by omega)
    rw [List.nil_append] at x1
    exact r_of (by exists x1, hb) rfl
theorem itemD_ints {t : List Int} {i : Nat} {c : Int} {r : List Int} (h : t.drop i = c :: r) (h' : t.length ≤ 4096) : itemD (.list (t.map .int)) (i : Int) = some (.int c) := by
  have hc : t[i]? = some c := by
    have := congrArg (fun x => x[0]?) h
    simpa using this
  unfold itemD
  dsimp only
  rw [List.length_map, if_pos h', if_pos (by omega), Int.toNat_natCast, List.getElem?_map, hc]
  rfl
noncomputable def jn : List Int → Nat × Int
  | c :: l :: _ => if (55296 ≤ c ∧ c ≤ 56319) ∧ 56320 ≤ l ∧ l ≤ 57343 then (2, joinI c l) else (1, c)
  | [c] => (1, c)
  | [] => (1, 0)
theorem jn_two (c l : Int) (r : List Int) : jn (c :: l :: r) = if (55296 ≤ c ∧ c ≤ 56319) ∧ 56320 ≤ l ∧ l ≤ 57343 then (2, joinI c l) else (1, c) := rfl
theorem joinP_jn (c : Int) (r : List Int) : joinP (c :: r) = (jn (c :: r)).2 :: joinP ((c :: r).drop (jn (c :: r)).1) := by
  cases r with
  | nil => rfl
  | cons l r =>
    have e : joinP (c :: l :: r) = if (55296 ≤ c ∧ c ≤ 56319) ∧ 56320 ≤ l ∧ l ≤ 57343 then joinI c l :: joinP r else c :: joinP (l :: r) := by rw [joinP]
    rw [e, jn_two]
    split <;> rfl
theorem jn_ok {c : Int} {r : List Int} (h : ∀ x ∈ c :: r, okC x) : okC (jn (c :: r)).2 ∧ 0 < (jn (c :: r)).1 := by
  cases r with
  | nil => exact ⟨h c (.head _), Nat.succ_pos _⟩
  | cons l r =>
    rw [jn_two]
    split
    · rename_i q
      have := joinI_not q.1 q.2
      exact ⟨⟨by dsimp only; omega, this.2⟩, Nat.succ_pos _⟩
    · exact ⟨h c (.head _), Nat.succ_pos _⟩
theorem joinP_okC : ∀ (n : Nat) (t : List Int), t.length ≤ n → (∀ c ∈ t, okC c) → ∀ c ∈ joinP t, okC c
  | _, [], _, _ => fun c hc => by simp [joinP] at hc
  | 0, _ :: _, h, _ => by simp at h
  | n + 1, c :: r, h, hv => by
    obtain ⟨a, b⟩ := jn_ok hv
    rw [joinP_jn]
    intro x hx
    rcases List.mem_cons.mp hx with q | q
    · rw [q]; exact a
    · exact joinP_okC n _ (by rw [List.length_drop]; simp only [List.length_cons] at h ⊢; omega) (fun y hy => hv y (List.mem_of_mem_drop hy)) x q
theorem joinP_len : ∀ (n : Nat) (t : List Int), t.length ≤ n → (joinP t).length ≤ t.length
  | _, [], _ => Nat.le_refl _
  | 0, _ :: _, h => by simp at h
  | n + 1, c :: r, h => by
    have hk : 0 < (jn (c :: r)).1 := by cases r with
      | nil => exact Nat.succ_pos _
      | cons l r => rw [jn_two]; split <;> exact Nat.succ_pos _
    rw [joinP_jn, List.length_cons]
    have := joinP_len n ((c :: r).drop (jn (c :: r)).1) (by rw [List.length_drop]; simp only [List.length_cons] at h ⊢; omega)
    rw [List.length_drop] at this
    simp only [List.length_cons] at this ⊢
    omega
theorem wtf_loop {τ : EM Bool} {β : SM} (t : List Int) (hv : ∀ c ∈ t, okC c) (hl : t.length ≤ 64)
    (hτ : ∀ (ρ : St) (a : Nat), ρ.loc 0 = some (.list (t.map .int)) → ρ.loc 2 = some (.int a) → τ ρ = some (.ok (decide (a < t.length))))
    (hβ : ∀ (ρ : St) (a : Nat) (acc : List Int) (c : Int) (r : List Int), ρ.loc 0 = some (.list (t.map .int)) → ρ.loc 2 = some (.int a) → ρ.own = some (1, acc.map .int) → ρ.stm = none → t.drop a = c :: r → acc.length ≤ 4000 →
      ∃ ρ', β ρ = some (.next ρ') ∧ ρ'.loc 0 = some (.list (t.map .int)) ∧ ρ'.loc 2 = some (.int ((a + (jn (c :: r)).1 : Nat) : Int)) ∧ ρ'.own = some (1, (acc ++ octI (jn (c :: r)).2).map .int) ∧ ρ'.stm = none) :
    ∀ (n a : Nat) (acc : List Int) (ρ : St), ρ.loc 0 = some (.list (t.map .int)) → ρ.loc 2 = some (.int a) → ρ.own = some (1, acc.map .int) → ρ.stm = none → acc.length ≤ 4 * a → t.length - a < n →
      ∃ ρ', whileM τ β n ρ = some (.next ρ') ∧ ρ'.own = some (1, (acc ++ (joinP (t.drop a)).flatMap octI).map .int)
  | 0, _, _, _, _, _, _, _, _, h => by omega
  | n + 1, a, acc, ρ, h1, h2, h3, h4, h5, h7 => by
    rw [whileM_succ]
    have ht := hτ ρ a h1 h2
    have e0 : SM.ofE τ (fun b => if b = true then fun ρ => after (whileM τ β n) (β ρ) else SM.next) ρ = if a < t.length then after (whileM τ β n) (β ρ) else some (.next ρ) := by
      unfold SM.ofE
      rw [ht]
      dsimp only
      by_cases ha : a < t.length
      · rw [if_pos (by simpa using ha), if_pos ha]
      · rw [if_neg (by simpa using ha), if_neg ha]; rfl
    rw [e0]
    by_cases ha : a < t.length
    · rw [if_pos ha]
      obtain ⟨c, r, hd⟩ : ∃ c r, t.drop a = c :: r := by
        cases e : t.drop a with
        | nil =>
          have := congrArg List.length e
          rw [List.length_drop, List.length_nil] at this
          omega
        | cons c r => exact ⟨c, r, rfl⟩
      have hmem : ∀ x ∈ c :: r, okC x := fun x hx => hv x (List.mem_of_mem_drop (by rw [hd]; exact hx))
      obtain ⟨j1, j2⟩ := jn_ok hmem
      have := (octI_ok j1).2.1
      obtain ⟨ρ', g0, g1, g2, g3, g4⟩ := hβ ρ a acc c r h1 h2 h3 h4 hd (by omega)
      rw [g0, after_next]
      obtain ⟨ρ₂, x1, x2⟩ := wtf_loop t hv hl hτ hβ n (a + (jn (c :: r)).1) _ ρ' g1 g2 g3 g4 (by rw [List.length_append]; omega) (by omega)
      refine ⟨ρ₂, x1, ?_⟩
      rw [x2, hd, joinP_jn, ← List.drop_drop, hd, List.flatMap_cons, List.append_assoc]
    · rw [if_neg ha, List.drop_of_length_le (by omega)]
      exact ⟨ρ, rfl, by rw [h3]; simp [joinP]⟩
theorem f243 (t : List Int) (hv : ∀ c ∈ t, okC c) (hl : t.length ≤ 64) : s243.F [.list (t.map .int)] = some (.ok (.bytes (bts ((joinP t).flatMap octI)))) := by
  have hl' : (t.map Dat.int).length ≤ 4096 := by rw [List.length_map]; omega
  have hl2 : t.length ≤ 4096 := by omega
  unfold s243
  dsimp only [d_pure]
  have hn : lenF [.list (t.map .int)] = some (.int t.length) := by rw [lenF_list _ hl', List.length_map]
  refine (if_pos rfl).trans (r_seq (by exists hl) ?_)
  refine seq_then (wtf_loop t hv hl ?_ ?_ 4096 0 [] _ rfl rfl rfl rfl (Nat.zero_le _) (by omega)) ?_
  · intro ρ a h1 h2
    exact tau_n hn h1 h2
  · intro ρ a acc c r h1 h2 h3 h4 hd h6
    have hmem : ∀ x ∈ c :: r, okC x := fun x hx => hv x (List.mem_of_mem_drop (by rw [hd]; exact hx))
    have hc := hmem c (.head _)
    have i0 := itemD_ints hd hl2
    have hfl : (acc.map Dat.int).length ≤ 4096 := by rw [List.length_map]; omega
    have hex : ∀ x, okC x → exD (acc.map .int) (.list ((octI x).map .int)) = some ((acc ++ octI x).map .int) := fun x hx => by
      rw [exD_ints _ _ (octI_ok hx).2.2 (by have := (octI_ok hx).2.1; omega), List.map_append]
    have hdl : t.length - a = r.length + 1 := by
      have := congrArg List.length hd
      rwa [List.length_drop, List.length_cons] at this
    have k1 : binD .Add (.int (a : Int)) (.int 1) = some (.int ((a + 1 : Nat) : Int)) := (b_add _ _)
    rw [seq_next (ρ' := ρ.put 3 (.int c))]
    rotate_left
    · exists i0
    have q73 := f73 c
    rw [seq_next (ρ' := ρ.put 3 (.int c))]
    rotate_left
    · have q94 := f94 c
      rcases scalar_or hc with q | q | q
      · exists q94, q
      · have hs := scalar_not hc (by omega)
        exists q94, hs, q73, q
      · have hs := scalar_not hc (by omega)
        have q80 := f80 c
        exists q94, hs, q73, q.1, q80, q.2
    have h101 := f101 c hc.1 hc.2
    have hxc := hex c hc
    by_cases hh : 55296 ≤ c ∧ c ≤ 56319
    · cases r with
      | nil =>
        rw [List.length_nil] at hdl
        have q : ¬ ((a + 1 : Nat) : Int) < (t.length : Nat) := by omega
        refine w_to (by exists q73, hh, k1, hn, q, h101, hfl, hxc) ?_
        exact ⟨h1, rfl, rfl, h4⟩
      | cons l r' =>
        rw [List.length_cons] at hdl
        have q : ((a + 1 : Nat) : Int) < (t.length : Nat) := by omega
        have hd1 : t.drop (a + 1) = l :: r' := by
          have := congrArg (List.drop 1) hd
          rw [List.drop_drop] at this
          simpa using this
        have i1 := itemD_ints hd1 hl2
        have q80 := f80 l
        have hjn : jn (c :: l :: r') = if (55296 ≤ c ∧ c ≤ 56319) ∧ 56320 ≤ l ∧ l ≤ 57343 then (2, joinI c l) else (1, c) := rfl
        rw [hjn]
        by_cases hlo : 56320 ≤ l ∧ l ≤ 57343
        · rw [if_pos ⟨hh, hlo⟩]
          have hj := joinI_not hh hlo
          have hjo : okC (joinI c l) := ⟨by omega, hj.2⟩
          have k2 : binD .Add (.int ((a + 1 : Nat) : Int)) (.int 1) = some (.int ((a + 2 : Nat) : Int)) := (b_add _ _)
          have hf194 : s194.F [.int c, .int l] = some (.ok (.int (joinI c l))) := f194 c l (by omega)
          have h101 := f101 _ hjo.1 hjo.2
          have hxc := hex _ hjo
          refine w_to (by exists q73, hh, k1, hn, q, i1, q80, hlo, hf194, k2, h101, hfl, hxc) ?_
          exact ⟨h1, rfl, rfl, h4⟩
        · rw [if_neg (fun q => hlo q.2)]
          refine w_to (by exists q73, hh, k1, hn, q, i1, q80, hlo, h101, hfl, hxc) ?_
          exact ⟨h1, rfl, rfl, h4⟩
    · have hjn : jn (c :: r) = (1, c) := by
        cases r with
        | nil => rfl
        | cons l r' => rw [jn_two, if_neg (fun q => hh q.1)]
      rw [hjn]
      refine w_to (by exists q73, hh, k1, h101, hfl, hxc) ?_
      exact ⟨h1, rfl, rfl, h4⟩
  · intro ρ' x1
    have hj := joinP_okC _ t (Nat.le_refl _) hv
    have hjl := joinP_len _ t (Nat.le_refl _)
    obtain ⟨a, b⟩ := flat_ok (f := octI) (text := joinP t) fun c hc => ⟨(octI_ok (hj c hc)).1, by have := (octI_ok (hj c hc)).2.1; omega⟩
    unfold SM.ofE EM.ownBytes
    rw [x1]
    dsimp only
    rw [if_pos rfl, List.nil_append, List.drop_zero, bytesF_ints _ a (by omega)]
    rfl
/-- told: what a decoder says, or none -/
noncomputable def told : Option (List Int) → Dat
  | none => .none
  | some cs => .list (cs.map .int)
theorem m_try (β η b : SM) (C : Addr) (ρ : St) : SM.seq (tryM β C η) b ρ = match β ρ with
    | none => none
    | some (.raise C') => if C' = C then (match η St.empty with
      | none => none
      | some (.raise _) => none
      | some (.next ρ') => b ρ'
      | some (.brk ρ') => some (.brk ρ')
      | some (.ret d) => some (.ret d)) else none
    | some (.next ρ') => b ρ'
    | some (.brk ρ') => some (.brk ρ')
    | some (.ret d) => some (.ret d) := by
  unfold SM.seq tryM
  cases β ρ with
  | none => rfl
  | some x =>
    cases x with
    | raise C' =>
      dsimp only
      by_cases h : C' = C
      · rw [if_pos h, if_pos h]
        cases η St.empty with
        | none => rfl
        | some y => cases y <;> rfl
      · rw [if_neg h, if_neg h]
    | next _ => rfl
    | brk _ => rfl
    | ret _ => rfl
theorem seq_try {β η b : SM} {C : Addr} {ρ : St} {x : Option (Except Addr Dat)} (h : (∃ ρ', β ρ = some (.next ρ') ∧ resOf (b ρ') = x) ∨ (β ρ = some (.raise C) ∧ ∃ ρ', η St.empty = some (.next ρ') ∧ resOf (b ρ') = x)) : resOf (SM.seq (tryM β C η) b ρ) = x := by
  rw [m_try]
  rcases h with ⟨ρ', e, h⟩ | ⟨e, ρ', e', h⟩
  · rw [e]; exact h
  · rw [e]; dsimp only; rw [if_pos rfl, e']; exact h
theorem seq_try_ret {β η b : SM} {C : Addr} {ρ : St} {d : Dat} (h : β ρ = some (.raise C)) (e : η St.empty = some (.ret d)) : resOf (SM.seq (tryM β C η) b ρ) = some (.ok d) := by
  rw [m_try, h]; dsimp only; rw [if_pos rfl, e]; rfl
theorem f308 {f : Addr} {F : List Dat → Option (Except Addr Dat)} {d : Dat} {o : Option (List Int)} (hf : told308 f = some F) (hF : F [d] = rlist o) : s308.F [.obj f, d] = some (.ok (told o)) := by
  unfold s308
  dsimp only [d_pure]
  refine (if_pos rfl).trans (seq_try ?_)
  cases o with
  | none =>
    refine .inr ⟨w_ofE (x := some (.error 45)) (v_rdb (d := .obj f) rfl ?_) rfl, _, rfl, rfl⟩
    dsimp only
    rw [hf]
    exact v_call1 rfl (v_liftR hF)
  | some cs =>
    refine .inl ⟨(startOf [0, 1] [.obj f, d]).put 2 (.list (cs.map .int)), w_as rfl (v_rdb (d := .obj f) rfl ?_), rfl⟩
    dsimp only
    rw [hf]
    exact v_call1 rfl (v_liftR hF)
theorem f362 {f : Addr} {F : List Dat → Option (Except Addr Dat)} {d : Dat} {o : Option (List Int)} (hf : told362 f = some F) (hF : F [d] = rbytes 57 o) : s362.F [.obj f, d] = some (.ok (.bool o.isNone)) := by
  unfold s362
  dsimp only [d_pure]
  refine (if_pos rfl).trans ?_
  cases o with
  | none =>
    refine seq_try_ret (w_ofE (x := some (.error 57)) (v_rdb (d := .obj f) rfl ?_) rfl) rfl
    dsimp only
    rw [hf]
    exact v_call1 rfl (v_liftR hF)
  | some cs =>
    refine seq_try (.inl ⟨startOf [0, 1] [.obj f, d], w_ofE (x := some (.ok (.bytes (bts cs)))) (v_rdb (d := .obj f) rfl ?_) rfl, rfl⟩)
    dsimp only
    rw [hf]
    exact v_call1 rfl (v_liftR hF)
/-- a run, or all pieces at the last -/
noncomputable def ru (last : Bool) (s : List UInt8) : List (List UInt8) × List UInt8 := if last then (pcs s, []) else rn s
theorem ru_nil (last : Bool) : ru last [] = ([], []) := by cases last <;> rfl
theorem ru_open {s : List UInt8} (h : open_ s = true) : ru false s = ([], s) := rn_open h
theorem ru_cons {last : Bool} {s : List UInt8} (h : s ≠ []) (ho : (!last && open_ s) = false) : ru last s = (s.take (cutN s) :: (ru last (s.drop (cutN s))).1, (ru last (s.drop (cutN s))).2) := by
  cases last with
  | true => unfold ru; rw [if_pos rfl, if_pos rfl, pcs_cons h]
  | false => exact rn_cons h (by simpa using ho)
theorem ru_split (last : Bool) (s : List UInt8) : s = (ru last s).1.flatten ++ (ru last s).2 := by
  cases last with
  | true => unfold ru; rw [if_pos rfl, pcs_flat, List.append_nil]
  | false => exact rn_split s
theorem eqD_wrong {s : List UInt8} (h : s ≠ []) : eqD (.str (wrong s)) (.str "a sequence that is cut short") = some (open_ s) := by
  match s, h with
  | b :: r, _ =>
  have e : wrong (b :: r) = if whole (b :: r) then ("" : Str) else if manyP b.toNat = 0 then (if b.toNat < 192 then ("a trail octet without a lead" : Str) else ("an octet that never stands" : Str)) else if cutN (b :: r) = (b :: r).length then SHORT else BROKEN := rfl
  have eo : open_ (b :: r) = (manyP b.toNat != 0 && !whole (b :: r) && cutN (b :: r) == (b :: r).length) := rfl
  rw [e, eo]
  cases hw : whole (b :: r) with
  | true =>
    rw [if_pos rfl, Bool.not_true, Bool.and_false, Bool.false_and]
    decide +kernel
  | false =>
    rw [if_neg (by decide)]
    by_cases hm : manyP b.toNat = 0
    · have hm' : (manyP b.toNat != 0) = false := by simpa using hm
      rw [if_pos hm, hm', Bool.false_and, Bool.false_and]
      by_cases h1 : b.toNat < 192
      · rw [if_pos h1]; decide +kernel
      · rw [if_neg h1]; decide +kernel
    · have hm' : (manyP b.toNat != 0) = true := by simpa using hm
      rw [if_neg hm, hm', Bool.true_and, Bool.not_false, Bool.true_and]
      by_cases hc : cutN (b :: r) = (b :: r).length
      · rw [if_pos hc, hc, beq_self_eq_true]; decide +kernel
      · rw [if_neg hc, beq_eq_false_iff_ne.mpr hc]; decide +kernel
theorem attr_w {ρ : St} {b : Bool} {wt : List UInt8} {pl : Int} (h : ρ.stm = some (0, b, wt, pl)) : EM.attr 0 "waiting" ρ = some (.ok (.bytes wt)) := by
  unfold EM.attr; rw [h]; dsimp only; rw [if_pos rfl]; rfl
theorem attr_s {ρ : St} {b : Bool} {wt : List UInt8} {pl : Int} (h : ρ.stm = some (0, b, wt, pl)) : EM.attr 0 "is_strict" ρ = some (.ok (.bool b)) := by
  unfold EM.attr; rw [h]; dsimp only; rw [if_pos rfl]; rfl
theorem attr_p {ρ : St} {b : Bool} {wt : List UInt8} {pl : Int} (h : ρ.stm = some (0, b, wt, pl)) : EM.attr 0 "place" ρ = some (.ok (.int pl)) := by
  unfold EM.attr; rw [h]; dsimp only; rw [if_pos rfl]; rfl
theorem set_w {ρ : St} {b : Bool} {wt v : List UInt8} {pl : Int} (h : ρ.stm = some (0, b, wt, pl)) : SM.attr 0 "waiting" (.bytes v) ρ = some (.next { ρ with stm := some (0, b, v, pl) }) := by
  unfold SM.attr; rw [h]; dsimp only; rw [if_pos rfl]; rfl
theorem set_p {ρ : St} {b : Bool} {wt : List UInt8} {pl v : Int} (h : ρ.stm = some (0, b, wt, pl)) : SM.attr 0 "place" (.int v) ρ = some (.next { ρ with stm := some (0, b, wt, v) }) := by
  unfold SM.attr; rw [h]; dsimp only; rw [if_pos rfl]; rfl
structure FeedInv (xa : Addr) (b last : Bool) (wt : List UInt8) (pl : Int) (W : List UInt8) (a : Nat) (found : List Int) (ρ : St) : Prop where
  obj : ρ.loc 0 = some (.obj xa)
  last : ρ.loc 2 = some (.bool last)
  whole : ρ.loc 3 = some (.bytes W)
  at_ : ρ.loc 5 = some (.int a)
  own : ρ.own = some (4, found.map .int)
  stm : ρ.stm = some (0, b, wt, pl)
theorem feed_loop {τ : EM Bool} {β : SM} (xa : Addr) (b last : Bool) (wt : List UInt8) (pl : Int) (W : List UInt8) (hl : W.length ≤ 4000)
    (hτ : ∀ (ρ : St) (a : Nat) (found : List Int), FeedInv xa b last wt pl W a found ρ → τ ρ = some (.ok (decide (a < W.length))))
    (hβ : ∀ (ρ : St) (a : Nat) (found : List Int) (u : UInt8) (r : List UInt8), FeedInv xa b last wt pl W a found ρ → W.drop a = u :: r → found.length ≤ 4000 →
      if (!last && open_ (u :: r)) = true then ∃ ρ', β ρ = some (.brk ρ') ∧ FeedInv xa b last wt pl W a found ρ'
      else if (b && !Mine.whole (u :: r)) = true then β ρ = some (.raise 45)
      else ∃ ρ', β ρ = some (.next ρ') ∧ FeedInv xa b last wt pl W (a + cutN (u :: r)) (found ++ [val (u :: r)]) ρ') :
    ∀ (n a : Nat) (found : List Int) (ρ : St), FeedInv xa b last wt pl W a found ρ → found.length ≤ a → a ≤ W.length → W.length - a < n →
      if (b && !(ru last (W.drop a)).1.all Mine.whole) = true then whileM τ β n ρ = some (.raise 45)
      else ∃ ρ', whileM τ β n ρ = some (.next ρ') ∧ FeedInv xa b last wt pl W (a + (ru last (W.drop a)).1.flatten.length) (found ++ (ru last (W.drop a)).1.map val) ρ'
  | 0, _, _, _, _, _, _, h => by omega
  | n + 1, a, found, ρ, I, h1, h2, h3 => by
    rw [whileM_succ]
    have ht := hτ ρ a found I
    have e0 : SM.ofE τ (fun b => if b = true then fun ρ => after (whileM τ β n) (β ρ) else SM.next) ρ = if a < W.length then after (whileM τ β n) (β ρ) else some (.next ρ) := by
      unfold SM.ofE
      rw [ht]
      dsimp only
      by_cases ha : a < W.length
      · rw [if_pos (by simpa using ha), if_pos ha]
      · rw [if_neg (by simpa using ha), if_neg ha]; rfl
    rw [e0]
    by_cases ha : a < W.length
    · rw [if_pos ha]
      obtain ⟨u, r, hd⟩ := drop_cons_of ha
      have hb := hβ ρ a found u r I hd (by omega)
      rw [hd]
      have hne : u :: r ≠ [] := by simp
      by_cases ho : (!last && open_ (u :: r)) = true
      · rw [if_pos ho] at hb
        obtain ⟨ρ', g0, g1⟩ := hb
        obtain ⟨hl', ho'⟩ := Bool.and_eq_true_iff.mp ho
        have hlf : last = false := by simpa using hl'
        have e : ru last (u :: r) = ([], u :: r) := by rw [hlf]; exact ru_open ho'
        rw [e]
        dsimp only
        rw [if_neg (by simp), g0, after_brk]
        exact ⟨ρ', rfl, by simpa using g1⟩
      · rw [if_neg ho] at hb
        have ho' : (!last && open_ (u :: r)) = false := by simpa using ho
        rw [ru_cons hne ho']
        dsimp only
        rw [List.all_cons, val_take.1]
        cases hw : Mine.whole (u :: r) with
        | false =>
          rw [hw] at hb
          cases b with
          | true =>
            rw [if_pos (by rfl)] at hb
            rw [if_pos (by simp), hb]
            rfl
          | false =>
            rw [if_neg (by simp)] at hb
            rw [if_neg (by simp)]
            obtain ⟨ρ', g0, g1⟩ := hb
            rw [g0, after_next]
            have ih := feed_loop xa false last wt pl W hl hτ hβ n (a + cutN (u :: r)) _ ρ' g1 (by have := @cutN_pos u r; rw [List.length_append, List.length_singleton]; omega) (by have := cutN_le (u :: r); rw [← hd, List.length_drop] at this; rw [← hd]; omega) (by have := @cutN_pos u r; omega)
            rw [if_neg (by simp), ← List.drop_drop, hd] at ih
            obtain ⟨ρ₂, x0, x1⟩ := ih
            refine ⟨ρ₂, x0, ?_⟩
            rw [List.flatten_cons, List.length_append, take_cut_len, List.map_cons, val_cut, ← Nat.add_assoc]
            simpa using x1
        | true =>
          rw [hw] at hb
          rw [if_neg (by simp)] at hb
          obtain ⟨ρ', g0, g1⟩ := hb
          rw [g0, after_next]
          have ih := feed_loop xa b last wt pl W hl hτ hβ n (a + cutN (u :: r)) _ ρ' g1 (by have := @cutN_pos u r; rw [List.length_append, List.length_singleton]; omega) (by have := cutN_le (u :: r); rw [← hd, List.length_drop] at this; rw [← hd]; omega) (by have := @cutN_pos u r; omega)
          rw [← List.drop_drop, hd] at ih
          rw [Bool.true_and]
          split
          · rename_i q
            rw [if_pos q] at ih
            exact ih
          · rename_i q
            rw [if_neg q] at ih
            obtain ⟨ρ₂, x0, x1⟩ := ih
            refine ⟨ρ₂, x0, ?_⟩
            rw [List.flatten_cons, List.length_append, take_cut_len, List.map_cons, val_cut, ← Nat.add_assoc]
            simpa using x1
    · rw [if_neg ha, List.drop_of_length_le (by omega), ru_nil]
      rw [if_neg (by simp)]
      exact ⟨ρ, rfl, by simpa using I⟩
/-- what feed tells -/
noncomputable def feedP : FeedF := fun b wt pl octets last =>
  if (wt ++ octets).length ≤ 4000 then
    some (if (b && !(ru last (wt ++ octets)).1.all whole) = true then .error 45
      else .ok ((((ru last (wt ++ octets)).1.map val).map .int), (ru last (wt ++ octets)).2, if last then 0 else pl + ((ru last (wt ++ octets)).1.flatten.length : Nat)))
  else none
theorem drop_pre {α : Type} {a b c : List α} (h : a = b ++ c) : a.drop b.length = c := by subst h; simp
theorem feedRes_next {b : Bool} {ρ : St} {ds : List Dat} {wt : List UInt8} {pl : Int} (h1 : ρ.own = some (4, ds)) (h2 : ρ.stm = some (0, b, wt, pl)) : feedRes b (some (.next ρ)) = some (.ok (ds, wt, pl)) := by
  simp [feedRes, h1, h2]
noncomputable def FeedGood (xa : Addr) (b last : Bool) (pl : Int) (W : List UInt8) (o : Option Out) : Prop :=
  if (b && !(ru last W).1.all whole) = true then o = some (.raise 45)
    else ∃ ρ', o = some (.next ρ') ∧ ρ'.loc 0 = some (.obj xa) ∧ ρ'.own = some (4, ((ru last W).1.map val).map .int) ∧ ρ'.stm = some (0, b, (ru last W).2, if last then 0 else pl + ((ru last W).1.flatten.length : Nat))
theorem feed_end {xa : Addr} {b last : Bool} {wt : List UInt8} {pl : Int} {W : List UInt8} {τ : EM Bool} {β K : SM} {ρ : St}
    (hL : if (b && !(ru last (W.drop 0)).1.all whole) = true then whileM τ β 4096 ρ = some (.raise 45)
      else ∃ ρ', whileM τ β 4096 ρ = some (.next ρ') ∧ FeedInv xa b last wt pl W (0 + (ru last (W.drop 0)).1.flatten.length) ([] ++ (ru last (W.drop 0)).1.map val) ρ')
    (hK : ∀ ρ', FeedInv xa b last wt pl W (ru last W).1.flatten.length ((ru last W).1.map val) ρ' → ∃ ρ'', K ρ' = some (.next ρ'') ∧ ρ''.loc 0 = some (.obj xa) ∧ ρ''.own = some (4, ((ru last W).1.map val).map .int) ∧ ρ''.stm = some (0, b, (ru last W).2, if last then 0 else pl + ((ru last W).1.flatten.length : Nat))) :
    FeedGood xa b last pl W (SM.seq (whileM τ β 4096) K ρ) := by
  rw [List.drop_zero, Nat.zero_add, List.nil_append] at hL
  unfold FeedGood
  split
  · rename_i q
    rw [if_pos q] at hL
    exact seq_raise hL
  · rename_i q
    rw [if_neg q] at hL
    obtain ⟨ρ', e1, e2⟩ := hL
    obtain ⟨ρ₂, x⟩ := hK ρ' e2
    exact ⟨ρ₂, by rw [seq_next e1]; exact x.1, x.2⟩
theorem feed_pure (xa : Addr) (b : Bool) (wt : List UInt8) (pl : Int) (octets : List UInt8) (last : Bool) (hl : (wt ++ octets).length ≤ 4000) :
    FeedGood xa b last pl (wt ++ octets) (s173.ψ (feedSt xa b wt pl octets last)) := by
  have hl' : (wt ++ octets).length ≤ 4096 := by omega
  have hadd : binD .Add (.bytes wt) (.bytes octets) = some (.bytes (wt ++ octets)) := b_addb _ _ (by rw [List.length_append] at hl; omega)
  unfold s173
  dsimp only [d_pure]
  unfold feedSt
  rw [seq_next]
  rotate_left
  · exists hadd
  generalize hW : wt ++ octets = W at *
  refine feed_end (wt := wt) (feed_loop xa b last wt pl W hl ?_ ?_ 4096 0 [] _ ⟨rfl, rfl, rfl, rfl, rfl, rfl⟩ (Nat.le_refl _) (Nat.zero_le _) (by omega)) ?_
  · intro ρ a found I
    exact tau_len hl' I.whole I.at_
  · intro ρ a found u r I hd hf
    obtain ⟨h1, h2, h3, h4, h5, h6⟩ := I
    have hfl : (found.map Dat.int).length ≤ 4096 := by rw [List.length_map]; omega
    have hw : cmpD .Eq (.str (wrong (u :: r))) (.str "a sequence that is cut short") = some (open_ (u :: r)) := eqD_wrong (by simp)
    have hap : found.map Dat.int ++ [.int (val (u :: r))] = (found ++ [val (u :: r)]).map .int := by rw [List.map_append]; rfl
    cases hwf : whole (u :: r) with
    | true =>
      have ho : open_ (u :: r) = false := by simp [open_, hwf]
      rw [ho] at hw
      have h122 := f122_t W a u r hd hl' hwf
      rw [ho, Bool.and_false, if_neg Bool.false_ne_true, Bool.not_true, Bool.and_false, if_neg Bool.false_ne_true]
      rw [show val (u :: r) = codeB (u :: r) by unfold val; rw [hwf]; rfl] at *
      refine w_to (by exists h122, hw, hfl) ?_
      exact ⟨h1, h2, h3, rfl, congrArg (fun x => some (4, x)) hap, h6⟩
    | false =>
      have h122 := f122_f W a u r hd hl' hwf
      rw [show val (u :: r) = 65533 by unfold val; rw [hwf]; rfl] at *
      rw [Bool.not_false, Bool.and_true]
      by_cases hb : (!last && open_ (u :: r)) = true
      · rw [if_pos hb]
        obtain ⟨hl0, ho⟩ := Bool.and_eq_true_iff.mp hb
        rw [ho] at hw
        have hl0 : last = false := by simpa using hl0
        subst hl0
        refine w_tob (by exists h122, hw) ?_
        exact ⟨h1, h2, h3, h4, h5, h6⟩
      · rw [if_neg hb]
        rw [seq_next (ρ' := ((ρ.put 6 (.int (cutN (u :: r)))).put 7 .none).put 8 (.str (wrong (u :: r))))]
        rotate_left
        · exists h122
        rw [seq_next (ρ' := ((ρ.put 6 (.int (cutN (u :: r)))).put 7 .none).put 8 (.str (wrong (u :: r))))]
        rotate_left
        · cases ho : open_ (u :: r) with
          | false =>
            rw [ho] at hw
            exists hw
          | true =>
            rw [ho] at hw hb
            cases last with
            | true => exists hw
            | false => exact absurd rfl hb
        cases b with
        | true =>
          rw [if_pos rfl]
          exists hfl
        | false =>
          rw [if_neg Bool.false_ne_true]
          refine w_to (by exists hfl) ?_
          exact ⟨h1, h2, h3, rfl, congrArg (fun x => some (4, x)) hap, h6⟩
  · intro ρ' I
    obtain ⟨h1, h2, h3, h4, h5, h6⟩ := I
    have hsl := slice_from W (ru last W).1.flatten.length hl'
    rw [drop_pre (ru_split last W)] at hsl
    cases last with
    | true =>
      refine w_to (by exists hsl) ?_
      exact ⟨h1, h5, rfl⟩
    | false =>
      refine w_to (by exists hsl) ?_
      exact ⟨h1, h5, rfl⟩
theorem hFeed : ∀ (prog : Program) (w : World) (h0 : Heap), Gd w h0 → FeedSpec prog w h0 31 feedP := by
  intro prog w h0 G
  refine s173.ok prog w h0 G feedP fun xa b wt pl octets last r hr => ?_
  unfold feedP at hr
  split at hr
  · rename_i hl
    have hg := feed_pure xa b wt pl octets last hl
    unfold FeedGood at hg
    split at hg
    · rename_i q
      rw [if_pos q] at hr
      cases hr
      refine ⟨by rw [hg]; rfl, fun ρ' e => ?_⟩
      rw [hg] at e; cases e
    · rename_i q
      rw [if_neg q] at hr
      cases hr
      obtain ⟨ρ', e, x1, x2, x3⟩ := hg
      refine ⟨?_, fun ρ₂ e' => ?_⟩
      · rw [e, feedRes_next x2 x3]
      · rw [e] at e'
        cases e'
        exact ⟨xa, x1, rfl⟩
  · cases hr
theorem takes_in : ∀ (n lo hi : Nat) (r : List UInt8) (j : Nat) (o : UInt8), 128 ≤ lo → hi ≤ 191 → j < takes n lo hi r → r[j]? = some o → isTrail o = true
  | 0, _, _, _, _, _, _, _, h, _ => by simp [takes] at h
  | _ + 1, _, _, [], _, _, _, _, _, h => by simp at h
  | n + 1, lo, hi, u :: r, j, o, h1, h2, h3, h4 => by
    simp only [takes] at h3
    split at h3
    · rename_i q
      cases j with
      | zero =>
        rw [List.getElem?_cons_zero] at h4
        cases h4
        exact decide_eq_true (by omega)
      | succ j =>
        rw [List.getElem?_cons_succ] at h4
        exact takes_in n 128 191 r j o (by decide) (by decide) (by omega) h4
    · omega
theorem lohi (b : Nat) : 128 ≤ loP b ∧ hiP b ≤ 191 := by
  unfold loP hiP
  constructor
  · repeat' split
    all_goals omega
  · repeat' split
    all_goals omega
/-- behind the head of a piece all are trail octets -/
theorem cut_trail {l : List UInt8} {j : Nat} {o : UInt8} (h0 : 0 < j) (h : j < cutN l) (ho : l[j]? = some o) : isTrail o = true := by
  cases l with
  | nil => simp [cutN] at h
  | cons b r =>
    cases j with
    | zero => omega
    | succ j =>
      rw [cutN_cons] at h
      rw [List.getElem?_cons_succ] at ho
      exact takes_in (manyP b.toNat - 1) _ _ r j o (lohi b.toNat).1 (lohi b.toNat).2 (by omega) ho
theorem head_not {b : UInt8} {r : List UInt8} (h : 2 ≤ cutN (b :: r)) : isTrail b = false := by
  rw [cutN_cons] at h
  have := (takes_le (manyP b.toNat - 1) (loP b.toNat) (hiP b.toNat) r).1
  refine decide_eq_false ?_
  rintro ⟨h1, h2⟩
  have : manyP b.toNat = 0 := by
    unfold manyP
    rw [if_neg (by omega), if_pos (by omega)]
  omega
/-- an octet that is no trail octet begins a piece -/
theorem starts {l : List UInt8} : ∀ (h : Nat) (o : UInt8), l[h]? = some o → isTrail o = false → ∃ qs, pcs l = qs ++ pcs (l.drop h) := by
  induction l using pcs_ind with
  | h0 => intro h o ho; simp at ho
  | h1 l hl ih =>
    intro h o ho ht
    by_cases hz : h = 0
    · subst hz; exact ⟨[], rfl⟩
    by_cases hc : h < cutN l
    · rw [cut_trail (by omega) hc ho] at ht; cases ht
    · obtain ⟨qs, e⟩ := ih (h - cutN l) o (by rw [List.getElem?_drop, show cutN l + (h - cutN l) = h by omega]; exact ho) ht
      refine ⟨l.take (cutN l) :: qs, ?_⟩
      rw [pcs_cons hl, e, List.drop_drop, show cutN l + (h - cutN l) = h by omega]
      rfl
theorem backN_run (l : List UInt8) (a s : Nat) (hs : s = 0 ∨ ¬ (a - s < 4 ∧ ∃ b, l[s]? = some b ∧ isTrail b = true)) : ∀ h, s ≤ h → (∀ j, s < j → j ≤ h → a - j < 4 ∧ ∃ b, l[j]? = some b ∧ isTrail b = true) → backN l a h = s
  | 0, h1, _ => by simp [backN]; omega
  | h + 1, h1, h2 => by
    unfold backN
    by_cases e : s = h + 1
    · subst e
      rw [if_neg]
      rcases hs with q | q
      · omega
      · exact q
    · rw [if_pos (h2 (h + 1) (by omega) (Nat.le_refl _))]
      exact backN_run l a s hs h (by omega) fun j h3 h4 => h2 j h3 (by omega)
theorem back_ok (l : List UInt8) (a : Nat) (h0 : 0 < a) (ha : a ≤ l.length) (ps : List (List UInt8)) (p : List UInt8) (hp : pcs (l.take a) = ps ++ [p]) :
    (if backN l a (a - 1) + cutN ((l.take a).drop (backN l a (a - 1))) = a then backN l a (a - 1) else a - 1) = ps.flatten.length := by
  have hfl := pcs_flat (l.take a)
  rw [hp, List.flatten_append, List.flatten_cons, List.flatten_nil, List.append_nil] at hfl
  obtain ⟨hc, hne⟩ := @pcs_mem (l.take a) p (by rw [hp]; exact List.mem_append_right _ (.head _))
  have hlen : ps.flatten.length + p.length = a := by
    have := congrArg List.length hfl
    rw [List.length_append, List.length_take] at this
    omega
  have hd : (l.take a).drop ps.flatten.length = p := drop_pre hfl.symm
  have hp0 : 0 < p.length := by cases p with
    | nil => exact absurd rfl hne
    | cons _ _ => exact Nat.succ_pos _
  have hget : ∀ j, j < p.length → l[ps.flatten.length + j]? = p[j]? := fun j hj => by
    rw [← hd, List.getElem?_drop, List.getElem?_take, if_pos (by omega)]
  by_cases h1 : p.length = 1
  · by_cases hb : backN l a (a - 1) + cutN ((l.take a).drop (backN l a (a - 1))) = a
    · rw [if_pos hb]
      have hle := backN_le l a (a - 1)
      by_cases he : backN l a (a - 1) = a - 1
      · omega
      · exfalso
        obtain ⟨u, r, hu⟩ := drop_cons_of (l := l.take a) (a := backN l a (a - 1)) (by rw [List.length_take]; omega)
        have h2 : 2 ≤ cutN (u :: r) := by rw [← hu]; omega
        have hnt := head_not h2
        obtain ⟨qs, e⟩ := starts (l := l.take a) (backN l a (a - 1)) u (by
          have := congrArg (fun x => x[0]?) hu
          simpa using this) hnt
        have hful : cutN (u :: r) = (u :: r).length := by
          have := congrArg List.length hu
          rw [List.length_drop, List.length_take] at this
          rw [hu] at hb
          omega
        rw [hu, @pcs_cons (u :: r) (by simp), hful, List.drop_length, List.take_length, pcs_nil, hp] at e
        have := List.append_inj_right' e rfl
        have := congrArg List.length (List.cons.inj this).1
        omega
    · rw [if_neg hb]; omega
  · have hrun : backN l a (a - 1) = ps.flatten.length := by
      refine backN_run l a ps.flatten.length ?_ (a - 1) (by omega) fun j h3 h4 => ?_
      · right
        rintro ⟨_, b, hb, ht⟩
        match p, hget, hc, h1, hp0, hb with
        | u :: r, hget, hc, h1, hp0, hb =>
        have := hget 0 hp0
        rw [Nat.add_zero, hb, List.getElem?_cons_zero] at this
        cases this
        rw [@head_not b r (by omega)] at ht
        cases ht
      · have hj : j - ps.flatten.length < p.length := by omega
        have h4' := cutN_four p
        refine ⟨by omega, ?_⟩
        have := hget (j - ps.flatten.length) hj
        rw [show ps.flatten.length + (j - ps.flatten.length) = j by omega, List.getElem?_eq_getElem hj] at this
        exact ⟨_, this, cut_trail (l := p) (j := j - ps.flatten.length) (by omega) (by omega) (List.getElem?_eq_getElem hj)⟩
    rw [hrun, hd, hc, if_pos hlen]
theorem rn_rest_len (l : List UInt8) : (rn l).2.length ≤ l.length ∧ (rn l).1.length ≤ l.length := by
  have h7 := congrArg List.length (rn_split l)
  rw [List.length_append] at h7
  have h6 := pcs_len ((rn l).1.flatten)
  rw [(pcs_run l).1] at h6
  omega
/-- the state behind a feed -/
noncomputable def fedSt (ρ : St) (iy ix : Nat) (b : Bool) (found : List Int) (wt : List UInt8) (pl : Int) : St :=
  { loc := fun j => if j = iy then some (.list (found.map .int)) else ρ.loc j, own := ρ.own, stm := some (ix, b, wt, pl) }
theorem feed_do {iy ix : Nat} {φ : EM (List Dat)} {ρ : St} {found : List Int} {b : Bool} {wt o : List UInt8} {pl : Int} {last : Bool}
    (h1 : ρ.loc iy = some (.list (found.map .int))) (h2 : ρ.own = none) (h3 : ρ.stm = some (ix, b, wt, pl)) (h4 : φ ρ = some (.ok [.bytes o, .bool last])) (hne : (ix != iy) = true)
    (hl : (wt ++ o).length ≤ 200) (hf : found.length ≤ 200) :
    ∃ pl', SM.feedAdd iy ix φ feedP ρ = if (b && !(ru last (wt ++ o)).1.all whole) = true then some (.raise 45) else some (.next (fedSt ρ iy ix b (found ++ (ru last (wt ++ o)).1.map val) (ru last (wt ++ o)).2 pl')) := by
  refine ⟨if last then 0 else pl + ((ru last (wt ++ o)).1.flatten.length : Nat), ?_⟩
  have hn : (ru last (wt ++ o)).1.length ≤ 200 := by
    unfold ru
    split
    · exact Nat.le_trans (pcs_len _) hl
    · exact Nat.le_trans (rn_rest_len (wt ++ o)).2 hl
  unfold SM.feedAdd
  rw [h1, h3, h4]
  dsimp only [lstD, okO, feedAs, Option.bind]
  rw [if_pos rfl]
  unfold feedP
  rw [if_pos (by omega)]
  by_cases hc : (b && !(ru last (wt ++ o)).1.all whole) = true
  · rw [if_pos hc, if_pos hc]
  · rw [if_neg hc, if_neg hc]
    dsimp only
    rw [if_pos (by simp only [List.length_map]; omega), m_put_ap, if_pos (by unfold St.free; rw [h2]; exact hne)]
    unfold St.put fedSt
    rw [List.map_append]
theorem takeA {l : List UInt8} {a k : Nat} : l.take (a + k) = l.take a ++ (l.drop a).take k := List.take_add
theorem rn_step (l : List UInt8) (a k : Nat) : rn (l.take (a + k)) = ((rn (l.take a)).1 ++ (rn ((rn (l.take a)).2 ++ (l.drop a).take k)).1, (rn ((rn (l.take a)).2 ++ (l.drop a).take k)).2) := by
  rw [takeA, rn_app]
theorem pcs_rest (l : List UInt8) : pcs (rn l).2 = if (rn l).2 = [] then [] else [(rn l).2] := by
  rcases rn_rest l with h | h
  · rw [h]; rfl
  · have h0 : (rn l).2 ≠ [] := by intro e; rw [e] at h; cases h
    have h1 : cutN (rn l).2 = (rn l).2.length := by simp [open_] at h; exact h.2
    rw [if_neg h0, pcs_cons h0, h1, List.take_length, List.drop_length, pcs_nil]
theorem rest_bad (l : List UInt8) (h : (rn l).2 ≠ []) : whole (rn l).2 = false := by
  rcases rn_rest l with q | q
  · exact absurd q h
  · simp [open_] at q; exact q.1.2
structure FInv (b : Bool) (l : List UInt8) (size : Nat) (a : Nat) (ρ : St) : Prop where
  oct : ρ.loc 0 = some (.bytes l)
  siz : ρ.loc 1 = some (.int size)
  own : ρ.own = none
  fnd : ρ.loc 3 = some (.list (((rn (l.take a)).1.map val).map .int))
  stm : ∃ pl, ρ.stm = some (2, b, (rn (l.take a)).2, pl)
theorem fed_inv {b : Bool} {l : List UInt8} {size a : Nat} {ρ : St} {pl' : Int} (I : FInv b l size a ρ) :
    FInv b l size (a + size) (fedSt ρ 3 2 b ((rn (l.take a)).1.map val ++ (rn ((rn (l.take a)).2 ++ (l.drop a).take size)).1.map val) (rn ((rn (l.take a)).2 ++ (l.drop a).take size)).2 pl') where
  oct := I.oct
  siz := I.siz
  own := I.own
  fnd := by rw [rn_step, List.map_append]; rfl
  stm := ⟨pl', by rw [rn_step]; rfl⟩
theorem FInv.other {b : Bool} {l : List UInt8} {size a i : Nat} {d : Dat} {ρ : St} (I : FInv b l size a ρ) (h : 4 ≤ i) : FInv b l size a (ρ.put i d) where
  oct := by show (if 0 = i then _ else ρ.loc 0) = _; rw [if_neg (by omega)]; exact I.oct
  siz := by show (if 1 = i then _ else ρ.loc 1) = _; rw [if_neg (by omega)]; exact I.siz
  own := I.own
  fnd := by show (if 3 = i then _ else ρ.loc 3) = _; rw [if_neg (by omega)]; exact I.fnd
  stm := I.stm
theorem strict_loop {β : SM} (l : List UInt8) (size : Nat)
    (hβ : ∀ ρ (a : Nat), FInv true l size a ρ → ρ.loc 4 = some (.int a) → (rn (l.take a)).1.all whole = true → if (rn (l.take (a + size))).1.all whole = true then ∃ ρ', β ρ = some (.next ρ') ∧ FInv true l size (a + size) ρ' else β ρ = some (.raise 45)) :
    ∀ (n a : Nat) (ρ : St), FInv true l size a ρ → (rn (l.take a)).1.all whole = true →
      if (rn (l.take (a + n * size))).1.all whole = true then ∃ ρ', forM (SM.put 4) β (rangeL a size n) ρ = some (.next ρ') ∧ FInv true l size (a + n * size) ρ' else forM (SM.put 4) β (rangeL a size n) ρ = some (.raise 45)
  | 0, a, ρ, I, g => by
    rw [Nat.zero_mul, Nat.add_zero, if_pos g]
    exact ⟨ρ, rfl, I⟩
  | n + 1, a, ρ, I, g => by
    have hf : ρ.free 4 = true := by obtain ⟨pl, e⟩ := I.stm; unfold St.free; rw [I.own, e]; rfl
    have hb := hβ (ρ.put 4 (.int a)) a (I.other (Nat.le_refl _)) rfl g
    have e : forM (SM.put 4) β (rangeL a size (n + 1)) ρ = after (forM (SM.put 4) β (rangeL (a + size) size n)) (β (ρ.put 4 (.int a))) := forM_put hf
    have ea : a + (n + 1) * size = a + size + n * size := by rw [Nat.succ_mul]; omega
    have ek : ((a : Int) + (size : Int)) = ((a + size : Nat) : Int) := by omega
    rw [e, ea]
    by_cases g' : (rn (l.take (a + size))).1.all whole = true
    · rw [if_pos g'] at hb
      obtain ⟨ρ', e1, I'⟩ := hb
      rw [e1, after_next, ek]
      exact strict_loop l size hβ n (a + size) ρ' I' g'
    · rw [if_neg g'] at hb
      rw [hb, after_raise, if_neg]
      intro q
      rw [rn_step, List.all_append] at q
      exact g' (Bool.and_eq_true_iff.mp q).1
theorem range_size (N size : Nat) (h : 1 ≤ size) : N ≤ (Builtin.Range.rangeSize 0 N size).toNat * size := by
  rw [rangeSize_pos (by omega) (by omega)]
  have := Int.lt_mul_ediv_self_add (x := (N : Int) + size - 1) (k := size) (by omega)
  have h0 : 0 ≤ ((N : Int) + size - 1) / size := Int.ediv_nonneg (by omega) (by omega)
  generalize hq : ((N : Int) + size - 1) / size = q at *
  have e : ((q.toNat * size : Nat) : Int) = size * q := by
    rw [Int.natCast_mul, Int.toNat_of_nonneg h0, Int.mul_comm]
  omega
theorem rangeD_3 (N size : Nat) (h : 1 ≤ size) (h2 : size ≤ 3) (hN : N ≤ 100) : rangeD [.int 0, .int N, .int size] = some (rangeL ((0 : Nat) : Int) size (Builtin.Range.rangeSize 0 N size).toNat) := by
  rw [rangeD, show intsD [.int 0, .int (N : Int), .int (size : Int)] = some [0, (N : Int), (size : Int)] from rfl, Option.bind_some]
  unfold rangeI
  dsimp only
  rw [if_pos (by omega)]
  rfl
theorem strict_end {β κ : SM} {l : List UInt8} {size n : Nat} {ρ : St} (hn : l.length ≤ n * size)
    (hL : if (rn (l.take (0 + n * size))).1.all whole = true then ∃ ρ', forM (SM.put 4) β (rangeL ((0 : Nat) : Int) size n) ρ = some (.next ρ') ∧ FInv true l size (0 + n * size) ρ' else forM (SM.put 4) β (rangeL ((0 : Nat) : Int) size n) ρ = some (.raise 45))
    (hκ : ∀ ρ' a, FInv true l size a ρ' → l.length ≤ a → ∃ pl, κ ρ' = if (true && !(ru true ((rn (l.take a)).2 ++ [])).1.all whole) = true then some (.raise 45) else some (.next (fedSt ρ' 3 2 true ((rn (l.take a)).1.map val ++ (ru true ((rn (l.take a)).2 ++ [])).1.map val) (ru true ((rn (l.take a)).2 ++ [])).2 pl))) :
    if allW l = true then ∃ ρ', SM.seq (forM (SM.put 4) β (rangeL ((0 : Nat) : Int) size n)) κ ρ = some (.next ρ') ∧ ρ'.loc 3 = some (.list ((read l).map .int)) else SM.seq (forM (SM.put 4) β (rangeL ((0 : Nat) : Int) size n)) κ ρ = some (.raise 45) := by
  rw [Nat.zero_add] at hL
  have ht : l.take (n * size) = l := List.take_of_length_le hn
  rw [ht] at hL
  have hw := allW_run l
  by_cases g : (rn l).1.all whole = true
  · rw [if_pos g] at hL
    obtain ⟨ρ', e1, I⟩ := hL
    obtain ⟨pl, e2⟩ := hκ ρ' _ I hn
    rw [ht] at e2
    have er : ru true ((rn l).2 ++ []) = (pcs (rn l).2, []) := by rw [List.append_nil]; rfl
    rw [er, pcs_rest] at e2
    by_cases hr : (rn l).2 = []
    · rw [if_pos hr, if_neg (by simp)] at e2
      rw [if_pos (by rw [hw, g, hr]; rfl), seq_next e1]
      refine ⟨_, e2, ?_⟩
      have := (read_run l).2
      rw [if_pos hr] at this
      rw [this]
      simp [fedSt]
    · rw [if_neg hr, if_pos (by simp [rest_bad l hr])] at e2
      rw [if_neg (by rw [hw, g]; simp [hr]), seq_next e1, e2]
  · rw [if_neg g] at hL
    rw [if_neg (fun q => g (Bool.and_eq_true_iff.mp (hw ▸ q)).1), seq_raise hL]
theorem strict_fin {β κ : SM} {l : List UInt8} {size n : Nat} {ρ : St} {P : St → Prop} {R : Prop} (hn : l.length ≤ n * size)
    (hL : if (rn (l.take (0 + n * size))).1.all whole = true then ∃ ρ', forM (SM.put 4) β (rangeL ((0 : Nat) : Int) size n) ρ = some (.next ρ') ∧ FInv true l size (0 + n * size) ρ' else forM (SM.put 4) β (rangeL ((0 : Nat) : Int) size n) ρ = some (.raise 45))
    (hκ : ∀ ρ' a, FInv true l size a ρ' → l.length ≤ a → ∃ pl, κ ρ' = if (true && !(ru true ((rn (l.take a)).2 ++ [])).1.all whole) = true then some (.raise 45) else some (.next (fedSt ρ' 3 2 true ((rn (l.take a)).1.map val ++ (ru true ((rn (l.take a)).2 ++ [])).1.map val) (ru true ((rn (l.take a)).2 ++ [])).2 pl)))
    (hP : allW l = true → ∀ ρ', ρ'.loc 3 = some (.list ((read l).map .int)) → P ρ') (hR : allW l = false → R) :
    (∃ ρ', SM.seq (forM (SM.put 4) β (rangeL ((0 : Nat) : Int) size n)) κ ρ = some (.next ρ') ∧ P ρ') ∨ (SM.seq (forM (SM.put 4) β (rangeL ((0 : Nat) : Int) size n)) κ ρ = some (.raise 45) ∧ R) := by
  have h := strict_end hn hL hκ
  by_cases g : allW l = true
  · rw [if_pos g] at h
    obtain ⟨ρ', e1, e2⟩ := h
    exact .inl ⟨ρ', e1, hP g ρ' e2⟩
  · rw [if_neg g] at h
    exact .inr ⟨h, hR (by simpa using g)⟩
theorem f315 (l : List UInt8) (hl : l.length ≤ 80) (size : Nat) (h1 : 1 ≤ size) (h3 : size ≤ 3) : (s315 feedP hFeed).F [.bytes l, .int size] = some (.ok (told (if allW l then some (read l) else none))) := by
  have hl' : l.length ≤ 4096 := by omega
  unfold s315
  dsimp only [d_pure]
  refine (if_pos rfl).trans (r_seq (ρ' := { loc := ((startOf [0, 1] [.bytes l, .int size]).put 3 (.list [])).cut 2, own := none, stm := some (2, true, [], 0) }) rfl ?_)
  refine seq_try ?_
  have hn := lenF_bytes l hl'
  have hrg := rangeD_3 _ _ h1 h3 (show l.length ≤ 100 by omega)
  rw [seq_ofE (u := _)]
  rotate_left
  · exists hn, hrg
  refine strict_fin (range_size l.length size h1) (strict_loop l size ?_ _ 0 _ ⟨rfl, rfl, rfl, rfl, ⟨0, rfl⟩⟩ rfl) ?_ ?_ ?_
  · intro ρ a I h4 g
    obtain ⟨pl, hs⟩ := I.stm
    have hsl : sliceD (.bytes l) (some (a : Int)) (some ((a : Int) + size)) = some (.bytes ((l.drop a).take size)) := by
      have := slice_mid l a (a + size) hl'
      rw [Nat.add_sub_cancel_left] at this
      exact this
    have hr := rn_rest_len (l.take a)
    rw [List.length_take] at hr
    have o1 := I.oct
    have o2 := I.siz
    obtain ⟨pl', e⟩ := feed_do (φ := ((rd 0).bind fun x => ((rd 4).bind fun x => EM.lift (Option.map some (intOf x))).bind fun lo => (((rd 4).bind fun x => (rd 1).bind fun y => EM.lift (binD Operator.Add x y)).bind fun x => EM.lift (Option.map some (intOf x))).bind fun hi => EM.lift (sliceD x lo hi)).bind fun x => EM.pure [x, Dat.bool false]) (last := false) (o := (l.drop a).take size) I.fnd I.own hs (by exists hsl) rfl (by rw [List.length_append, List.length_take]; omega) (by rw [List.length_map]; omega)
    have e1 : (rn (l.take (a + size))).1.all whole = (rn ((rn (l.take a)).2 ++ (l.drop a).take size)).1.all whole := by
      rw [rn_step, List.all_append, g, Bool.true_and]
    have er : ru false ((rn (l.take a)).2 ++ (l.drop a).take size) = rn ((rn (l.take a)).2 ++ (l.drop a).take size) := rfl
    rw [er] at e
    rw [e1, e]
    by_cases q : (rn ((rn (l.take a)).2 ++ (l.drop a).take size)).1.all whole = true
    · rw [if_pos q, if_neg (by rw [q]; decide)]
      exact ⟨_, rfl, fed_inv I⟩
    · rw [if_neg q, if_pos (by simp only [Bool.true_and, Bool.not_eq_true']; exact Bool.eq_false_iff.mpr q)]
  · intro ρ' a I ha
    obtain ⟨pl, hs⟩ := I.stm
    have hr := rn_rest_len (l.take a)
    rw [List.length_take] at hr
    exact feed_do (last := true) (o := []) I.fnd I.own hs rfl rfl (by rw [List.append_nil]; omega) (by rw [List.length_map]; omega)
  · intro g ρ' e
    rw [if_pos g]
    exact r_of (by exists e) rfl
  · intro g
    rw [if_neg (show ¬ allW l = true by rw [g]; decide)]
    exact ⟨_, rfl, rfl⟩
/-! the plain law of texts -/
noncomputable def allL : List Int := [0, 65, 127, 128, 2047, 2048, 55295, 55296, 56319, 56320, 57343, 57344, 65535, 65536, 128512, 1114111, 66559, 1113088, 55357, 56832]
noncomputable def enc (c : Int) : List UInt8 := bts (octI c)
noncomputable def encs (t : List Int) : List UInt8 := t.flatMap enc
theorem bts_flat (f : Int → List Int) (t : List Int) : bts (t.flatMap f) = t.flatMap fun c => bts (f c) := List.map_flatMap
theorem bts_encs (t : List Int) : bts (t.flatMap octI) = encs t := bts_flat octI t
theorem wide_not {b : UInt8} {r : List UInt8} (h : b.toNat ≠ 237) : wide (b :: r) = (cutN (b :: r), if whole (b :: r) then some (codeB (b :: r) : Int) else none) := by
  unfold wide
  split
  · rename_i e
    cases e
    rw [if_neg (fun q => h q.1)]
  · rfl
theorem codeB_app {l x : List UInt8} (hl : l ≠ []) (h : open_ l = false) : codeB (l ++ x) = codeB l := by
  rw [← codeB_take (l ++ x), (cut_app hl h).1, List.take_append_of_le_length (cutN_le l), codeB_take]
theorem wide_app {l x : List UInt8} (hl : l ≠ []) (h : open_ l = false) (h3 : 3 ≤ l.length ∨ l.head? ≠ some 237) : wide (l ++ x) = wide l := by
  have hc := codeB_app (x := x) hl h
  obtain ⟨c1, c2, _⟩ := cut_app (x := x) hl h
  match l, hl with
  | b :: r, _ =>
  by_cases hb : b.toNat = 237
  · match r, h3 with
    | [], h3 =>
      exfalso
      rcases h3 with h3 | h3
      · simp at h3
      · exact h3 (by rw [List.head?_cons]; exact congrArg some (UInt8.toNat_inj.mp hb))
    | [c], h3 =>
      exfalso
      rcases h3 with h3 | h3
      · simp at h3
      · exact h3 (by rw [List.head?_cons]; exact congrArg some (UInt8.toNat_inj.mp hb))
    | c :: d :: r, _ =>
      simp only [List.cons_append] at c1 c2 hc ⊢
      unfold wide
      dsimp only
      rw [c1, c2, hc]
  · rw [wide_not hb, List.cons_append, wide_not hb, ← List.cons_append, c1, c2, hc]
noncomputable def tabOk (c : Int) : Bool := !(enc c).isEmpty && !open_ (enc c) && (decide (3 ≤ (enc c).length) || (enc c).head? != some 237) && decide (wide (enc c) = ((enc c).length, some c)) &&
  (decide (55296 ≤ c ∧ c ≤ 57343) || (whole (enc c) && decide (cutN (enc c) = (enc c).length) && decide ((codeB (enc c) : Int) = c))) &&
  decide ((enc c).length = 4 ↔ 65536 ≤ c) && decide ((55296 ≤ c ∧ c ≤ 57343) → (enc c).length = 3) && decide (0 ≤ c ∧ c ≤ 1114111) && ((enc c).take 2 != [192, 128]) && (decide (c = 0) || (enc c).head? != some 0) && decide ((enc c).length ≤ 4)
theorem tab : allL.all tabOk = true := by decide +kernel
structure Row (c : Int) : Prop where
  ne : enc c ≠ []
  op : open_ (enc c) = false
  hd : 3 ≤ (enc c).length ∨ (enc c).head? ≠ some 237
  wd : wide (enc c) = ((enc c).length, some c)
  wh : ¬ (55296 ≤ c ∧ c ≤ 57343) → whole (enc c) = true ∧ cutN (enc c) = (enc c).length ∧ (codeB (enc c) : Int) = c
  l4 : (enc c).length = 4 ↔ 65536 ≤ c
  l3 : (55296 ≤ c ∧ c ≤ 57343) → (enc c).length = 3
  ok : okC c
  nc : (enc c).take 2 ≠ [192, 128]
  nz : c ≠ 0 → (enc c).head? ≠ some 0
  le : (enc c).length ≤ 4
theorem row {c : Int} (h : c ∈ allL) : Row c := by
  have := List.all_eq_true.mp tab c h
  simp only [tabOk, Bool.and_eq_true, Bool.or_eq_true, decide_eq_true_eq, Bool.not_eq_true', bne_iff_ne, ne_eq, List.isEmpty_eq_false_iff] at this
  obtain ⟨⟨⟨⟨⟨⟨⟨⟨⟨⟨a, b⟩, c'⟩, d⟩, e⟩, f⟩, g⟩, i⟩, j⟩, k⟩, l⟩ := this
  exact ⟨a, b, c', d, fun q => by rcases e with e | e; exact absurd e q; exact ⟨e.1.1, e.1.2, e.2⟩, f, g, i, j, fun q => by rcases k with k | k; exact absurd k q; exact k, l⟩
theorem Row.wide {c : Int} (R : Row c) (x : List UInt8) : wide (enc c ++ x) = ((enc c).length, some c) := (wide_app R.ne R.op R.hd).trans R.wd
theorem Row.low {c : Int} (R : Row c) (x : List UInt8) : lowB (enc c ++ x) = if 56320 ≤ c ∧ c ≤ 57343 then some c else none := by
  unfold lowB
  rw [R.wide]
theorem Row.drop3 {c : Int} (R : Row c) (h : 55296 ≤ c ∧ c ≤ 56319) (x : List UInt8) : (enc c ++ x).drop 3 = x := by
  have := R.l3 ⟨h.1, by omega⟩
  rw [← this, List.drop_left]
theorem Row.stepS {c : Int} (R : Row c) (h : ¬ (55296 ≤ c ∧ c ≤ 57343)) (x : List UInt8) : stepS (enc c ++ x) = some ((enc c).length, c) := by
  obtain ⟨w, k, v⟩ := R.wh h
  obtain ⟨c1, c2, _⟩ := cut_app (x := x) R.ne R.op
  unfold Mine.stepS
  rw [c2, w, if_pos rfl, c1, k, codeB_app R.ne R.op, v]
theorem Row.stepC {c : Int} (R : Row c) (h : ¬ (55296 ≤ c ∧ c ≤ 57343)) (x : List UInt8) : stepC (enc c ++ x) = if 65536 ≤ c then none else some ((enc c).length, c) := by
  unfold Mine.stepC
  rw [R.wide]
  dsimp only
  by_cases q : 65536 ≤ c
  · rw [if_pos (R.l4.mpr q), if_pos q]
  · rw [if_neg (fun e => q (R.l4.mp e)), if_neg (by omega), if_neg (by omega), if_neg q]
theorem Row.stepCC {c l : Int} (R : Row c) (L : Row l) (h : 55296 ≤ c ∧ c ≤ 56319) (hl : 56320 ≤ l ∧ l ≤ 57343) (x : List UInt8) : Mine.stepC (enc c ++ (enc l ++ x)) = some (6, joinI c l) := by
  unfold Mine.stepC
  rw [R.wide]
  dsimp only
  rw [if_neg (fun e => by have := R.l4.mp e; omega), if_pos h, R.drop3 h, L.low, if_pos hl]
theorem Row.stepWn {c : Int} (R : Row c) (h : ¬ (55296 ≤ c ∧ c ≤ 56319)) (x : List UInt8) : Mine.stepW (enc c ++ x) = some ((enc c).length, c) := by
  unfold Mine.stepW
  rw [R.wide]
  dsimp only
  rw [if_neg h]
theorem Row.stepWh {c : Int} (R : Row c) (h : 55296 ≤ c ∧ c ≤ 56319) (x : List UInt8) : Mine.stepW (enc c ++ x) = if (lowB x).isSome then none else some ((enc c).length, c) := by
  unfold Mine.stepW
  rw [R.wide]
  dsimp only
  rw [if_pos h, R.drop3 h]
  all_goals (cases lowB x <;> rfl)
theorem head_app {e x : List UInt8} (h : e ≠ []) : (e ++ x).head? = e.head? := by
  cases e with
  | nil => exact absurd rfl h
  | cons _ _ => rfl
theorem take2_app {e x : List UInt8} (h : e ≠ []) (h0 : e.head? ≠ some 192 ∨ e.take 2 ≠ [192, 128] ∧ 2 ≤ e.length) : (e ++ x).take 2 ≠ [192, 128] := by
  match e, h with
  | [b], _ =>
    rcases h0 with h0 | ⟨_, h0⟩
    · intro q
      simp at q
      exact h0 (by rw [q.1]; rfl)
    · simp at h0
  | b :: c :: r, _ =>
    rcases h0 with h0 | ⟨h0, _⟩
    · intro q
      simp at q
      exact h0 (by rw [q.1]; rfl)
    · simpa using h0
theorem no192 : allL.all (fun c => (enc c).head? != some 192) = true := by decide +kernel
theorem not192 {c : Int} (h : c ∈ allL) : (enc c).head? ≠ some 192 := by
  have := List.all_eq_true.mp no192 c h
  simpa using this
theorem Row.stepM0 (x : List UInt8) : Mine.stepM (enc 0 ++ x) = none := by
  unfold Mine.stepM
  rw [if_neg (take2_app (by decide) (.inl (by decide))), if_pos (by rw [head_app (by decide)]; decide)]
theorem Row.stepMz (x : List UInt8) : Mine.stepM ([192, 128] ++ x) = some (2, 0) := by
  unfold Mine.stepM
  rw [if_pos (by simp)]
theorem Row.stepMn {c : Int} (hc : c ∈ allL) (h0 : c ≠ 0) (h : ¬ (55296 ≤ c ∧ c ≤ 56319)) (x : List UInt8) : Mine.stepM (enc c ++ x) = if 65536 ≤ c then none else some ((enc c).length, c) := by
  have R := row hc
  unfold Mine.stepM
  rw [if_neg (take2_app R.ne (.inl (not192 hc))), if_neg (by rw [head_app R.ne]; exact R.nz h0), R.wide]
  dsimp only
  by_cases q : 65536 ≤ c
  · rw [if_pos (R.l4.mpr q), if_pos q]
  · rw [if_neg (fun e => q (R.l4.mp e)), if_neg h, if_neg q]
theorem Row.stepMh {c : Int} (hc : c ∈ allL) (h : 55296 ≤ c ∧ c ≤ 56319) (x : List UInt8) : Mine.stepM (enc c ++ x) = match lowB x with
    | none => some ((enc c).length, c)
    | some lo => some (6, joinI c lo) := by
  have R := row hc
  unfold Mine.stepM
  rw [if_neg (take2_app R.ne (.inl (not192 hc))), if_neg (by rw [head_app R.ne]; exact R.nz (by omega)), R.wide]
  dsimp only
  rw [if_neg (fun e => by have := R.l4.mp e; omega), if_pos h, R.drop3 h]
  all_goals (cases lowB x <;> rfl)
/-! decoders over what was written -/
theorem dec_nil (step : List UInt8 → Option (Nat × Int)) (n : Nat) : dec step n [] = some [] := by cases n <;> rfl
theorem dec_step {step : List UInt8 → Option (Nat × Int)} {n : Nat} {l : List UInt8} (h : l ≠ []) : dec step (n + 1) l = match step l with
    | none => none
    | some (k, c) => (dec step n (l.drop k)).map (c :: ·) := by
  cases l with
  | nil => exact absurd rfl h
  | cons b r => rfl
theorem dec_flat {step : List UInt8 → Option (Nat × Int)} {e : Int → List UInt8} {good : Int → Bool} : ∀ (t : List Int) (n : Nat), (t.flatMap e).length ≤ n → (∀ c ∈ t, e c ≠ [] ∧ ∀ x, step (e c ++ x) = if good c then some ((e c).length, c) else none) → dec step n (t.flatMap e) = if t.all good then some t else none
  | [], n, _, _ => dec_nil _ _
  | c :: t, n, hn, h => by
    obtain ⟨h1, h2⟩ := h c (.head _)
    rw [List.flatMap_cons] at hn ⊢
    have hne : e c ++ t.flatMap e ≠ [] := by simp [h1]
    have hp : 0 < (e c).length := List.length_pos_iff.mpr h1
    rw [List.length_append] at hn
    match n, hn with
    | 0, hn => omega
    | n + 1, hn =>
      rw [dec_step hne, h2, List.all_cons]
      cases hg : good c with
      | false => simp
      | true =>
        simp only [if_true, Bool.true_and, List.drop_left]
        rw [dec_flat t n (by omega) fun c hc => h c (.tail _ hc)]
        split <;> rfl
/-- as dec_flat, where pairs are joined -/
theorem dec_join {step : List UInt8 → Option (Nat × Int)} {e : Int → List UInt8} {V : List Int → Prop} (hV : ∀ c t, V (c :: t) → V t) (he : ∀ c t, V (c :: t) → e c ≠ [])
    (h : ∀ c t, V (c :: t) → step ((c :: t).flatMap e) = some ((((c :: t).take (jn (c :: t)).1).flatMap e).length, (jn (c :: t)).2)) :
    ∀ (m n : Nat) (t : List Int), t.length ≤ m → (t.flatMap e).length ≤ n → V t → dec step n (t.flatMap e) = some (joinP t)
  | _, n, [], _, _, _ => dec_nil _ _
  | 0, _, _ :: _, h, _, _ => by simp at h
  | m + 1, n, c :: t, hm, hn, v => by
    have h1 := he c t v
    have hne : (c :: t).flatMap e ≠ [] := by rw [List.flatMap_cons]; simp [h1]
    have hp : 0 < ((c :: t).flatMap e).length := List.length_pos_iff.mpr hne
    match n, hn with
    | 0, hn => omega
    | n + 1, hn =>
      rw [dec_step hne, h c t v, joinP_jn]
      dsimp only
      have hj : 1 ≤ (jn (c :: t)).1 := by
        cases t with
        | nil => exact Nat.le_refl _
        | cons l r => rw [jn_two]; split <;> omega
      have hs : (c :: t).flatMap e = ((c :: t).take (jn (c :: t)).1).flatMap e ++ ((c :: t).drop (jn (c :: t)).1).flatMap e := by
        rw [← List.flatMap_append, List.take_append_drop]
      have hd : ((c :: t).flatMap e).drop (((c :: t).take (jn (c :: t)).1).flatMap e).length = ((c :: t).drop (jn (c :: t)).1).flatMap e := drop_pre hs
      have hlen := congrArg List.length hs
      rw [List.length_append] at hlen
      have hp2 : 0 < (((c :: t).take (jn (c :: t)).1).flatMap e).length := by
        match hq : (jn (c :: t)).1, hj with
        | k + 1, _ =>
          rw [List.take_succ_cons, List.flatMap_cons, List.length_append]
          have := List.length_pos_iff.mpr h1
          omega
      have hVd : ∀ k (t : List Int), V t → V (t.drop k) := by
        intro k
        induction k with
        | zero => intro t v; exact v
        | succ k ih =>
          intro t v
          cases t with
          | nil => exact v
          | cons a t => exact ih t (hV a t v)
      rw [hd, dec_join hV he h m n _ (by rw [List.length_drop]; simp only [List.length_cons] at hm ⊢; omega) (by omega) (hVd _ _ v)]
      rfl
noncomputable def codesL : List Int := [0, 65, 127, 128, 2047, 2048, 55295, 55296, 56319, 56320, 57343, 57344, 65535, 65536, 128512, 1114111]
noncomputable def surrB (c : Int) : Bool := decide (55296 ≤ c ∧ c ≤ 57343)
noncomputable def bmp (c : Int) : Bool := decide (c ≤ 65535)
theorem codes_all {c : Int} (h : c ∈ codesL) : c ∈ allL := List.mem_of_mem_take (i := 16) h
theorem parts_tab : codesL.all (fun c => (parts c).all fun d => decide (d ∈ allL ∧ d < 65536)) = true := by decide +kernel
theorem parts_mem {c d : Int} (h : c ∈ codesL) (hd : d ∈ parts c) : d ∈ allL ∧ d < 65536 := by
  have := List.all_eq_true.mp (List.all_eq_true.mp parts_tab c h) d hd
  simpa using this
theorem join_tab : codesL.all (fun h => codesL.all fun l => decide ((55296 ≤ h ∧ h ≤ 56319) → (56320 ≤ l ∧ l ≤ 57343) → joinI h l ∈ allL)) = true := by decide +kernel
theorem join_mem {h l : Int} (h1 : h ∈ codesL) (h2 : l ∈ codesL) (q1 : 55296 ≤ h ∧ h ≤ 56319) (q2 : 56320 ≤ l ∧ l ≤ 57343) : joinI h l ∈ allL := by
  have := List.all_eq_true.mp (List.all_eq_true.mp join_tab h h1) l h2
  simp only [decide_eq_true_eq] at this
  exact this q1 q2
theorem parts_small {c : Int} (h : c ≤ 65535) : parts c = [c] := if_neg (by omega)
theorem parts_big {c : Int} (h : ¬ c ≤ 65535) : parts c = [55296 + (c - 65536) / 1024, 56320 + c % 1024] := if_pos (by omega)
theorem encs_one (c : Int) : encs [c] = enc c := by unfold encs; simp
theorem encs_two (c d : Int) : encs [c, d] = enc c ++ enc d := by unfold encs; simp
theorem encs_parts (t : List Int) : encs (t.flatMap parts) = t.flatMap fun c => encs (parts c) := by unfold encs; rw [List.flatMap_assoc]
section
variable {t : List Int} (hp : ∀ c ∈ t, c ∈ codesL ∧ ¬ (55296 ≤ c ∧ c ≤ 57343))
include hp
theorem dec_plain (n : Nat) (hn : (encs t).length ≤ n) : dec stepS n (encs t) = some t := by
  unfold encs at hn ⊢
  rw [dec_flat (good := fun _ => true) t n hn fun c hc => ⟨(row (codes_all (hp c hc).1)).ne, fun x => ?_⟩, if_pos (by simp)]
  rw [if_pos rfl]
  exact (row (codes_all (hp c hc).1)).stepS (hp c hc).2 x
theorem parted_step {c : Int} (hc : c ∈ t) (h : ¬ c ≤ 65535) : ∃ h l, (h ∈ allL ∧ l ∈ allL) ∧ (55296 ≤ h ∧ h ≤ 56319) ∧ (56320 ≤ l ∧ l ≤ 57343) ∧ joinI h l = c ∧ encs (parts c) = enc h ++ enc l ∧ (encs (parts c)).length = 6 := by
  have hm := fun d => parts_mem (d := d) (hp c hc).1
  have hok := (row (codes_all (hp c hc).1)).ok
  unfold okC at hok
  have hb := parts_big h
  rw [hb] at hm
  have m1 := hm _ (.head _)
  have m2 := hm _ (.tail _ (.head _))
  refine ⟨_, _, ⟨m1.1, m2.1⟩, by omega, by omega, by unfold joinI; omega, by rw [hb, encs_two], ?_⟩
  rw [hb, encs_two, List.length_append, (row m1.1).l3 (by omega), (row m2.1).l3 (by omega)]
theorem dec_cesu (n : Nat) (hn : (encs (t.flatMap parts)).length ≤ n) : dec stepC n (encs (t.flatMap parts)) = some t := by
  rw [encs_parts] at hn ⊢
  rw [dec_flat (good := fun _ => true) t n hn fun c hc => ?_, if_pos (by simp)]
  by_cases h : c ≤ 65535
  · rw [parts_small h, encs_one]
    have R := row (codes_all (hp c hc).1)
    refine ⟨R.ne, fun x => ?_⟩
    rw [R.stepC (hp c hc).2, if_neg (by omega), if_pos rfl]
  · obtain ⟨h', l, m, q1, q2, e, e1, e2⟩ := parted_step hp hc h
    refine ⟨fun q => (by rw [q] at e2; cases e2), fun x => ?_⟩
    rw [e2, e1, List.append_assoc, (row m.1).stepCC (row m.2) q1 q2, e, if_pos rfl]
theorem dec_cesu_far (n : Nat) (hn : (encs t).length ≤ n) : dec stepC n (encs t) = if t.all bmp then some t else none := by
  unfold encs at hn ⊢
  refine dec_flat t n hn fun c hc => ⟨(row (codes_all (hp c hc).1)).ne, fun x => ?_⟩
  rw [(row (codes_all (hp c hc).1)).stepC (hp c hc).2]
  unfold bmp
  by_cases h : c ≤ 65535
  · rw [if_neg (by omega), if_pos (decide_eq_true h)]
  · rw [if_pos (by omega), decide_eq_false h]; rfl
theorem dec_wtf_pair (n : Nat) (hn : (encs (t.flatMap parts)).length ≤ n) : dec stepW n (encs (t.flatMap parts)) = if t.all bmp then some t else none := by
  rw [encs_parts] at hn ⊢
  refine dec_flat t n hn fun c hc => ?_
  unfold bmp
  by_cases h : c ≤ 65535
  · rw [parts_small h, encs_one]
    have R := row (codes_all (hp c hc).1)
    refine ⟨R.ne, fun x => ?_⟩
    rw [R.stepWn (fun q => (hp c hc).2 ⟨q.1, by omega⟩), if_pos (decide_eq_true h)]
  · obtain ⟨h', l, m, q1, q2, e, e1, e2⟩ := parted_step hp hc h
    refine ⟨fun q => (by rw [q] at e2; cases e2), fun x => ?_⟩
    rw [e1, List.append_assoc, (row m.1).stepWh q1, (row m.2).low, if_pos q2, decide_eq_false h]; rfl
theorem dec_mod_bad (n : Nat) (hn : (encs t).length ≤ n) : dec stepM n (encs t) = if t.all (fun c => decide (c ≠ 0 ∧ c ≤ 65535)) then some t else none := by
  unfold encs at hn ⊢
  refine dec_flat t n hn fun c hc => ⟨(row (codes_all (hp c hc).1)).ne, fun x => ?_⟩
  by_cases h0 : c = 0
  · subst h0
    rw [Row.stepM0]; rfl
  · rw [Row.stepMn (codes_all (hp c hc).1) h0 (fun q => (hp c hc).2 ⟨q.1, by omega⟩)]
    by_cases h : c ≤ 65535
    · rw [if_neg (by omega), if_pos (decide_eq_true ⟨h0, h⟩)]
    · rw [if_pos (by omega), decide_eq_false (fun q => h q.2)]; rfl
end
theorem wide_same {t : List Int} (h : t.all bmp = true) : encs (t.flatMap parts) = encs t := by
  have : t.flatMap parts = t := by
    induction t with
    | nil => rfl
    | cons c t ih =>
      rw [List.all_cons, Bool.and_eq_true_iff] at h
      rw [List.flatMap_cons, ih h.2, parts_small (of_decide_eq_true h.1)]; rfl
  rw [this]
/-! pairs joined -/
noncomputable def NP : List Int → Prop
  | h :: l :: r => ¬ ((55296 ≤ h ∧ h ≤ 56319) ∧ 56320 ≤ l ∧ l ≤ 57343) ∧ NP (l :: r)
  | _ => True
theorem NP_tail {c : Int} {t : List Int} (h : NP (c :: t)) : NP t := by
  cases t with
  | nil => trivial
  | cons l r => exact h.2
theorem NP_cons {c : Int} {t : List Int} (h : NP t) (h' : ∀ l, t.head? = some l → ¬ ((55296 ≤ c ∧ c ≤ 56319) ∧ 56320 ≤ l ∧ l ≤ 57343)) : NP (c :: t) := by
  cases t with
  | nil => trivial
  | cons l r => exact ⟨h' l rfl, h⟩
theorem NP_jn {c : Int} {t : List Int} (h : NP (c :: t)) : jn (c :: t) = (1, c) := by
  cases t with
  | nil => rfl
  | cons l r => rw [jn_two, if_neg h.1]
theorem joinP_same : ∀ t : List Int, NP t → joinP t = t
  | [], _ => rfl
  | c :: t, h => by rw [joinP_jn, NP_jn h]; show c :: joinP t = _; rw [joinP_same t (NP_tail h)]
theorem NP_joinP : ∀ (n : Nat) (t : List Int), t.length ≤ n → NP (joinP t)
  | _, [], _ => trivial
  | 0, _ :: _, h => by simp at h
  | n + 1, c :: t, h => by
    rw [joinP_jn]
    have hj : 1 ≤ (jn (c :: t)).1 := by
      cases t with
      | nil => exact Nat.le_refl _
      | cons l r => rw [jn_two]; split <;> omega
    refine NP_cons (NP_joinP n _ (by rw [List.length_drop]; simp only [List.length_cons] at h ⊢; omega)) fun l hl => ?_
    cases t with
    | nil => cases hl
    | cons b r =>
      rw [jn_two] at hl ⊢
      by_cases q : (55296 ≤ c ∧ c ≤ 56319) ∧ 56320 ≤ b ∧ b ≤ 57343
      · rw [if_pos q]
        have := joinI_not q.1 q.2
        dsimp only
        omega
      · rw [if_neg q] at hl ⊢
        rw [List.drop_one, List.tail_cons, joinP_jn] at hl
        have e : (jn (b :: r)).2 = l := Option.some.inj hl
        dsimp only
        intro q'
        cases r with
        | nil =>
          have : b = l := e
          subst this
          exact q q'
        | cons d r =>
          rw [jn_two] at e
          split at e
          · rename_i q2
            have := joinI_not q2.1 q2.2
            dsimp only at e
            omega
          · have : b = l := e
            subst this
            exact q q'
theorem joinP_mem : ∀ (n : Nat) (t : List Int), t.length ≤ n → (∀ c ∈ t, c ∈ codesL) → ∀ c ∈ joinP t, c ∈ allL
  | _, [], _, _ => fun c hc => by cases hc
  | 0, _ :: _, h, _ => by simp at h
  | n + 1, c :: t, h, v => by
    rw [joinP_jn]
    intro d hd
    rcases List.mem_cons.mp hd with e | hd
    · subst e
      cases t with
      | nil => exact codes_all (v c (.head _))
      | cons l r =>
        rw [jn_two]
        split
        · rename_i q
          exact join_mem (v c (.head _)) (v l (.tail _ (.head _))) q.1 q.2
        · exact codes_all (v c (.head _))
    · have hj : 1 ≤ (jn (c :: t)).1 := by
        cases t with
        | nil => exact Nat.le_refl _
        | cons l r => rw [jn_two]; split <;> omega
      exact joinP_mem n _ (by rw [List.length_drop]; simp only [List.length_cons] at h ⊢; omega) (fun x hx => v x (List.mem_of_mem_drop hx)) d hd
theorem dec_wtf (t : List Int) (hv : ∀ c ∈ t, c ∈ allL) (hN : NP t) (n : Nat) (hn : (encs t).length ≤ n) : dec stepW n (encs t) = some t := by
  rw [← joinP_same t hN]
  rw [joinP_same t hN]
  unfold encs at hn ⊢
  have := dec_join (step := stepW) (e := enc) (V := fun t => (∀ c ∈ t, c ∈ allL) ∧ NP t) (fun c t h => ⟨fun x hx => h.1 x (.tail _ hx), NP_tail h.2⟩) (fun c t h => (row (h.1 c (.head _))).ne) (fun c t h => ?_) t.length n t (Nat.le_refl _) hn ⟨hv, hN⟩
  · rw [this, joinP_same t hN]
  · have R := row (h.1 c (.head _))
    rw [NP_jn h.2, List.flatMap_cons]
    have e : (((c :: t).take 1).flatMap enc).length = (enc c).length := by simp
    show _ = some ((((c :: t).take 1).flatMap enc).length, c)
    rw [e]
    by_cases q : 55296 ≤ c ∧ c ≤ 56319
    · rw [R.stepWh q]
      have : lowB (t.flatMap enc) = none := by
        cases t with
        | nil => rfl
        | cons l r =>
          rw [List.flatMap_cons, (row (h.1 l (.tail _ (.head _)))).low, if_neg]
          exact fun q' => h.2.1 ⟨q, q'⟩
      rw [this]; rfl
    · exact R.stepWn q _
noncomputable def encM (c : Int) : List UInt8 := if c = 0 then [192, 128] else enc c
theorem lowM (x : List UInt8) : lowB ([192, 128] ++ x) = none := by
  unfold lowB
  show (match (wide ((192 : UInt8) :: (128 :: x))).2 with
    | none => none
    | some c => if 56320 ≤ c ∧ c ≤ 57343 then some c else none) = none
  rw [wide_not (by decide)]
  have : whole ((192 : UInt8) :: (128 :: x)) = false := by
    rw [whole_cons]
    have := @cutN_pos 192 (128 :: x)
    have e : manyP (192 : UInt8).toNat = 0 := by decide
    rw [e]
    simp
    omega
  rw [this]; rfl
theorem dec_mod (t : List Int) (hv : ∀ c ∈ t, c ∈ allL ∧ c < 65536) (n : Nat) (hn : (t.flatMap encM).length ≤ n) : dec stepM n (t.flatMap encM) = some (joinP t) := by
  refine dec_join (step := stepM) (e := encM) (V := fun t => ∀ c ∈ t, c ∈ allL ∧ c < 65536) (fun c t h => fun x hx => h x (.tail _ hx)) (fun c t h => ?_) (fun c t h => ?_) t.length n t (Nat.le_refl _) hn hv
  · unfold encM
    split
    · simp
    · exact (row (h c (.head _)).1).ne
  · obtain ⟨hc, hb⟩ := h c (.head _)
    have R := row hc
    have one : (((c :: t).take 1).flatMap encM).length = (encM c).length := by simp
    rw [List.flatMap_cons]
    by_cases h0 : c = 0
    · subst h0
      have ej : jn (0 :: t) = (1, 0) := by
        cases t with
        | nil => rfl
        | cons l r => rw [jn_two, if_neg (by omega)]
      rw [ej]
      dsimp only
      rw [one]
      exact Row.stepMz _
    · have em : encM c = enc c := if_neg h0
      rw [em] at one ⊢
      by_cases q : 55296 ≤ c ∧ c ≤ 56319
      · rw [Row.stepMh hc q]
        cases t with
        | nil =>
          show some _ = some ((([c].take 1).flatMap encM).length, c)
          rw [one]
        | cons l r =>
          have ml := (h l (.tail _ (.head _))).1
          rw [List.flatMap_cons, jn_two]
          by_cases hl0 : l = 0
          · subst hl0
            have : encM 0 = [192, 128] := rfl
            rw [this, lowM, if_neg (by omega)]
            dsimp only
            rw [one]
          · have el : encM l = enc l := if_neg hl0
            rw [el, (row ml).low]
            by_cases ql : 56320 ≤ l ∧ l ≤ 57343
            · rw [if_pos ql, if_pos ⟨q, ql⟩]
              dsimp only
              have : (((c :: l :: r).take 2).flatMap encM).length = 6 := by
                simp only [List.take_succ_cons, List.take_zero, List.flatMap_cons, List.flatMap_nil, List.append_nil, List.length_append, em, el, R.l3 ⟨q.1, by omega⟩, (row ml).l3 ⟨by omega, ql.2⟩]
              rw [this]
            · rw [if_neg ql, if_neg (fun z => ql z.2)]
              dsimp only
              rw [one]
      · rw [Row.stepMn hc h0 q, if_neg (by omega)]
        have ej : jn (c :: t) = (1, c) := by
          cases t with
          | nil => rfl
          | cons l r => rw [jn_two, if_neg (fun z => q z.1)]
        rw [ej]
        dsimp only
        rw [one]
theorem mod_same (t : List Int) (hv : ∀ c ∈ t, c ∈ codesL) : bts (t.flatMap modI) = (t.flatMap parts).flatMap encM := by
  rw [bts_flat, List.flatMap_assoc]
  have key : ∀ c, okC c → bts (modI c) = (parts c).flatMap encM := by
    intro c hc
    unfold modI
    split
    · rename_i e; subst e; rfl
    · rename_i e
      rw [bts_flat]
      unfold okC at hc
      by_cases h : c ≤ 65535
      · rw [parts_small h]
        simp [encM, e, enc]
      · rw [parts_big h]
        have e1 : ¬ (55296 + (c - 65536) / 1024 = 0) := by omega
        have e2 : ¬ (56320 + c % 1024 = 0) := by omega
        simp only [List.flatMap_cons, List.flatMap_nil, encM, if_neg e1, if_neg e2, enc]
  induction t with
  | nil => rfl
  | cons c t ih =>
    rw [List.flatMap_cons, List.flatMap_cons, ih fun x hx => hv x (.tail _ hx), key c (row (codes_all (hv c (.head _)))).ok]
theorem lone_tab : codesL.all (fun c => !surrB c || (dec stepC (encs [65, c]).length (encs [65, c])).isNone) = true := by decide +kernel
theorem dec_lone {c : Int} (h : c ∈ codesL) (hs : surrB c = true) : dec stepC (encs [65, c]).length (encs [65, c]) = none := by
  have := List.all_eq_true.mp lone_tab c h
  rw [hs] at this
  simpa using this
theorem encs_len (t : List Int) (hv : ∀ c ∈ t, c ∈ allL) : (encs t).length ≤ 4 * t.length := by
  induction t with
  | nil => exact Nat.le_refl _
  | cons c t ih =>
    have := ih fun x hx => hv x (.tail _ hx)
    have := (row (hv c (.head _))).le
    unfold encs at *
    rw [List.flatMap_cons, List.length_append, List.length_cons]
    omega
structure SInv (l : List UInt8) (size a : Nat) (ρ : St) : Prop where
  f : FInv false l size a ρ
  at_ : ρ.loc 4 = some (.int a)
theorem stream_loop {τ : EM Bool} {β : SM} (l : List UInt8) (size : Nat) (h1 : 1 ≤ size)
    (hτ : ∀ ρ a, SInv l size a ρ → τ ρ = some (.ok (decide (a < l.length))))
    (hβ : ∀ ρ a, SInv l size a ρ → a < l.length → ∃ ρ', β ρ = some (.next ρ') ∧ SInv l size (min (a + size) l.length) ρ') :
    ∀ (n a : Nat) (ρ : St), SInv l size a ρ → a ≤ l.length → l.length - a < n → ∃ ρ', whileM τ β n ρ = some (.next ρ') ∧ SInv l size l.length ρ'
  | 0, _, _, _, _, h => by omega
  | n + 1, a, ρ, I, ha, hn => by
    rw [whileM_succ]
    unfold SM.ofE
    rw [hτ ρ a I]
    dsimp only
    by_cases h : a < l.length
    · rw [decide_eq_true h, if_pos rfl]
      obtain ⟨ρ', e, I'⟩ := hβ ρ a I h
      rw [e, after_next]
      exact stream_loop l size h1 hτ hβ n _ ρ' I' (Nat.min_le_right _ _) (by omega)
    · rw [decide_eq_false h, if_neg (by decide)]
      have : a = l.length := by omega
      subst this
      exact ⟨ρ, rfl, I⟩
theorem min_at (a size n : Nat) : minF [.int ((a : Int) + (size : Int)), .int (n : Int)] = some (.int ((min (a + size) n : Nat) : Int)) := by
  unfold minF
  dsimp only
  by_cases h : (n : Int) < (a : Int) + (size : Int)
  · rw [if_pos h, Nat.min_eq_right (by omega)]
  · rw [if_neg h, Nat.min_eq_left (by omega)]; rfl
theorem take_min (l : List UInt8) (k : Nat) : l.take (min k l.length) = l.take k := by
  by_cases h : k ≤ l.length
  · rw [Nat.min_eq_left h]
  · rw [Nat.min_eq_right (by omega), List.take_length, List.take_of_length_le (by omega)]
theorem FInv.same {b : Bool} {l : List UInt8} {size a a' : Nat} {ρ : St} (I : FInv b l size a ρ) (h : l.take a = l.take a') : FInv b l size a' ρ where
  oct := I.oct
  siz := I.siz
  own := I.own
  fnd := by rw [← h]; exact I.fnd
  stm := by rw [← h]; exact I.stm
theorem turned (l : List UInt8) (a : Nat) (h : a ≤ l.length) : waits (pcs (l.take a)) ≤ a ∧ read (l.take (a - waits (pcs (l.take a)))) = (rn (l.take a)).1.map val := by
  rw [waits_run]
  have hs := rn_split (l.take a)
  have hr := rn_rest_len (l.take a)
  have hlen : (l.take a).length = a := by rw [List.length_take]; omega
  have hl : (rn (l.take a)).1.flatten.length + (rn (l.take a)).2.length = a := by
    rw [← List.length_append, ← hs, hlen]
  refine ⟨by omega, ?_⟩
  have : l.take (a - (rn (l.take a)).2.length) = (rn (l.take a)).1.flatten := by
    have e : l.take (a - (rn (l.take a)).2.length) = (l.take a).take (rn (l.take a)).1.flatten.length := by
      rw [List.take_take, Nat.min_eq_left (by omega)]
      congr 1
      omega
    rw [e]
    exact take_pre hs
  rw [this]
  exact (read_run (l.take a)).1
theorem retFeed_do {τ χ : EM Dat} {ix : Nat} {φ : EM (List Dat)} {F : FeedF} {ρ : St} {b last : Bool} {wt wt' o : List UInt8} {pl pl' : Int} {es : List Dat} {d : Dat}
    (hτ : τ ρ = some (.ok (.bool true))) (hs : ρ.stm = some (ix, b, wt, pl)) (hφ : φ ρ = some (.ok [.bytes o, .bool last])) (hF : F b wt pl o last = some (.ok (es, wt', pl')))
    (hχ : χ { ρ with stm := some (ix, b, wt', pl') } = some (.ok d)) (he : eqD (.list es) d = some true) : SM.retFeed τ ix φ F χ ρ = some (.ret (.bool true)) := by
  unfold SM.retFeed
  rw [hτ]
  dsimp only [okO, boolOf, Option.bind]
  rw [if_pos rfl, hs, hφ]
  dsimp only [okO, feedAs, Option.bind]
  rw [if_pos rfl, hF]
  dsimp only [okO, Option.bind]
  rw [hχ]
  dsimp only [okO, Option.bind]
  rw [he]
  rfl
theorem stream_end {τ : EM Bool} {β κ : SM} {l : List UInt8} {size : Nat} {ρ : St} (hL : ∃ ρ', whileM τ β 4096 ρ = some (.next ρ') ∧ SInv l size l.length ρ')
    (hκ : ∀ ρ', SInv l size l.length ρ' → resOf (κ ρ') = some (.ok (.bool true))) : resOf (SM.seq (whileM τ β 4096) κ ρ) = some (.ok (.bool true)) := seq_then hL hκ
theorem f322 (l : List UInt8) (hl : l.length ≤ 80) (size : Nat) (h1 : 1 ≤ size) (h3 : size ≤ 3) : (s322 feedP hFeed).F [.bytes l, .int size] = some (.ok (.bool true)) := by
  have hl' : l.length ≤ 4096 := by omega
  unfold s322
  dsimp only [d_pure]
  refine (if_pos rfl).trans (r_seq (ρ' := { loc := (((startOf [0, 1] [.bytes l, .int size]).put 4 (.int 0)).put 3 (.list [])).cut 2, own := none, stm := some (2, false, [], 0) }) rfl ?_)
  have hn := lenF_bytes l hl'
  refine stream_end (stream_loop l size h1 ?_ ?_ 4096 0 _ ⟨⟨rfl, rfl, rfl, rfl, ⟨0, rfl⟩⟩, rfl⟩ (by omega) (by omega)) ?_
  · intro ρ a I
    exact tau_len hl' I.f.oct I.at_
  · intro ρ a I ha
    obtain ⟨pl, hs⟩ := I.f.stm
    have hsl : sliceD (.bytes l) (some (a : Int)) (some ((a : Int) + size)) = some (.bytes ((l.drop a).take size)) := by
      have := slice_mid l a (a + size) hl'
      rw [Nat.add_sub_cancel_left] at this
      exact this
    have hr := rn_rest_len (l.take a)
    rw [List.length_take] at hr
    have o1 := I.f.oct
    have o2 := I.f.siz
    have o3 := I.at_
    have key : ∃ ρ₁, SM.feedAdd 3 2 (((rd 0).bind fun x => ((rd 4).bind fun x => EM.lift (Option.map some (intOf x))).bind fun lo => (((rd 4).bind fun x => (rd 1).bind fun y => EM.lift (binD Operator.Add x y)).bind fun x => EM.lift (Option.map some (intOf x))).bind fun hi => EM.lift (sliceD x lo hi)).bind fun x => EM.pure [x, Dat.bool false]) feedP ρ = some (.next ρ₁) ∧ FInv false l size (a + size) ρ₁ ∧ ρ₁.loc 4 = some (.int a) := by
      obtain ⟨pl', e⟩ := feed_do (φ := ((rd 0).bind fun x => ((rd 4).bind fun x => EM.lift (Option.map some (intOf x))).bind fun lo => (((rd 4).bind fun x => (rd 1).bind fun y => EM.lift (binD Operator.Add x y)).bind fun x => EM.lift (Option.map some (intOf x))).bind fun hi => EM.lift (sliceD x lo hi)).bind fun x => EM.pure [x, Dat.bool false]) (last := false) (o := (l.drop a).take size) I.f.fnd I.f.own hs (by exists hsl) rfl (by rw [List.length_append, List.length_take]; omega) (by rw [List.length_map]; omega)
      rw [if_neg (by simp)] at e
      exact ⟨_, e, fed_inv I.f, I.at_⟩
    obtain ⟨ρ₁, e, I', h4⟩ := key
    rw [seq_next e]
    have hmin := min_at a size l.length
    have ht := turned l (min (a + size) l.length) (Nat.min_le_right _ _)
    have I'' := I'.same (take_min l (a + size)).symm
    generalize hm : min (a + size) l.length = m at *
    obtain ⟨pl₁, hs₁⟩ := I''.stm
    have hmle : m ≤ l.length := by omega
    have hsub : ((m : Int) - ((waits (pcs (l.take m)) : Nat) : Int)) = ((m - waits (pcs (l.take m)) : Nat) : Int) := by omega
    have h301 := f301 (l.take m) (by rw [List.length_take]; omega)
    have h294 := f294 (l.take (m - waits (pcs (l.take m)))) (by rw [List.length_take]; omega)
    rw [ht.2] at h294
    have hsub : binD .Sub (.int (m : Int)) (.int (waits (pcs (l.take m)) : Nat)) = some (.int ((m - waits (pcs (l.take m)) : Nat) : Int)) := by rw [b_sub, hsub]
    have q1 := I''.oct
    have q2 := I''.siz
    have q3 := I''.own
    have q4 := I''.fnd
    have t1 := slice_to l m hl'
    have t2 := slice_to l (m - waits (pcs (l.take m))) hl'
    refine w_to (by exists hn, hmin, t1, h301, hsub, t2, h294, (nel_self _)) ?_
    exact ⟨⟨q1, q2, q3, q4, ⟨pl₁, hs₁⟩⟩, rfl⟩
  · intro ρ' I
    obtain ⟨pl, hs⟩ := I.f.stm
    have hr := rn_rest_len (l.take l.length)
    rw [List.take_length] at hr
    have h294 := f294 l (by omega)
    obtain ⟨pl', e⟩ := feed_do (φ := EM.pure [.bytes [], .bool true]) (last := true) (o := []) I.f.fnd I.f.own hs rfl rfl (by rw [List.append_nil, List.take_length]; omega) (by rw [List.length_map, List.take_length]; omega)
    rw [if_neg (by simp), List.append_nil, List.take_length] at e
    have er : ru true (rn l).2 = (pcs (rn l).2, []) := rfl
    have ef : (rn l).1.map val ++ (ru true (rn l).2).1.map val = read l := by
      rw [er, pcs_rest, (read_run l).2]
      by_cases hq : (rn l).2 = []
      · rw [if_pos hq, if_pos hq]; rfl
      · rw [if_neg hq, if_neg hq]
        have : val (rn l).2 = 65533 := by unfold val; rw [rest_bad l hq]; rfl
        simp only [List.map_cons, List.map_nil, this]
    rw [ef, er] at e
    rw [seq_next e, retFeed_do (b := false) (wt := []) (pl := pl') (es := [.int 65]) (wt' := []) (pl' := 0) (o := [65]) (last := true) (d := .list [.int 65]) ?_ rfl rfl ?_ rfl ?_]
    · rfl
    · have o1 := I.f.oct
      exists h294, (eql_self _)
    · have e1 : (ru true (([] : List UInt8) ++ [65])).1.map val = [65] := by decide +kernel
      have e2 : (ru true (([] : List UInt8) ++ [65])).2 = [] := rfl
      unfold feedP
      rw [if_pos (by decide), e1, e2, if_neg (by simp), if_pos rfl]
      rfl
    · exact (eqD_ints [65] [65]).trans (by decide)
theorem clip_eq {es : List Dat} (h : es.length ≤ 4096) : clipL (some es) = some es := if_pos h
/-- a comprehension, item by item -/
theorem comp_of {α : Type} {i : Nat} {base : Nat → Option Dat} {τ : EM Bool} {φ : EM Dat} (f g : α → Dat) (p : α → Bool) : ∀ (xs : List α), (∀ x ∈ xs, τ (onePt i (f x) base) = some (.ok (p x))) → (∀ x ∈ xs, p x = true → φ (onePt i (f x) base) = some (.ok (g x))) →
    compM i base τ φ (xs.map f) = some ((xs.filter p).map g)
  | [], _, _ => rfl
  | x :: xs, h1, h2 => by
    have ih := comp_of f g p xs (fun y hy => h1 y (.tail _ hy)) (fun y hy => h2 y (.tail _ hy))
    rw [List.map_cons]
    unfold compM
    rw [h1 x (.head _)]
    cases hp : p x with
    | false =>
      dsimp only
      rw [ih, List.filter_cons, hp]
      rfl
    | true =>
      dsimp only
      rw [h2 x (.head _) hp, ih, List.filter_cons, hp]
      rfl
theorem comp_cuts {i : Nat} {base : Nat → Option Dat} {τ : EM Bool} {φ : EM Dat} : ∀ (ps : List (List UInt8)) (a : Nat), (∀ a p, τ (onePt i (.tuple [.int (a : Nat), .int (p : Nat), .bool false]) base) = some (.ok true) ∧ τ (onePt i (.tuple [.int (a : Nat), .int (p : Nat), .bool true]) base) = some (.ok false)) → (∀ d, φ (onePt i d base) = some (.ok (.int 1))) →
    compM i base τ φ (cutsD a ps) = some ((List.replicate (ps.filter (!whole ·)).length (1 : Int)).map .int)
  | [], _, _, _ => rfl
  | p :: ps, a, h1, h2 => by
    have ih := comp_cuts ps (a + p.length) h1 h2
    rw [cutsD_cons]
    unfold compM
    cases hp : whole p with
    | true =>
      rw [(h1 a p.length).2]
      dsimp only
      rw [ih, List.filter_cons, hp]
      rfl
    | false =>
      rw [(h1 a p.length).1]
      dsimp only
      rw [h2, ih, List.filter_cons, hp]
      rfl
theorem oct_loop {β : SM} (l : List UInt8)
    (hβ : ∀ ρ (a : Nat), ρ.own = none → ρ.stm = none → ρ.loc 0 = some (.bytes l) → ρ.loc 5 = some (.int a) → a < l.length → ∃ ρ', β ρ = some (.next ρ') ∧ ρ'.own = none ∧ ρ'.stm = none ∧ ρ'.loc 0 = some (.bytes l)) :
    ∀ (n a : Nat) (ρ : St), ρ.own = none → ρ.stm = none → ρ.loc 0 = some (.bytes l) → a + n ≤ l.length → ∃ ρ', forM (SM.put 5) β (rangeL a 1 n) ρ = some (.next ρ') ∧ ρ'.own = none ∧ ρ'.stm = none ∧ ρ'.loc 0 = some (.bytes l)
  | 0, _, ρ, h1, h2, h3, _ => ⟨ρ, rfl, h1, h2, h3⟩
  | n + 1, a, ρ, h1, h2, h3, h4 => by
    have hf : ρ.free 5 = true := by unfold St.free; rw [h1, h2]; rfl
    have e : forM (SM.put 5) β (rangeL a 1 (n + 1)) ρ = after (forM (SM.put 5) β (rangeL (a + 1) 1 n)) (β (ρ.put 5 (.int a))) := forM_put hf
    obtain ⟨ρ', e1, g1, g2, g3⟩ := hβ (ρ.put 5 (.int a)) a h1 h2 h3 rfl (by omega)
    rw [e, e1, after_next, show ((a : Int) + 1) = ((a + 1 : Nat) : Int) by omega]
    exact oct_loop l hβ n (a + 1) ρ' g1 g2 g3 (by omega)
theorem oct_end {β κ : SM} {l : List UInt8} {ρ : St} {P : St → Prop} (hL : ∃ ρ', forM (SM.put 5) β (rangeL ((0 : Nat) : Int) 1 l.length) ρ = some (.next ρ') ∧ P ρ') (hκ : ∀ ρ', P ρ' → resOf (κ ρ') = some (.ok (.bool true))) :
    resOf (SM.seq (forM (SM.put 5) β (rangeL ((0 : Nat) : Int) 1 l.length)) κ ρ) = some (.ok (.bool true)) := seq_then hL hκ
theorem rangeD_len (n : Nat) (h : n ≤ 4096) : rangeD [.int n] = some (rangeL ((0 : Nat) : Int) 1 n) := by
  rw [rangeD, show intsD [.int (n : Int)] = some [(n : Int)] from rfl, Option.bind_some]
  unfold rangeI
  dsimp only
  rw [if_pos (by omega)]
  rfl
theorem pcs_last {l : List UInt8} (h : l ≠ []) : ∃ ps p, pcs l = ps ++ [p] := by
  have : pcs l ≠ [] := by rw [pcs_cons h]; simp
  exact ⟨_, _, (List.dropLast_concat_getLast this).symm⟩
theorem rep_nil (ps : List (List UInt8)) : decide (List.replicate (ps.filter (!whole ·)).length (1 : Int) = []) = ps.all whole := by
  induction ps with
  | nil => rfl
  | cons p ps ih =>
    rw [List.filter_cons, List.all_cons]
    cases whole p with
    | true => simpa using ih
    | false => simp [List.replicate_succ]
theorem told_ne : ∀ o : Option (List Int), cmpD .NotEq (told o) (told o) = some false
  | none => by rw [c_ne]; exact congrArg (Option.map (!·)) eqD_none
  | some cs => nel_self cs
theorem f327 (l : List UInt8) (hl : l.length ≤ 80) (size : Nat) (h1 : 1 ≤ size) (h3 : size ≤ 3) : (s327 feedP hFeed).F [.bytes l, .int size] = some (.ok (.bool true)) := by
  have hl' : l.length ≤ 4096 := by omega
  have h294 := f294 l (by omega)
  have h280 := f280 l (by omega)
  have h136 := f136 l (by omega)
  have h308 := f308 (f := 129) (F := s129.F) rfl (f129 l (by omega))
  have h315 := f315 l hl size h1 h3
  have h322 := f322 l hl size h1 h3
  have hcomp : clipL (compM 1 (fun _ => none) ((((rd 1).bind fun x => EM.lift ((intOf (.int 2)).bind fun i => itemD x i)).bind fun x => EM.lift (toB x)).bind fun b => EM.pure !b) (EM.pure (.int 1)) (cutsD 0 (pcs l))) = some ((List.replicate ((pcs l).filter (!whole ·)).length (1 : Int)).map .int) := by
    rw [comp_cuts (pcs l) 0 (fun a p => ⟨rfl, rfl⟩) (fun d => rfl)]
    refine clip_eq ?_
    rw [List.length_map, List.length_replicate]
    have := List.length_filter_le (!whole ·) (pcs l)
    have := pcs_len l
    omega
  have hnil : cmpD .Eq (.list ((List.replicate ((pcs l).filter (!whole ·)).length (1 : Int)).map .int)) (.list []) = some (allW l) := (eqD_ints_nil _).trans (congrArg some (rep_nil _))
  have hn := lenF_bytes l hl'
  have hrg := rangeD_len l.length hl'
  unfold s327
  dsimp only [d_pure]
  refine (if_pos rfl).trans (r_seq (by exists h294) (r_seq (by exists h280) ?_))
  refine seq_then (P := fun ρ => ρ.own = none ∧ ρ.stm = none ∧ ρ.loc 0 = some (.bytes l) ∧ ρ.loc 1 = some (.int size) ∧ ρ.loc 2 = some (.list ((read l).map .int)) ∧ ρ.loc 4 = some (told (if allW l then some (read l) else none))) ?_ ?_
  · cases hw : allW l with
    | true =>
      rw [hw] at hnil
      refine w_to (by exists hcomp, hnil) ?_
      exact ⟨rfl, rfl, rfl, rfl, rfl, rfl⟩
    | false =>
      rw [hw] at hnil
      refine w_to (by exists hcomp, hnil) ?_
      exact ⟨rfl, rfl, rfl, rfl, rfl, rfl⟩
  clear hcomp hnil
  rintro ρ ⟨g1, g2, g3, g4, g5, g6⟩
  refine r_seq (by exists h136, (nel_self _), h308, (told_ne _)) (r_seq (by exists h315, (told_ne _), h322) (r_ofE (by exists hn, hrg) ?_))
  clear h294 h280 h136 h308 h315 h322 hrg
  refine oct_end (P := fun ρ => ρ.own = none ∧ ρ.stm = none ∧ ρ.loc 0 = some (.bytes l)) (oct_loop l ?_ l.length 0 ρ g1 g2 g3 (by omega)) ?_
  · clear g1 g2 g3 g4 g5 g6 ρ
    intro ρ a g1 g2 g3 g4 ha
    obtain ⟨b, r, hd⟩ := drop_cons_of ha
    have h143 := f143 l hl' a
    have h273 := f273 l a b r hd hl'
    have h150 := f150 l (by omega) (a + 1) (by omega) (by omega)
    obtain ⟨ps, p, hp⟩ := pcs_last (l := l.take (a + 1)) (by intro q; have := congrArg List.length q; rw [List.length_take] at this; have h0 : min (a + 1) l.length = 0 := this; omega)
    rw [back_ok l (a + 1) (by omega) (by omega) ps p hp] at h150
    have h280' := f280 (l.take (a + 1)) (by rw [List.length_take]; omega)
    have hpl := pcs_len (l.take (a + 1))
    rw [hp, List.length_append, List.length_take] at hpl
    rw [hp, cutsD_app, Nat.zero_add] at h280'
    have hlast : itemD (.list (cutsD 0 ps ++ cutsD ps.flatten.length [p])) (-1) = some (.tuple [.int (ps.flatten.length : Nat), .int (p.length : Nat), .bool (whole p)]) := itemD_last _ _ (by rw [cutsD_len]; omega)
    have hs : binD .Add (.int (a : Int)) (.int 1) = some (.int ((a + 1 : Nat) : Int)) := (b_add _ _)
    have hs2 : binD .Add (.int (a : Int)) (.int (cutN (b :: r) : Nat)) = some (.int ((a + cutN (b :: r) : Nat) : Int)) := (b_add _ _)
    have hst := slice_to l (a + 1) hl'
    rw [hd] at h143
    refine w_to (by exists h143, h273, (itemD_t20 _ _), hs2, (nei_self _), hs, h150, hst, h280', hlast, (itemD_t30 _ _ _)) ?_
    exact ⟨g1, g2, g3⟩
  · clear g1 g2 g3 g4 g5 g6 ρ
    rintro ρ' ⟨g1, g2, g3⟩
    have h143 := f143 l hl' l.length
    rw [List.drop_length] at h143
    have : cutN [] = 0 := rfl
    rw [this, Nat.add_zero] at h143
    have h150 := f150z l
    exact r_of (by exists h150, (eqi_self _), hn, h143) rfl
noncomputable def plainOf (t : List Int) : List Int := t.filter fun c => !surrB c
noncomputable def loneOf (t : List Int) : List Int := t.filter surrB
theorem b_mul2 (d : Dat) : binD .Mult (.list [d]) (.int 2) = some (.list [d, d]) := (rfl)
theorem eq_bools (a : Bool) : eqD (.list [.bool a, .bool a]) (.list [.bool a, .bool a]) = some true := by cases a <;> rfl
theorem eq_nil : eqD (.list []) (.list []) = some true := (rfl)
theorem surr_scalar {t : List Int} (hv : ∀ c ∈ t, c ∈ codesL) : t.all scalar = decide (loneOf t = []) := by
  unfold loneOf
  induction t with
  | nil => rfl
  | cons c t ih =>
    have hc := (row (codes_all (hv c (.head _)))).ok
    have e : scalar c = !surrB c := by
      unfold scalar surrB
      unfold okC at hc
      simp only [decide_not, hc, true_and, and_self]
    rw [List.all_cons, ih fun x hx => hv x (.tail _ hx), e, List.filter_cons]
    cases surrB c <;> simp
theorem comp_two {i : Nat} {base : Nat → Option Dat} {φ : EM Dat} (a b y z : Dat) (h1 : φ (onePt i a base) = some (.ok y)) (h2 : φ (onePt i b base) = some (.ok z)) : compM i base (EM.pure true) φ [a, b] = some [y, z] := by
  unfold compM
  rw [h1]
  show Option.map _ (compM i base (EM.pure true) φ [b]) = _
  unfold compM
  rw [h2]
  rfl
theorem v_cap {α : Type} {ρ : St} {j : Nat} {d : Dat} {φ : Dat → EM α} {r : Option (Except Addr α)} (h : ρ.loc j = some d) (g : φ d ρ = r) : capE j φ ρ = r := by
  unfold capE; rw [h]; exact g
theorem f367 (t : List Int) (hv : ∀ c ∈ t, c ∈ codesL) (hl : t.length ≤ 8) : s367.F [.list (t.map .int), .list ((plainOf t).map .int)] = some (.ok (.bool true)) := by
  have hok : ∀ c ∈ t, okC c := fun c hc => (row (codes_all (hv c hc))).ok
  have hp : ∀ c ∈ plainOf t, c ∈ codesL ∧ ¬ (55296 ≤ c ∧ c ≤ 57343) := fun c hc => by
    obtain ⟨h1, h2⟩ := List.mem_filter.mp hc
    exact ⟨hv c h1, by simp only [surrB, Bool.not_eq_true', decide_eq_false_iff_not] at h2; exact h2⟩
  have hpl : (plainOf t).length ≤ 8 := Nat.le_trans (List.length_filter_le _ _) hl
  have hll : (loneOf t).length ≤ 8 := Nat.le_trans (List.length_filter_le _ _) hl
  have hpok : ∀ c ∈ plainOf t, okC c := fun c hc => (row (codes_all (hp c hc).1)).ok
  have c1 : clipL (compM 1 (fun _ => none) (chain2 (EM.pure (.int 55296)) (rd 1) (EM.pure (.int 57343)) .LtE .LtE) (rd 1) (List.map Dat.int t)) = some ((loneOf t).map .int) := by
    rw [comp_of .int .int surrB t (fun c _ => v_chle rfl rfl rfl) (fun c _ _ => rfl)]
    exact clip_eq (by rw [List.length_map]; unfold loneOf at hll; omega)
  have h108 := f362 (f := 108) (F := s108.F) (d := .list (t.map .int)) rfl (f108 t hok (by omega))
  have h215 := f362 (f := 215) (F := s215.F) (d := .list (t.map .int)) rfl (f215 t hok (by omega))
  have hn : ∀ x : List Int, (if t.all scalar = true then some x else none).isNone = !decide (loneOf t = []) := fun x => by
    rw [surr_scalar hv]
    cases decide (loneOf t = []) <;> rfl
  rw [hn] at h108 h215
  have c2 : clipL (compM 1 (fun jj => if jj = 3 then some (.list (t.map .int)) else none) (EM.pure true) (((rd 1).bind fun x => ((rd 3).bind fun x => EM.pure [x]).bind fun xs => EM.pure (x :: xs)).bind fun ds => liftR (s362.F ds)) [Dat.obj 108, Dat.obj 215]) = some [.bool (!decide (loneOf t = [])), .bool (!decide (loneOf t = []))] := by
    rw [comp_two (.obj 108) (.obj 215) (.bool (!decide (loneOf t = []))) (.bool (!decide (loneOf t = []))) (v_call2 rfl rfl (v_liftR h108)) (v_call2 rfl rfl (v_liftR h215))]
    exact clip_eq (Nat.le_of_ble_eq_true rfl)
  have c3 : clipL (compM 1 (fun _ => none) ((((((((((rd 1).bind fun x => EM.pure [x]).bind fun xs => EM.pure (Dat.int 65 :: xs)).bind fun ds => EM.lift (if ds.length ≤ 64 then some (Dat.list ds) else none)).bind fun x => EM.pure [x]).bind fun ds => liftR (s341.F ds)).bind fun x => EM.pure [x]).bind fun xs => EM.pure (Dat.obj 222 :: xs)).bind fun ds => liftR (s308.F ds)).bind fun x => EM.lift (cmpD CmpOp.IsNot x Dat.none)) (rd 1) ((loneOf t).map .int)) = some [] := by
    rw [comp_of .int .int (fun _ => false) (loneOf t) (fun c hc => ?_) (fun c _ q => by cases q)]
    · rw [List.filter_eq_nil_iff.mpr (fun c _ => by decide)]
      exact clip_eq (by decide)
    · obtain ⟨m1, m2⟩ := List.mem_filter.mp hc
      have m := hv c m1
      have h341 := f341 [65, c] (fun x hx => by
        rcases List.mem_cons.mp hx with e | hx
        · subst e; unfold okC; omega
        · rcases List.mem_cons.mp hx with e | hx
          · subst e; exact hok _ m1
          · cases hx) (by simp)
      rw [bts_encs] at h341
      have hlen := encs_len [65, c] (fun x hx => by
        rcases List.mem_cons.mp hx with e | hx
        · subst e; decide
        · rcases List.mem_cons.mp hx with e | hx
          · subst e; exact codes_all m
          · cases hx)
      have hd := f222 (encs [65, c]) (by simp at hlen; omega)
      rw [dec_lone m m2] at hd
      have h308 := f308 (f := 222) (F := s222.F) rfl hd
      have h341' : s341.F [.list [.int 65, .int c]] = some (.ok (.bytes (encs [65, c]))) := h341
      have hin : cmpD .IsNot (told none) .none = some false := (c_isnot _)
      exists h341', h308, hin
  have c4 : clipL (compM 1 (fun _ => none) (((rd 1).bind fun x => EM.lift (cmpD CmpOp.Eq x (Dat.int 0))).bind fun b => if b = true then EM.pure true else ((rd 1).bind fun x => EM.lift (cmpD CmpOp.Gt x (Dat.int 65535))).bind fun b => if b = true then EM.pure true else EM.pure false) (rd 1) ((plainOf t).map .int)) = some (((plainOf t).filter fun c => decide (c = 0) || decide (65535 < c)).map .int) := by
    rw [comp_of .int .int (fun c => decide (c = 0) || decide (65535 < c)) (plainOf t) (fun c _ => ?_) (fun c _ _ => rfl)]
    · exact clip_eq (by rw [List.length_map]; have := List.length_filter_le (fun c => decide (c = 0) || decide (65535 < c)) (plainOf t); omega)
    · by_cases h : c = 0
      · rw [decide_eq_true h, Bool.true_or]
        exists h
      · rw [decide_eq_false h, Bool.false_or]
        by_cases h' : 65535 < c
        · rw [decide_eq_true h']
          exists h, h'
        · rw [decide_eq_false h']
          exists h, h'
  have h341 := f341 (plainOf t) hpok (by omega)
  rw [bts_encs] at h341
  have hlen := encs_len (plainOf t) fun c hc => codes_all (hp c hc).1
  have hd := f236 (encs (plainOf t)) (by omega)
  rw [dec_mod_bad hp _ (Nat.le_refl _)] at hd
  have hnl : cmpD .NotEq (.list ((loneOf t).map .int)) (.list []) = some (!decide (loneOf t = [])) := by rw [c_ne, eqD_ints_nil]; rfl
  have hbb : ∀ a : Bool, cmpD .NotEq (.list [.bool a, .bool a]) (.list [.bool a, .bool a]) = some false := fun a => by rw [c_ne, eq_bools]; rfl
  have hee : cmpD .NotEq (.list []) (.list []) = some false := by rw [c_ne, eq_nil]; rfl
  have hfl : cmpD .Eq (.list (((plainOf t).filter fun c => decide (c = 0) || decide (65535 < c)).map .int)) (.list []) = some (decide ((plainOf t).filter (fun c => decide (c = 0) || decide (65535 < c)) = [])) := eqD_ints_nil _
  unfold s367
  dsimp only [d_pure]
  refine (if_pos rfl).trans (r_seq (by exists c1) (r_seq (by exists c2, hnl, (b_mul2 _), (hbb _)) (r_seq (by exists c3, hee) ?_)))
  by_cases hq : (plainOf t).filter (fun c => decide (c = 0) || decide (65535 < c)) = []
  · exact r_of (by exists c4, hfl, hq) rfl
  · rw [if_neg (fun q => hq (List.filter_eq_nil_iff.mpr fun c hc => by
      have := List.all_eq_true.mp q c hc
      simp only [decide_eq_true_eq] at this
      simp only [Bool.or_eq_true, decide_eq_true_eq]
      omega))] at hd
    have h308 := f308 (f := 236) (F := s236.F) (d := .bytes (encs (plainOf t))) (o := none) rfl hd
    exact r_of (by exists c4, hfl, hq, h341, h308) rfl
theorem eq_nones : eqD (.list [.none, .none]) (.list [.none, .none]) = some true := (rfl)
theorem flat_len {t : List Int} (hv : ∀ c ∈ t, okC c) : (t.flatMap parts).length ≤ 2 * t.length := by
  induction t with
  | nil => exact Nat.le_refl _
  | cons c t ih =>
    have := ih fun x hx => hv x (.tail _ hx)
    have := (parts_ok (hv c (.head _))).2
    rw [List.flatMap_cons, List.length_append, List.length_cons]
    omega
theorem bytesL_of {α : Type} (f : α → List UInt8) : ∀ xs : List α, bytesL (xs.map fun x => .bytes (f x)) = some (xs.map f)
  | [] => rfl
  | x :: xs => by
    show (bytesL (xs.map fun x => .bytes (f x))).map (f x :: ·) = _
    rw [bytesL_of f xs]
    rfl
theorem join_of {α : Type} (f : α → List UInt8) (xs : List α) (h1 : xs.length ≤ 64) (h2 : (xs.flatMap f).length ≤ 4096) : joinD (.list (xs.map fun x => .bytes (f x))) = some (.bytes (xs.flatMap f)) := by
  unfold joinD
  dsimp only
  rw [bytesL_of, Option.bind_some]
  have e : BJ.cat (xs.map f) = xs.flatMap f := by unfold BJ.cat; rw [List.flatMap_def]
  rw [e, if_pos ⟨by rw [List.length_map]; exact h1, h2⟩]
theorem f372 (t : List Int) (hv : ∀ c ∈ t, c ∈ codesL) (hl : t.length ≤ 8) : s372.F [.list (t.map .int)] = some (.ok (.bool true)) := by
  have hok : ∀ c ∈ t, okC c := fun c hc => (row (codes_all (hv c hc))).ok
  have hp : ∀ c ∈ plainOf t, c ∈ codesL ∧ ¬ (55296 ≤ c ∧ c ≤ 57343) := fun c hc => by
    obtain ⟨h1, h2⟩ := List.mem_filter.mp hc
    exact ⟨hv c h1, by simp only [surrB, Bool.not_eq_true', decide_eq_false_iff_not] at h2; exact h2⟩
  have hpl : (plainOf t).length ≤ 8 := Nat.le_trans (List.length_filter_le _ _) hl
  have hpok : ∀ c ∈ plainOf t, okC c := fun c hc => (row (codes_all (hp c hc).1)).ok
  have c1 : clipL (compM 1 (fun _ => none) ((chain2 (EM.pure (.int 55296)) (rd 1) (EM.pure (.int 57343)) .LtE .LtE).bind fun b => EM.pure !b) (rd 1) (List.map Dat.int t)) = some ((plainOf t).map .int) := by
    rw [comp_of .int .int (fun c => !surrB c) t (fun c _ => v_not (v_chle rfl rfl rfl)) (fun c _ _ => rfl)]
    exact clip_eq (by rw [List.length_map]; unfold plainOf at hpl; omega)
  have hpa : ∀ c ∈ plainOf t, c ∈ allL := fun c hc => codes_all (hp c hc).1
  have hpp : ∀ c ∈ (plainOf t).flatMap parts, c ∈ allL ∧ c < 65536 := fun c hc => by
    obtain ⟨d, hd, hc⟩ := List.mem_flatMap.mp hc
    exact parts_mem (hp d hd).1 hc
  have htp : ∀ c ∈ t.flatMap parts, c ∈ allL ∧ c < 65536 := fun c hc => by
    obtain ⟨d, hd, hc⟩ := List.mem_flatMap.mp hc
    exact parts_mem (hv d hd) hc
  have hppl := flat_len hpok
  have htpl := flat_len hok
  -- plain
  have e348 := f348 (plainOf t) hpok (by omega)
  have e341w := f341 ((plainOf t).flatMap parts) (fun c hc => (row (hpp c hc).1).ok) (by omega)
  rw [bts_encs] at e341w
  have lw := encs_len ((plainOf t).flatMap parts) fun c hc => (hpp c hc).1
  have lp := encs_len (plainOf t) hpa
  have e108 := f108 (plainOf t) hpok (by omega)
  have hsc : (plainOf t).all scalar = true := by
    rw [surr_scalar fun c hc => (hp c hc).1]
    refine decide_eq_true (List.filter_eq_nil_iff.mpr fun c hc => ?_)
    have := (List.mem_filter.mp hc).2
    simpa using this
  rw [if_pos hsc] at e108
  have e108 : s108.F [.list ((plainOf t).map .int)] = some (.ok (.bytes (encs (plainOf t)))) := by rw [e108, ← bts_encs]; rfl
  have e341p := f341 (plainOf t) hpok (by omega)
  rw [bts_encs] at e341p
  have e129 := f129 (encs (plainOf t)) (by omega)
  rw [← dec_S _ _ (Nat.le_refl _), dec_plain hp _ (Nat.le_refl _)] at e129
  have e129 : s129.F [.bytes (encs (plainOf t))] = some (.ok (.list ((plainOf t).map .int))) := e129
  have e215 := f215 (plainOf t) hpok (by omega)
  rw [if_pos hsc] at e215
  have e215 : s215.F [.list ((plainOf t).map .int)] = some (.ok (.bytes (encs ((plainOf t).flatMap parts)))) := by rw [e215, ← bts_encs, List.flatMap_assoc]; rfl
  have e222 := f222 (encs ((plainOf t).flatMap parts)) (by omega)
  rw [dec_cesu hp _ (Nat.le_refl _)] at e222
  have e222 : s222.F [.bytes (encs ((plainOf t).flatMap parts))] = some (.ok (.list ((plainOf t).map .int))) := e222
  have e222p := f222 (encs (plainOf t)) (by omega)
  rw [dec_cesu_far hp _ (Nat.le_refl _)] at e222p
  have e308c := f308 (f := 222) (F := s222.F) rfl e222p
  have e250w := f250 (encs ((plainOf t).flatMap parts)) (by omega)
  rw [dec_wtf_pair hp _ (Nat.le_refl _)] at e250w
  have e308w := f308 (f := 250) (F := s250.F) rfl e250w
  have e367 := f367 t hv hl
  -- paired
  have hj := joinP_mem _ t (Nat.le_refl _) hv
  have hjl := joinP_len _ t (Nat.le_refl _)
  have e355 := f355 t hok (by omega)
  have e243 := f243 t hok (by omega)
  have e341j := f341 (joinP t) (fun c hc => (row (hj c hc)).ok) (by omega)
  rw [bts_encs] at e243 e341j
  have lj := encs_len (joinP t) hj
  have e250 := f250 (encs (joinP t)) (by omega)
  rw [dec_wtf (joinP t) hj (NP_joinP _ t (Nat.le_refl _)) _ (Nat.le_refl _)] at e250
  have e250 : s250.F [.bytes (encs (joinP t))] = some (.ok (.list ((joinP t).map .int))) := e250
  -- parted
  have e348t := f348 t hok (by omega)
  have e229 := f229 t hok (by omega)
  rw [mod_same t hv] at e229
  have ld : ((t.flatMap parts).flatMap encM).length ≤ 100 := by
    have := (flat_ok (f := modI) (text := t) fun c hc => ⟨(mod_ok (hok c hc)).1, by have := (mod_ok (hok c hc)).2; omega⟩).2
    rw [← mod_same t hv]
    unfold bts
    rw [List.length_map]
    omega
  have e236 := f236 ((t.flatMap parts).flatMap encM) (by omega)
  rw [dec_mod _ htp _ (Nat.le_refl _)] at e236
  have e236 : s236.F [.bytes ((t.flatMap parts).flatMap encM)] = some (.ok (.list ((joinP (t.flatMap parts)).map .int))) := e236
  have e355p := f355 (t.flatMap parts) (fun c hc => (row (htp c hc).1).ok) (by omega)
  have ejoin := join_of encM (t.flatMap parts) (by omega) (by omega)
  have c2 : clipL (compM 1 (fun _ => none) (EM.pure true) (((rd 1).bind fun x => EM.lift (cmpD CmpOp.Eq x (Dat.int 0))).bind fun x => if x = true then EM.pure (Dat.bytes [192, 128]) else ((((rd 1).bind fun x => EM.pure [x]).bind fun ds => EM.lift (if ds.length ≤ 64 then some (Dat.list ds) else none)).bind fun x => EM.pure [x]).bind fun ds => liftR (s341.F ds)) ((t.flatMap parts).map .int)) = some ((t.flatMap parts).map fun x => Dat.bytes (encM x)) := by
    rw [comp_of .int (fun x => Dat.bytes (encM x)) (fun _ => true) (t.flatMap parts) (fun c _ => rfl) (fun c hc _ => ?_)]
    · rw [List.filter_eq_self.mpr (fun _ _ => rfl)]
      exact clip_eq (by rw [List.length_map]; omega)
    · have h1 := f341 [c] (fun x hx => by
        rcases List.mem_cons.mp hx with e | hx
        · subst e; exact (row (htp _ hc).1).ok
        · cases hx) (by simp)
      rw [bts_encs, encs_one] at h1
      have h1 : s341.F [Dat.list [Dat.int c]] = some (.ok (.bytes (enc c))) := h1
      unfold encM
      by_cases h : c = 0
      · rw [if_pos h]
        exists h
      · rw [if_neg h]
        exists h, h1
  unfold s372
  dsimp only [d_pure]
  refine (if_pos rfl).trans (r_seq (by exists c1) (r_seq (by exists e348, e341w) (r_seq (by exists e108, e341p, (neb_self _), e129, (nel_self _)) (r_seq (by exists e215, (neb_self _), e222, (nel_self _)) ?_))))
  refine r_seq (ρ' := ((startOf [0] [.list (t.map .int)]).put 1 (.list ((plainOf t).map .int))).put 2 (.bytes (encs ((plainOf t).flatMap parts)))) ?_ ?_
  · by_cases heq : encs ((plainOf t).flatMap parts) = encs (plainOf t)
    · exists e341p, (v_neb _ _), heq
    · have hb : ¬ (plainOf t).all bmp = true := fun hb => heq (wide_same hb)
      have hnn : cmpD .NotEq (.list [told none, told none]) (.list [.none, .none]) = some false := (congrArg (Option.map (!·)) eq_nones)
      rw [if_neg hb] at e308c e308w
      exists e341p, (v_neb _ _), heq, e308c, e308w, (b_mul2 _), hnn
  refine r_seq (by exists e367) (r_seq (by exists e355, e243) (r_seq (by exists e341j, (neb_self _), e250, (nel_self _)) (r_seq (by exists e348t) (r_seq (by exists c2, ejoin) ?_))))
  exact r_of (by exists e229, (eqb_self _), e236, e355p, (eql_self _)) rfl
noncomputable def menuL : List Int := [65, 127, 128, 143, 144, 159, 160, 191, 192, 193, 194, 223, 224, 225, 237, 239, 240, 241, 244, 245, 255, 0, 236, 238, 243]
noncomputable def menuAt (c : Int) : Int := menuL.getD (c % 25).toNat 0
noncomputable def codeAt (c : Int) : Int := codesL.getD (c / 25 % 16).toNat 0
theorem getD_mem {L : List Int} {i : Nat} (h : i < L.length) : L.getD i 0 ∈ L := by
  rw [List.getD_eq_getElem?_getD, List.getElem?_eq_getElem h]
  exact List.getElem_mem h
theorem itemD_in {L : List Int} {i : Int} (h0 : 0 ≤ i) (h : i < L.length) (h' : L.length ≤ 4096) : itemD (.list (L.map .int)) i = some (.int (L.getD i.toNat 0)) := by
  unfold itemD
  dsimp only
  rw [List.length_map, if_pos h', if_pos h0, List.getElem?_map, List.getElem?_eq_getElem (by omega), List.getD_eq_getElem?_getD, List.getElem?_eq_getElem (by omega)]
  rfl
theorem menu_ok (c : Int) : 0 ≤ menuAt c ∧ menuAt c < 256 := by
  have h : menuAt c ∈ menuL := getD_mem (by have : menuL.length = 25 := rfl; omega)
  have : ∀ x ∈ menuL, 0 ≤ x ∧ x < 256 := by decide
  exact this _ h
theorem code_in (c : Int) : codeAt c ∈ codesL := getD_mem (by have : codesL.length = 16 := rfl; omega)
theorem m_big (a : Int) : binD .Mod (.int a) (.int 1000000007) = some (.int (a % 1000000007)) := b_mod _ _ (by decide)
theorem m_25 (a : Int) : binD .Mod (.int a) (.int 25) = some (.int (a % 25)) := b_mod _ _ (by decide)
theorem m_16 (a : Int) : binD .Mod (.int a) (.int 16) = some (.int (a % 16)) := b_mod _ _ (by decide)
theorem m_3 (a : Int) : binD .Mod (.int a) (.int 3) = some (.int (a % 3)) := b_mod _ _ (by decide)
theorem d_25 (a : Int) : binD .FloorDiv (.int a) (.int 25) = some (.int (a / 25)) := b_div _ _ (by decide)
theorem slice_list (l : List Int) (n : Nat) (h : l.length ≤ 4096) : sliceD (.list (l.map .int)) none (some (n : Int)) = some (.list ((l.take n).map .int)) := by
  unfold sliceD
  dsimp only
  rw [List.length_map, if_pos h]
  unfold sliceL
  simp only [Option.elim, List.drop_zero, Nat.sub_zero, clip_nat, List.length_map, List.map_take]
  congr 2
  by_cases q : n ≤ l.length
  · rw [Nat.min_eq_left q]
  · rw [Nat.min_eq_right (by omega), List.take_of_length_le (by simp), List.take_of_length_le (by simp; omega)]
theorem f377 (ns : List Int) (hl : ns.length ≤ 63) : (s377 feedP hFeed).F [.list (ns.map .int)] = some (.ok (.bool true)) := by
  have s10 : sliceD (.list (ns.map .int)) none (some 10) = some (.list ((ns.take 10).map .int)) := slice_list ns 10 (by omega)
  have c1 : clipL (compM 1 (fun _ => none) (EM.pure true) ((((rd 1).bind fun x => EM.pure [x]).bind fun ds => EM.lift (intF ds)).bind fun x => EM.lift (binD Operator.Mod x (Dat.int 1000000007))) ((ns.take 10).map .int)) = some (((ns.take 10).map (· % 1000000007)).map .int) := by
    rw [comp_of .int (fun n => .int (n % 1000000007)) (fun _ => true) (ns.take 10) (fun _ _ => rfl) (fun n _ _ => ?_)]
    · rw [List.filter_eq_self.mpr (fun _ _ => rfl), List.map_map]
      exact clip_eq (by rw [List.length_map, List.length_take]; omega)
    · have : intF [.int n] = some (.int n) := rfl
      exists this, (m_big _)
  have hcl : ((ns.take 10).map (· % 1000000007)).length ≤ 10 := by rw [List.length_map, List.length_take]; omega
  generalize (ns.take 10).map (· % 1000000007) = cells at *
  have c2 : clipL (compM 1 (fun _ => none) (EM.pure true) (((rd 1).bind fun x => EM.lift (binD Operator.Mod x (Dat.int 25))).bind fun y => EM.lift ((intOf y).bind fun i => itemD (Dat.list (List.map Dat.int [65, 127, 128, 143, 144, 159, 160, 191, 192, 193, 194, 223, 224, 225, 237, 239, 240, 241, 244, 245, 255, 0, 236, 238, 243])) i)) (cells.map .int)) = some ((cells.map menuAt).map .int) := by
    rw [comp_of .int (fun n => .int (menuAt n)) (fun _ => true) cells (fun _ _ => rfl) (fun n _ _ => ?_)]
    · rw [List.filter_eq_self.mpr (fun _ _ => rfl), List.map_map]
      exact clip_eq (by rw [List.length_map]; omega)
    · have h25 : menuL.length = 25 := rfl
      have : itemD (.list (menuL.map .int)) (n % 25) = some (.int (menuAt n)) := itemD_in (by omega) (by omega) (by omega)
      unfold menuL at this
      exists (m_25 _), this
  have s8 : sliceD (.list (cells.map .int)) none (some 8) = some (.list ((cells.take 8).map .int)) := slice_list cells 8 (by omega)
  have c3 : clipL (compM 1 (fun _ => none) (EM.pure true) ((((rd 1).bind fun x => EM.lift (binD Operator.FloorDiv x (Dat.int 25))).bind fun x => EM.lift (binD Operator.Mod x (Dat.int 16))).bind fun y => EM.lift ((intOf y).bind fun i => itemD (Dat.list (List.map Dat.int [0, 65, 127, 128, 2047, 2048, 55295, 55296, 56319, 56320, 57343, 57344, 65535, 65536, 128512, 1114111])) i)) ((cells.take 8).map .int)) = some (((cells.take 8).map codeAt).map .int) := by
    rw [comp_of .int (fun n => .int (codeAt n)) (fun _ => true) (cells.take 8) (fun _ _ => rfl) (fun n _ _ => ?_)]
    · rw [List.filter_eq_self.mpr (fun _ _ => rfl), List.map_map]
      exact clip_eq (by rw [List.length_map, List.length_take]; omega)
    · have h16 : codesL.length = 16 := rfl
      have : itemD (.list (codesL.map .int)) (n / 25 % 16) = some (.int (codeAt n)) := itemD_in (by omega) (by omega) (by omega)
      unfold codesL at this
      exists (d_25 _), (m_16 _), this
  have hb : bytesF [.list ((cells.map menuAt).map .int)] = some (.bytes (bts (cells.map menuAt))) := bytesF_ints _ (fun n hn => by
    obtain ⟨c, _, rfl⟩ := List.mem_map.mp hn
    exact menu_ok c) (by rw [List.length_map]; omega)
  have hol : (bts (cells.map menuAt)).length ≤ 10 := by unfold bts; rw [List.length_map, List.length_map]; exact hcl
  have hsum : sumF [.list (cells.map .int)] = some (.int cells.sum) := by
    unfold sumF
    dsimp only
    rw [intsD_ints]
    rfl
  have hm3 := m_3 cells.sum
  have hsz : binD .Add (.int 1) (.int (cells.sum % 3)) = some (.int ((1 + (cells.sum % 3).toNat : Nat) : Int)) := by rw [b_add]; congr 2; omega
  have hs3 : (cells.sum % 3).toNat < 3 := by omega
  generalize (cells.sum % 3).toNat = k at *
  have htv : ∀ c ∈ (cells.take 8).map codeAt, c ∈ codesL := fun c hc => by
    obtain ⟨d, _, rfl⟩ := List.mem_map.mp hc
    exact code_in d
  have htl : ((cells.take 8).map codeAt).length ≤ 8 := by rw [List.length_map, List.length_take]; omega
  generalize (cells.take 8).map codeAt = t at *
  generalize bts (cells.map menuAt) = o at *
  have h327 := f327 o (by omega) (1 + k) (by omega) (by omega)
  have h372 := f372 t htv htl
  have h355 := f355 t (fun c hc => (row (codes_all (htv c hc))).ok) (by omega)
  have hj := joinP_mem _ t (Nat.le_refl _) htv
  have hjl := joinP_len _ t (Nat.le_refl _)
  have h341 := f341 (joinP t) (fun c hc => (row (hj c hc)).ok) (by omega)
  rw [bts_encs] at h341
  have lj := encs_len (joinP t) hj
  generalize encs (joinP t) = w at *
  have sw : sliceD (.bytes w) (some 1) (some 8) = some (.bytes ((w.drop 1).take 7)) := slice_mid w 1 8 (by omega)
  have so : sliceD (.bytes o) none (some 2) = some (.bytes (o.take 2)) := slice_to o 2 (by omega)
  have l1 : ((w.drop 1).take 7).length ≤ 7 := by rw [List.length_take]; omega
  have l2 : (o.take 2).length ≤ 2 := by rw [List.length_take]; omega
  have hadd : binD .Add (.bytes ((w.drop 1).take 7)) (.bytes (o.take 2)) = some (.bytes ((w.drop 1).take 7 ++ o.take 2)) := b_addb _ _ (by omega)
  have h327' := f327 ((w.drop 1).take 7 ++ o.take 2) (by rw [List.length_append]; omega) (1 + k) (by omega) (by omega)
  unfold s377
  dsimp only [d_pure]
  refine (if_pos rfl).trans (r_seq (by exists s10, c1) (r_seq (by exists c2, hb) (r_seq (by exists s8, c3) (r_seq (by exists hsum, hm3, hsz) (r_seq (by exists h327, h372) ?_)))))
  exact r_of (by exists h355, h341, sw, so, hadd, h327') rfl
end Mine
end
section
open PySem PySem.W PyProof.Rows
set_option Elab.async false
namespace Mine
theorem law_true (prog : Program) (w : World) (h0 : Heap) (G : Gd w h0) : ∃ F, CallSpec prog w h0 377 34 F ∧ ∀ ns : List Int, ns.length ≤ 63 → F [.list (ns.map .int)] = some (.ok (.bool true)) :=
  ⟨_, ((s377 feedP hFeed).ok prog w h0 G).1, fun ns hl => f377 ns hl⟩
end Mine
theorem PySem.Challenge.cw_nt0017_01_holds : PySem.Challenge.rw_nt0017_01.Holds :=
  Mine.fin_of (Mine.left_of Mine.run_a Mine.run_b Mine.run_c) Mine.law_true
end
